import PyProof.Rows.All
import PyProof.P3Statements
import PyProof.StrBlock
import PyProof.StrBlock2
import PyProof.StrBlockL
import PyProof.SliceMore
import PyProof.Fits
import PyProof.StrCalls6
import PyProof.Cells
import PyProof.Comp
import PyProof.PlainList
import PyProof.IsRules
import PyProof.TupleIter
import PyProof.RangeIter
import PyProof.EnumMake
import PyProof.DelItemList
import PyProof.EqLayable
import PyProof.P3In
import PyProof.Rows.IntRules
import PyProof.Rows.RuleB_mul
import PyProof.Rows.RuleB_mod
import PyProof.Rows.RuleB_floordiv
import PyProof.Rows.RuleB_pow
import PyProof.Rows.RuleB_rshift
import PyProof.Rows.RuleB_or
import PyProof.Rows.RuleC_int
import PyProof.Rows.RuleC_bool
import PyProof.Rows.RuleIs
import PyProof.Rows.StrRules
import PyProof.Rows.Catch
import PyProof.Rows.Nodes
import PyProof.Rows.RuleU_int
import PyProof.Rows.Tup
import PyProof.ListOps
import PyProof.NoPylong
import PyProof.Rows.StrTemp
import PyProof.Rows.StrOrd
import PyProof.CallFns
import PyProof.IsiPairs
import PyProof.IsiNone
import PyProof.IsiHeapPairs
import PyProof.Methods
import PyProof.ListIndexNeg
import PyProof.SliceStr2
import KE.KRevSl
import PyProof.StrCalls
import PyProof.StrCalls3
import PyProof.StrCalls2
import PyProof.ConsumeWalk
import PyProof.Rows.SortWalk
import PyProof.Rows.SeqMore
import PyProof.ToksMono
import PyProof.CallRoads
import PyProof.StrCalls5
import PyProof.Rows.Exc
import PyProof.WalksMore
import PyProof.StrWalks
import PyProof.RangeFor
import OpenK.Peek
import PyProof.StrLawsIn
import PyProof.StrLawsLast
import PyProof.Rows.StrCountLaw
import PyProof.P3Eq
import PyProof.TableCode
import Wide.All
import OpenK.AllK
import Wide.FinOn
import PySem.Challenge.RW_k12_0040

set_option Elab.async false
set_option linter.all false

section
namespace Mine
open PySem

/-- values of the small reading: lists are objects (ref), tuples (never changed) are values -/
inductive V where
  | none
  | bool (b : Bool)
  | int (i : Int)
  | str (s : Str)
  | type (n : String)
  | tup (vs : List V)
  | ref (a : Nat)

abbrev Hp := List (List V)
abbrev Rho := Str → Option V
abbrev Kap := Str → Option NameKind

inductive Fl where
  | next | brk | cont
  | ret (v : V)

mutual
noncomputable def V.beq : V → V → Bool
  | .none, .none => true
  | .bool a, .bool b => a == b
  | .int a, .int b => a == b
  | .str a, .str b => a == b
  | .type a, .type b => a == b
  | .tup a, .tup b => V.beqs a b
  | .ref a, .ref b => a == b
  | _, _ => false
noncomputable def V.beqs : List V → List V → Bool
  | [], [] => true
  | a :: as, b :: bs => V.beq a b && V.beqs as bs
  | _, _ => false
end

structure Glob where
  val : Str → Option V
  isFn : Str → Bool
  fn : Str → List V → Hp → Option (V × Hp)
  /-- functions without arguments that return a written dict, by its pairs -/
  dct : Str → Option (List (Str × V))
  /-- how many tokens are surely there -/
  z : Nat

/-! reading a value as plain data -/
noncomputable def rdAll (f : V → Option PyData) : List V → Option (List PyData)
  | [] => some []
  | v :: vs => (f v).bind fun d => (rdAll f vs).map (d :: ·)
noncomputable def rd : Nat → Hp → V → Option PyData
  | _, _, .none => some .none
  | _, _, .bool b => some (.bool b)
  | _, _, .int i => some (.int i)
  | _, _, .str s => if s.cps.all (· < 0x110000) then some (.str s) else none
  | n + 1, h, .tup vs => (rdAll (rd n h) vs).map .tuple
  | n + 1, h, .ref a => (h[a]?).bind fun vs => (rdAll (rd n h) vs).map .list
  | _, _, _ => none

noncomputable def cval : Const → Option V
  | .none => some .none
  | .bool b => some (.bool b)
  | .int i => some (.int i)
  | .str s => if s.length ≤ sizeLine then some (.str s) else none
  | _ => none

noncomputable def builtinType (x : Str) : Option V :=
  if x = "list" then some (.type "list") else if x = "tuple" then some (.type "tuple") else if x = "str" then some (.type "str") else if x = "bool" then some (.type "bool") else none

noncomputable def nameV (g : Glob) (κ : Kap) (ρ : Rho) (x : Str) : Option V :=
  if x = "__debug__" ∨ x = "__classdict__" then none else
  match κ x with
  | some .local | some .cell | some .free => ρ x
  | some .globalImplicit => match g.val x with
    | some v => some v
    | none => if g.isFn x then none else builtinType x
  | _ => none

noncomputable def truthV : V → Option Bool
  | .bool b => some b
  | _ => none

noncomputable def binop (op : Operator) (x y : V) (h : Hp) : Option (V × Hp) :=
  match op, x, y with
  | .Add, .int a, .int b => some (.int (a + b), h)
  | .Sub, .int a, .int b => some (.int (a - b), h)
  | .Mod, .int a, .int b => if b = 0 then none else some (.int (a.fmod b), h)
  | .FloorDiv, .int a, .int b => if b ≠ 0 ∧ b.natAbs < 1073741824 then some (.int (a.fdiv b), h) else none
  | .Add, .ref a, .ref b => (h[a]?).bind fun xs => (h[b]?).bind fun ys => if xs.length + ys.length ≤ sizeLine then some (.ref h.length, h ++ [xs ++ ys]) else none
  | _, _, _ => none

noncomputable def unop (op : UnaryOp) (x : V) : Option V :=
  match op, x with
  | .USub, .int a => some (.int (-a))
  | .Not, .bool b => some (.bool (!b))
  | _, _ => none

noncomputable def eqV (h : Hp) (x y : V) : Option Bool :=
  match x, y with
  | .int a, .int b => some (a == b)
  | .str a, .str b => some (a == b)
  | .bool a, .bool b => some (a == b)
  | _, _ => (rd 8 h x).bind fun d => (rd 8 h y).map fun e => PyData.eqv d e

noncomputable def inV (h : Hp) (x c : V) : Option Bool :=
  match c with
  | .str s => match x with | .str y => some (Txt.contains s y) | _ => none
  | .tup vs => (rd 8 h x).bind fun d => (rdAll (rd 8 h) vs).map fun ds => ds.any fun y => PyData.eqv y d
  | .ref a => (h[a]?).bind fun vs => (rd 8 h x).bind fun d => (rdAll (rd 8 h) vs).map fun ds => ds.any fun y => PyData.eqv y d
  | _ => none

noncomputable def cmpop (op : CmpOp) (x y : V) (h : Hp) : Option Bool :=
  match op with
  | .Eq => eqV h x y
  | .NotEq => (eqV h x y).map (!·)
  | .Lt => match x, y with | .int a, .int b => some (decide (a < b)) | _, _ => none
  | .LtE => match x, y with | .int a, .int b => some (decide (a ≤ b)) | _, _ => none
  | .Gt => match x, y with | .int a, .int b => some (decide (b < a)) | _, _ => none
  | .GtE => match x, y with | .int a, .int b => some (decide (b ≤ a)) | _, _ => none
  | .Is => match x, y with | .bool a, .bool b => some (a == b) | .type a, .type b => some (a == b) | _, _ => none
  | .IsNot => match x, y with | .bool a, .bool b => some (a != b) | .type a, .type b => some (a != b) | _, _ => none
  | .In => inV h x y
  | .NotIn => (inV h x y).map (!·)

noncomputable def typeV (_h : Hp) : V → Option String
  | .bool _ => some "bool"
  | .int _ => some "int"
  | .str _ => some "str"
  | .tup _ => some "tuple"
  | .ref _ => some "list"
  | .none => some "NoneType"
  | _ => none

noncomputable def intsOf : List V → Option (List Int)
  | [] => some []
  | .int i :: r => (intsOf r).map (i :: ·)
  | _ => none
noncomputable def boolsOf : List V → Option (List Bool)
  | [] => some []
  | .bool i :: r => (boolsOf r).map (i :: ·)
  | _ => none
noncomputable def strsOf : List V → Option (List Str)
  | [] => some []
  | .str i :: r => (strsOf r).map (i :: ·)
  | _ => none

noncomputable def insertI (x : Int) : List Int → List Int
  | [] => [x]
  | y :: r => if x < y then x :: y :: r else y :: insertI x r
noncomputable def sortI : List Int → List Int
  | [] => []
  | x :: r => insertI x (sortI r)

/-- the built-in functions -/
noncomputable def callB (f : Str) (as : List V) (h : Hp) : Option (V × Hp) :=
  if f = "len" then
    match as with
    | [.str s] => some (.int s.length, h)
    | [.tup vs] => some (.int vs.length, h)
    | [.ref a] => (h[a]?).map fun xs => (.int xs.length, h)
    | _ => none
  else if f = "ord" then
    none
  else if f = "chr" then
    match as with
    | [.int i] => if 0 ≤ i ∧ i < 0x110000 then some (.str ⟨#[i.toNat]⟩, h) else none
    | _ => none
  else if f = "isinstance" then
    match as with
    | [v, .type t] => if t = "tuple" ∨ t = "str" ∨ t = "bool" then (typeV h v).map fun u => (.bool (u == t), h) else none
    | _ => none
  else if f = "type" then
    none
  else if f = "sorted" then
    match as with
    | [.ref a] => (h[a]?).bind fun xs => (intsOf xs).bind fun ns => if ns.length < 64 then some (.ref h.length, h ++ [(sortI ns).map .int]) else none
    | _ => none
  else if f = "any" then
    match as with
    | [.ref a] => (h[a]?).bind fun xs => (boolsOf xs).map fun bs => (.bool (bs.any id), h)
    | _ => none
  else none

/-- methods -/
noncomputable def callM (b : Nat) (m : Str) (o : V) (as : List V) (h : Hp) : Option (V × Hp) :=
  match o with
  | .ref a =>
    if m = "append" then
      match as with
      | [v] => (h[a]?).bind fun xs => if b ≤ a ∧ xs.length ≤ 1000000 then some (.none, h.set a (xs ++ [v])) else none
      | _ => none
    else if m = "pop" then
      match as with
      | [] => (h[a]?).bind fun xs => if b ≤ a then (xs.getLast?).map fun v => (v, h.set a xs.dropLast) else none
      | _ => none
    else none
  | .str s =>
    if m = "join" then
      match as with
      | [.ref a] => (h[a]?).bind fun xs => (strsOf xs).bind fun ss => if JoinOk s ss then some (.str (Txt.join s ss), h) else none
      | _ => none
    else if m = "rfind" then
      none
    else if m = "count" then
      none
    else none
  | _ => none

noncomputable def idx (o i : V) (h : Hp) : Option V :=
  match o, i with
  | .str s, .int k => ((seqIndex? k s.length).bind (s.cps[·]?)).map fun c => .str ⟨#[c]⟩
  | .tup vs, .int k => (seqIndex? k vs.length).bind (vs[·]?)
  | .ref a, .int k => (h[a]?).bind fun vs => (seqIndex? k vs.length).bind (vs[·]?)
  | _, _ => none

noncomputable def partV : V → Option (Option Int)
  | .none => some none
  | .int i => some (some i)
  | _ => none

noncomputable def cutL {α : Type} (xs : List α) (lo hi : Option Int) : List α :=
  (xs.drop (lo.elim 0 (clipAt xs.length))).take (hi.elim xs.length (clipAt xs.length) - lo.elim 0 (clipAt xs.length))

noncomputable def slice (o l u st : V) (h : Hp) : Option (V × Hp) :=
  (partV l).bind fun lo => (partV u).bind fun hi =>
  match st with
  | .none => match o with
    | .ref a => (h[a]?).bind fun xs => some (.ref h.length, h ++ [cutL xs lo hi])
    | .str s => some (.str ⟨(cutL s.cps.toList lo hi).toArray⟩, h)
    | _ => none
  | _ => none

abbrev Rec := Expr → Kap → Rho → Hp → Option (V × Hp)
abbrev RecT := Expr → Kap → Rho → Hp → Option (Bool × Hp)

noncomputable def notStar : Expr → Bool
  | .Starred .. => false
  | _ => true
noncomputable def notSet : Expr → Bool
  | .Set .. => false
  | _ => true

noncomputable def evs (rec : Rec) (κ : Kap) (ρ : Rho) : List Expr → Hp → Option (List V × Hp)
  | [], h => some ([], h)
  | e :: r, h => if notStar e then (rec e κ ρ h).bind fun p => (evs rec κ ρ r p.2).map fun q => (p.1 :: q.1, q.2) else none

noncomputable def evBool (rec : Rec) (op : BoolOp) (κ : Kap) (ρ : Rho) : List Expr → Hp → Option (V × Hp)
  | [], _ => none
  | [e], h => rec e κ ρ h
  | e :: r, h => (rec e κ ρ h).bind fun p => (truthV p.1).bind fun t =>
    match op, t with
    | .And, false | .Or, true => some p
    | _, _ => evBool rec op κ ρ r p.2

noncomputable def cmpChain (rec : Rec) (κ : Kap) (ρ : Rho) : V → List CmpOp → List Expr → Hp → Option (Bool × Hp)
  | x, [op], [e], h => if notSet e then (rec e κ ρ h).bind fun p => (cmpop op x p.1 p.2).map (·, p.2) else none
  | _, _, _, _ => none

noncomputable def evOpt (rec : Rec) (κ : Kap) (ρ : Rho) : Option Expr → Hp → Option (V × Hp)
  | none, h => some (.none, h)
  | some e, h => rec e κ ρ h

/-- what a for goes over: its items, and the look that the list is as it was -/
noncomputable def itemsOf (v : V) (h : Hp) : Option (List V × Option Nat) :=
  match v with
  | .str s => some (s.cps.toList.map fun c => .str ⟨#[c]⟩, none)
  | .tup vs => some (vs, none)
  | .ref a => (h[a]?).map fun xs => (xs, some a)
  | _ => none

noncomputable def rangeV (lo hi : Int) : List V := (List.range (hi - lo).toNat).map fun i : Nat => .int (lo + i)

noncomputable def isGlobalB (g : Glob) (κ : Kap) (f : Str) : Bool := κ f == some .globalImplicit && (g.val f).isNone && !g.isFn f

noncomputable def rangeArgs : List V → Option (Int × Int)
  | [.int n] => if n.natAbs ≤ 2 ^ 40 then some (0, n) else none
  | [.int m, .int n] => if m.natAbs ≤ 2 ^ 40 ∧ n.natAbs ≤ 2 ^ 40 then some (m, n) else none
  | _ => none

noncomputable def rangeCall : Expr → Option (Str × List Expr)
  | .Call (.Name f _) args [] _ => if f = "range" then some (f, args) else none
  | _ => none

noncomputable def evIter (g : Glob) (rec : Rec) (κ : Kap) (ρ : Rho) (e : Expr) (h : Hp) : Option ((List V × Option Nat) × Hp) :=
  if notSet e then
    match rangeCall e with
    | some (f, args) => if isGlobalB g κ f then (evs rec κ ρ args h).bind fun q => (rangeArgs q.1).map fun r => ((rangeV r.1 r.2, none), q.2) else none
    | none => (rec e κ ρ h).bind fun p => (itemsOf p.1 p.2).map (·, p.2)
  else none

noncomputable def chk (c : Option Nat) (items : List V) (h : Hp) : Bool :=
  match c with
  | none => true
  | some a => match h[a]? with | some xs => V.beqs xs items | none => false

noncomputable def loopL (c : Option Nat) (all : List V) (f : V → Hp → Option Hp) : List V → Hp → Option Hp
  | [], h => if chk c all h then some h else none
  | x :: xs, h => if chk c all h then (f x h).bind (loopL c all f xs) else none

noncomputable def loopS (c : Option Nat) (all : List V) (f : V → Rho → Hp → Option (Fl × Rho × Hp)) : List V → Rho → Hp → Option (Fl × Rho × Hp)
  | [], ρ, h => if chk c all h then some (.next, ρ, h) else none
  | x :: xs, ρ, h => if chk c all h then (f x ρ h).bind fun q => match q.1 with
      | .next | .cont => loopS c all f xs q.2.1 q.2.2
      | .brk => some (.next, q.2)
      | .ret v => some (.ret v, q.2) else none

noncomputable def upd (ρ : Rho) (x : Str) (v : V) : Rho := fun y => if y = x then some v else ρ y

/-- a for's target: a name, or a tuple of names -/
noncomputable def bindNames (ω : Str → Bool) : List Expr → List V → Rho → Option Rho
  | [], [], ρ => some ρ
  | .Name x _ :: r, v :: vs, ρ => if ω x then bindNames ω r vs (upd ρ x v) else none
  | _, _, _ => none
noncomputable def bindT (ω : Str → Bool) (t : Expr) (v : V) (ρ : Rho) : Option Rho :=
  match t with
  | .Name x _ => if ω x then some (upd ρ x v) else none
  | .Tuple ts _ _ => match v with | .tup vs => bindNames ω ts vs ρ | _ => none
  | _ => none

noncomputable def tsts (recT : RecT) (κ : Kap) (ρ : Rho) : List Expr → Hp → Option (Bool × Hp)
  | [], h => some (true, h)
  | e :: r, h => (recT e κ ρ h).bind fun p => if p.1 then tsts recT κ ρ r p.2 else some (false, p.2)

noncomputable def ownName (scope : Scope) (x : Str) : Bool := scope.names.lookup x == some .local || scope.names.lookup x == some .cell

/-- the kinds inside a comprehension -/
noncomputable def compKap (scope : Scope) (κ : Kap) : Kap := fun x => match scope.names.lookup x with
  | some .free => if κ x == some .cell then some .cell else some .free
  | k => k

/-- free names of the scope are cells around -/
noncomputable def freeOk (scope : Scope) (κ : Kap) : Bool := scope.kind == .function && scope.names.all fun p => scope.names.lookup p.1 == some p.2 && (p.2 != .free || (κ p.1 == some .cell || κ p.1 == some .free))

noncomputable def appendTo (acc : Nat) (v : V) (h : Hp) : Option Hp :=
  (h[acc]?).bind fun xs => if xs.length ≤ 1000000 then some (h.set acc (xs ++ [v])) else none

/-- a comprehension's target is not bound around it -/
noncomputable def freshT (t : Expr) (ρ : Rho) : Bool :=
  match t with
  | .Name x _ => (ρ x).isNone
  | _ => false

noncomputable def cgo (g : Glob) (rec : Rec) (recT : RecT) (ω : Str → Bool) (elt : Expr) (acc : Nat) (κ : Kap) : List Comprehension → Rho → Hp → Option Hp
  | [], ρ, h => (rec elt κ ρ h).bind fun p => appendTo acc p.1 p.2
  | g1 :: rest, ρ, h =>
    if g1.is_async = 0 ∧ freshT g1.target ρ = true then
    (evIter g rec κ ρ g1.iter h).bind fun q => loopL q.1.2 q.1.1 (fun x h => (bindT ω g1.target x ρ).bind fun ρ' =>
      (tsts recT κ ρ' g1.ifs h).bind fun p => if p.1 then cgo g rec recT ω elt acc κ rest ρ' p.2 else some p.2) q.1.1 q.2
    else none

noncomputable def evComp (g : Glob) (rec : Rec) (recT : RecT) (elt : Expr) (gens : List Comprehension) (scope : Scope) (κ : Kap) (ρ : Rho) (h : Hp) : Option (V × Hp) :=
  match gens with
  | [] => none
  | g1 :: rest =>
    if g1.is_async = 0 ∧ freeOk scope κ = true ∧ freshT g1.target (fun y => if ownName scope y then none else ρ y) = true then
    (evIter g rec κ ρ g1.iter h).bind fun q =>
      (loopL q.1.2 q.1.1 (fun x h => (bindT (ownName scope) g1.target x (fun y => if ownName scope y then none else ρ y)).bind fun ρ' =>
        (tsts recT (compKap scope κ) ρ' g1.ifs h).bind fun p => if p.1 then cgo g rec recT (ownName scope) elt q.2.length (compKap scope κ) rest ρ' p.2 else some p.2)
        q.1.1 (q.2 ++ [[]])).map fun h' => (.ref q.2.length, h')
    else none

noncomputable def okBase : Expr → Bool
  | .Call (.Name _ _) [] [] _ => false
  | _ => true

noncomputable def sliceOf : Expr → Option (Option Expr × Option Expr × Option Expr)
  | .Slice l u st _ => some (l, u, st)
  | _ => none
noncomputable def litStr : Expr → Option Str
  | .Constant c _ _ => match c with | .str s => some s | _ => none
  | _ => none
/-- str.replace with two written texts -/
noncomputable def replV (x : V) (y z : Str) (h : Hp) : Option (V × Hp) :=
  match x with
  | .str s => if s.length ≤ 1000 ∧ z.length ≤ 14 ∧ (y == z) = false ∧ (Txt.replace s y z).length ≤ 1000 then some (.str (Txt.replace s y z), h) else none
  | _ => none
noncomputable def repl (x : V) (args : List Expr) (h : Hp) : Option (V × Hp) :=
  match args with
  | [e, f] => (litStr e).bind fun y => (litStr f).bind fun z => replV x y z h
  | _ => none

/-- the functions that are called only where a token has been given out -/
noncomputable def zOf (x : Str) : Nat := if x = "_law_due" then 1 else 0
noncomputable def startsConst : Expr → Bool
  | .Call (.Attribute (.Constant (.str _) _ _) _ _) _ _ _ => true
  | _ => false
noncomputable def tokOk (z : Nat) (f : Str) (args : List Expr) : Bool :=
  decide (zOf f ≤ z) || (match args with | [e] => startsConst e | _ => false)

noncomputable def evF (g : Glob) (b : Nat) (rec : Rec) (recT : RecT) (e : Expr) (κ : Kap) (ρ : Rho) (h : Hp) : Option (V × Hp) :=
  match e with
  | .Constant c _ _ => (cval c).map (·, h)
  | .Name x _ => (nameV g κ ρ x).map (·, h)
  | .BoolOp op vs _ => evBool rec op κ ρ vs h
  | .BinOp l op r _ => (rec l κ ρ h).bind fun p => (rec r κ ρ p.2).bind fun q => binop op p.1 q.1 q.2
  | .UnaryOp op x _ => (rec x κ ρ h).bind fun p => (unop op p.1).map (·, p.2)
  | .Compare l ops cs _ => (rec l κ ρ h).bind fun p => (cmpChain rec κ ρ p.1 ops cs p.2).map fun q => (.bool q.1, q.2)
  | .Call f args kws pos => match kws with
    | [] => (match f with
      | .Attribute o m ap => if okBase o ∧ ap.endLine = pos.line ∧ args.length < 30 then
          (rec o κ ρ h).bind fun p => if m = "replace" then (if g.z = 1 then repl p.1 args p.2 else none) else (evs rec κ ρ args p.2).bind fun q => callM b m p.1 q.1 q.2 else none
      | .Name f _ => if κ f = some .globalImplicit ∧ f ≠ "__debug__" ∧ args.length < 30 then
          (if g.isFn f then (if g.val f = none ∧ tokOk g.z f args = true then (evs rec κ ρ args h).bind fun q => g.fn f q.1 q.2 else none)
          else if isGlobalB g κ f then (evs rec κ ρ args h).bind fun q => callB f q.1 q.2 else none) else none
      | _ => none)
    | _ => none
  | .Subscript v i _ => (match sliceOf i with
    | some x => (rec v κ ρ h).bind fun p => (evOpt rec κ ρ x.1 p.2).bind fun q => (evOpt rec κ ρ x.2.1 q.2).bind fun r => (evOpt rec κ ρ x.2.2 r.2).bind fun t =>
        slice p.1 q.1 r.1 t.1 t.2
    | none => (rec v κ ρ h).bind fun p => (rec i κ ρ p.2).bind fun q => (idx p.1 q.1 q.2).map (·, q.2))
  | .List es _ => (evs rec κ ρ es h).bind fun q => if q.1.length ≤ sizeLine then some (.ref q.2.length, q.2 ++ [q.1]) else none
  | .Tuple es _ _ => (evs rec κ ρ es h).bind fun q => if q.1.length ≤ sizeLine then some (.tup q.1, q.2) else none
  | .ListComp elt gens scope _ => evComp g rec recT elt gens scope κ ρ h
  | _ => none

noncomputable def tstAll (recT : RecT) (op : BoolOp) (κ : Kap) (ρ : Rho) : List Expr → Hp → Option (Bool × Hp)
  | [], h => some (op == .And, h)
  | e :: r, h => (recT e κ ρ h).bind fun p =>
    match op, p.1 with
    | .And, false => some (false, p.2)
    | .Or, true => some (true, p.2)
    | _, _ => tstAll recT op κ ρ r p.2

noncomputable def isNotOp : UnaryOp → Bool
  | .Not => true
  | _ => false

noncomputable def tstF (rec : Rec) (recT : RecT) (e : Expr) (κ : Kap) (ρ : Rho) (h : Hp) : Option (Bool × Hp) :=
  match e with
  | .UnaryOp op x _ => if isNotOp op then (recT x κ ρ h).map fun p => (!p.1, p.2) else none
  | .BoolOp op vs _ => tstAll recT op κ ρ vs h
  | .Compare l ops cs _ => (rec l κ ρ h).bind fun p => cmpChain rec κ ρ p.1 ops cs p.2
  | .IfExp .. => none
  | e => (rec e κ ρ h).bind fun p => (truthV p.1).map (·, p.2)

noncomputable def evT (g : Glob) (b : Nat) : Nat → Rec × RecT
  | 0 => (fun _ _ _ _ => none, fun _ _ _ _ => none)
  | n + 1 => (evF g b (evT g b n).1 (evT g b n).2, tstF (evT g b n).1 (evT g b n).2)

abbrev RecS := Stmt → Rho → Hp → Option (Fl × Rho × Hp)
noncomputable def exs (recS : RecS) : List Stmt → Rho → Hp → Option (Fl × Rho × Hp)
  | [], ρ, h => some (.next, ρ, h)
  | s :: r, ρ, h => (recS s ρ h).bind fun q => match q.1 with
    | .next => exs recS r q.2.1 q.2.2
    | _ => some q

noncomputable def setIdx (b : Nat) (o i v : V) (h : Hp) : Option Hp :=
  match o, i with
  | .ref a, .int k => (h[a]?).bind fun xs => (seqIndex? k xs.length).bind fun j => if b ≤ a then some (h.set a (xs.set j v)) else none
  | _, _ => none
noncomputable def delIdx (b : Nat) (o i : V) (h : Hp) : Option Hp :=
  match o, i with
  | .ref a, .int k => (h[a]?).bind fun xs => (seqIndex? k xs.length).bind fun j => if b ≤ a then some (h.set a (xs.eraseIdx j)) else none
  | _, _ => none

noncomputable def notSlice : Expr → Bool
  | .Slice .. => false
  | _ => true
noncomputable def isNoneV : V → Bool
  | .none => true
  | _ => false
noncomputable def notComp : Expr → Bool
  | .ListComp .. | .SetComp .. | .DictComp .. => false
  | _ => true

noncomputable def exF (g : Glob) (b : Nat) (ω : Str → Bool) (κ : Kap) (rec : Rec) (recT : RecT) (recS : RecS) (st : Stmt) (ρ : Rho) (h : Hp) : Option (Fl × Rho × Hp) :=
  match st with
  | .Expr e _ => if notComp e then (rec e κ ρ h).bind fun p => if isNoneV p.1 then some (.next, ρ, p.2) else none else none
  | .Break _ => some (.brk, ρ, h)
  | .Continue _ => some (.cont, ρ, h)
  | .Return (some e) _ => (rec e κ ρ h).map fun p => (.ret p.1, ρ, p.2)
  | .Assign ts e _ => (match ts with
    | [.Name x _] => if ω x then (rec e κ ρ h).map fun p => (.next, upd ρ x p.1, p.2) else none
    | [.Subscript o i _] => if notComp e && notSlice i then (rec e κ ρ h).bind fun p => (rec o κ ρ p.2).bind fun q => (rec i κ ρ q.2).bind fun r => (setIdx b q.1 r.1 p.1 r.2).map fun h' => (.next, ρ, h') else none
    | _ => none)
  | .Delete ts _ => (match ts with
    | [.Subscript o i _] => if notSlice i then (rec o κ ρ h).bind fun q => (rec i κ ρ q.2).bind fun r => (delIdx b q.1 r.1 r.2).map fun h' => (.next, ρ, h') else none
    | _ => none)
  | .If t body orelse _ => (recT t κ ρ h).bind fun p => if p.1 then exs recS body ρ p.2 else exs recS orelse ρ p.2
  | .For t it body orelse _ => match orelse with
    | [] => (evIter g rec κ ρ it h).bind fun q => loopS q.1.2 q.1.1 (fun x ρ h => (bindT ω t x ρ).bind fun ρ' => exs recS body ρ' h) q.1.1 ρ q.2
    | _ => none
  | _ => none

noncomputable def exT (g : Glob) (b : Nat) (ω : Str → Bool) (κ : Kap) : Nat → RecS
  | 0 => fun _ _ _ => none
  | n + 1 => exF g b ω κ (evT g b n).1 (evT g b n).2 (exT g b ω κ n)

structure FnD where
  params : List Str
  body : List Stmt
  scope : Scope

noncomputable def fuel : Nat := 30

noncomputable def runFn (g : Glob) (f : FnD) (args : List V) (h : Hp) : Option (V × Hp) :=
  if args.length = f.params.length then
    match exs (exT g h.length (fun x => ownName f.scope x) (fun x => f.scope.names.lookup x) fuel) f.body (fun x => (f.params.zip args).reverse.lookup x) h with
    | some (.ret v, _, h') => some (v, h')
    | some (.next, _, h') => some (.none, h')
    | _ => none
  else none

noncomputable def fnIn (x : Str) : List Stmt → Option FnD
  | [] => none
  | .FunctionDef name a body [] _ _ scope _ _ _ :: r => if name = x then some ⟨a.args.map (·.arg), body, scope⟩ else fnIn x r
  | _ :: r => fnIn x r
noncomputable def fnOf (p : Program) (x : Str) : Option FnD := fnIn x p.main.body

noncomputable def dctsOf (_ : Program) (_ : Bool) : Str → Option (List (Str × V)) := fun _ => none

noncomputable def globs (p : Program) (val : Str → Option V) (u : Bool) : Nat → Glob
  | 0 => ⟨val, fun x => (fnOf p x).isSome, fun _ _ _ => none, fun _ => none, 0⟩
  | d + 1 => ⟨val, fun x => (fnOf p x).isSome, fun x args h => (fnOf p x).bind fun f => runFn { globs p val u d with z := zOf x } f args h, dctsOf p u, 0⟩

/-- the top's tables, read by the small reading itself -/
noncomputable def topTab : List Stmt → List (Str × V) → Hp → List (Str × V) × Hp
  | [], tv, h => (tv, h)
  | .Assign [.Name x _] e _ :: r, tv, h =>
    match (evT ⟨fun x => tv.lookup x, fun _ => false, fun _ _ _ => none, fun _ => none, 0⟩ 0 10).1 e (fun _ => none) (fun _ => none) h with
    | some (v, h') => topTab r ((x, v) :: tv) h'
    | none => topTab r tv h
  | _ :: r, tv, h => topTab r tv h

/-- the defs of the text -/
noncomputable def fnList : List Stmt → List (Str × FnD)
  | [] => []
  | .FunctionDef name a body [] _ _ scope _ _ _ :: r => (name, ⟨a.args.map (·.arg), body, scope⟩) :: fnList r
  | _ :: r => fnList r

noncomputable def runLaw (p : Program) (u : Bool) (d : Nat) (ns : List Int) : Option (V × Hp) :=
  let t := topTab p.main.body [] []
  (globs p (fun x => t.1.lookup x) u d).fn "law" [.ref t.2.length] (t.2 ++ [ns.map .int])

end Mine
end

section
set_option autoImplicit false
namespace Mine
open PySem

mutual
/-- the value w of the model, in the heap h, stands for v; σ: the addresses of the small heap's lists -/
inductive VR (σ : List Addr) (h : Heap) : V → Value → Prop
  | none : VR σ h .none .none
  | bool (b) : VR σ h (.bool b) (.bool b)
  | int (i t) : VR σ h (.int i) (.int i t)
  | str (x t) : x.length ≤ sizeLine → VR σ h (.str x) (.str x t)
  | type (n) : VR σ h (.type n) (.type n)
  | tup {vs r o arr n} : h.get? r = some o → o.cls = .type "tuple" → o.data = .seq arr n → VRs σ h vs arr.toList → vs.length ≤ sizeLine → VR σ h (.tup vs) (.ref r)
  | ref {a r} : σ[a]? = some r → VR σ h (.ref a) (.ref r)
inductive VRs (σ : List Addr) (h : Heap) : List V → List Value → Prop
  | nil : VRs σ h [] []
  | cons {v vs w ws} : VR σ h v w → VRs σ h vs ws → VRs σ h (v :: vs) (w :: ws)
end

/-- tuples stand as they stood -/
noncomputable def Tups (h h' : Heap) : Prop := ∀ b o, h.get? b = some o → o.cls = .type "tuple" → (∃ arr n, o.data = .seq arr n) → h'.get? b = some o

theorem Tups.refl (h : Heap) : Tups h h := fun _ _ e _ _ => e
theorem Tups.trans {h₁ h₂ h₃ : Heap} (x : Tups h₁ h₂) (y : Tups h₂ h₃) : Tups h₁ h₃ := fun b o e c d => y b o (x b o e c d) c d
theorem Tups.keeps {h h' : Heap} (k : ∀ b o, h.get? b = some o → h'.get? b = some o) : Tups h h' := fun b o e _ _ => k b o e

theorem getElem?_prefix {σ σ' : List Addr} (p : σ <+: σ') {a : Nat} {r : Addr} (e : σ[a]? = some r) : σ'[a]? = some r := by
  obtain ⟨δ, rfl⟩ := p
  rw [List.getElem?_append_left (by have := List.getElem?_eq_some_iff.mp e; exact this.1)]
  exact e

mutual
theorem VR.mono {σ σ' : List Addr} {h h' : Heap} (p : σ <+: σ') (t : Tups h h') : ∀ {v : V} {w : Value}, VR σ h v w → VR σ' h' v w
  | _, _, .none => .none
  | _, _, .bool b => .bool b
  | _, _, .int i u => .int i u
  | _, _, .str x u l => .str x u l
  | _, _, .type n => .type n
  | _, _, .tup e c d r l => .tup (t _ _ e c ⟨_, _, d⟩) c d (VRs.mono p t r) l
  | _, _, .ref e => .ref (getElem?_prefix p e)
theorem VRs.mono {σ σ' : List Addr} {h h' : Heap} (p : σ <+: σ') (t : Tups h h') : ∀ {vs : List V} {ws : List Value}, VRs σ h vs ws → VRs σ' h' vs ws
  | _, _, .nil => .nil
  | _, _, .cons x r => .cons (VR.mono p t x) (VRs.mono p t r)
end

theorem VRs.length {σ : List Addr} {h : Heap} : ∀ {vs : List V} {ws : List Value}, VRs σ h vs ws → vs.length = ws.length
  | _, _, .nil => rfl
  | _, _, .cons _ r => by simp [VRs.length r]
theorem VRs.get {σ : List Addr} {h : Heap} : ∀ {vs : List V} {ws : List Value} (_ : VRs σ h vs ws) {i : Nat} {v : V}, vs[i]? = some v → ∃ w, ws[i]? = some w ∧ VR σ h v w
  | _, _, .cons x r, 0, v, e => by simp at e; subst e; exact ⟨_, rfl, x⟩
  | _, _, .cons x r, i + 1, v, e => by
    simp at e
    obtain ⟨w, a, b⟩ := VRs.get r e
    exact ⟨w, by simpa using a, b⟩
theorem VRs.append {σ : List Addr} {h : Heap} : ∀ {vs vs' : List V} {ws ws' : List Value}, VRs σ h vs ws → VRs σ h vs' ws' → VRs σ h (vs ++ vs') (ws ++ ws')
  | _, _, _, _, .nil, y => y
  | _, _, _, _, .cons x r, y => .cons x (VRs.append r y)
theorem VRs.set {σ : List Addr} {h : Heap} : ∀ {vs : List V} {ws : List Value} (_ : VRs σ h vs ws) {i : Nat} {v : V} {w : Value}, VR σ h v w → VRs σ h (vs.set i v) (ws.set i w)
  | _, _, .nil, _, _, _, _ => .nil
  | _, _, .cons _ r, 0, _, _, q => .cons q r
  | _, _, .cons x r, _ + 1, _, _, q => .cons x (VRs.set r q)
theorem VRs.eraseIdx {σ : List Addr} {h : Heap} : ∀ {vs : List V} {ws : List Value} (_ : VRs σ h vs ws) {i : Nat}, VRs σ h (vs.eraseIdx i) (ws.eraseIdx i)
  | _, _, .nil, _ => .nil
  | _, _, .cons _ r, 0 => r
  | _, _, .cons x r, _ + 1 => .cons x (VRs.eraseIdx r)
theorem VRs.drop {σ : List Addr} {h : Heap} : ∀ {vs : List V} {ws : List Value} (_ : VRs σ h vs ws) (i : Nat), VRs σ h (vs.drop i) (ws.drop i)
  | _, _, x, 0 => x
  | _, _, .nil, _ + 1 => .nil
  | _, _, .cons _ r, i + 1 => VRs.drop r i
theorem VRs.take {σ : List Addr} {h : Heap} : ∀ {vs : List V} {ws : List Value} (_ : VRs σ h vs ws) (i : Nat), VRs σ h (vs.take i) (ws.take i)
  | _, _, _, 0 => .nil
  | _, _, .nil, _ + 1 => .nil
  | _, _, .cons x r, i + 1 => .cons x (VRs.take r i)
theorem VRs.reverse {σ : List Addr} {h : Heap} : ∀ {vs : List V} {ws : List Value}, VRs σ h vs ws → VRs σ h vs.reverse ws.reverse
  | _, _, .nil => .nil
  | _, _, .cons x r => by rw [List.reverse_cons, List.reverse_cons]; exact VRs.append (VRs.reverse r) (.cons x .nil)

/-- the small heap stands in h -/
structure WR (hT : Heap) (σ : List Addr) (H : Hp) (h : Heap) : Prop where
  len : σ.length = H.length
  obj : ∀ (a : Nat) xs r, H[a]? = some xs → σ[a]? = some r → ∃ arr, h.PlainList r arr ∧ VRs σ h xs arr.toList ∧ xs.length ≤ sizeLine
  nodup : σ.Nodup
  top : ∀ b o, hT.get? b = some o → h.get? b = some o

/-- from h to h': more lists; all that stood stands, but W and the lists from b on -/
structure Ext (W : List Addr) (b : Nat) (σ : List Addr) (h : Heap) (σ' : List Addr) (h' : Heap) : Prop where
  pre : ∃ δ, σ' = σ ++ δ ∧ ∀ r ∈ δ, h.get? r = none
  there : ∀ a o, h.get? a = some o → ∃ o', h'.get? a = some o'
  keep : ∀ a o, h.get? a = some o → a ∉ W → a ∉ σ.drop b → h'.get? a = some o

theorem Ext.refl (W : List Addr) (b : Nat) (σ : List Addr) (h : Heap) : Ext W b σ h σ h := ⟨⟨[], by simp, by simp⟩, fun _ o e => ⟨o, e⟩, fun _ _ e _ _ => e⟩
theorem Ext.prefix {W : List Addr} {b : Nat} {σ σ' : List Addr} {h h' : Heap} (x : Ext W b σ h σ' h') : σ <+: σ' := let ⟨δ, e, _⟩ := x.pre; ⟨δ, e.symm⟩
theorem drop_append_sub {b : Nat} {σ δ : List Addr} {a : Addr} (h : a ∈ (σ ++ δ).drop b) : a ∈ σ.drop b ∨ a ∈ δ := by
  rw [List.drop_append] at h
  rcases List.mem_append.mp h with h | h
  · exact .inl h
  · exact .inr (List.mem_of_mem_drop h)
theorem Ext.trans {W : List Addr} {b : Nat} {σ₁ σ₂ σ₃ : List Addr} {h₁ h₂ h₃ : Heap} (x : Ext W b σ₁ h₁ σ₂ h₂) (y : Ext W b σ₂ h₂ σ₃ h₃) : Ext W b σ₁ h₁ σ₃ h₃ := by
  obtain ⟨δ, rfl, hδ⟩ := x.pre
  obtain ⟨ε, rfl, hε⟩ := y.pre
  refine ⟨⟨δ ++ ε, by simp, fun r hr => ?_⟩, fun a o e => let ⟨o', e'⟩ := x.there a o e; y.there a o' e', fun a o e hw hd => ?_⟩
  · rcases List.mem_append.mp hr with h | h
    · exact hδ r h
    · cases q : h₁.get? r with
      | none => rfl
      | some o =>
        obtain ⟨o', e'⟩ := x.there r o q
        rw [hε r h] at e'; cases e'
  · refine y.keep a o (x.keep a o e hw hd) hw fun hm => ?_
    rcases drop_append_sub hm with h | h
    · exact hd h
    · rw [hδ a h] at e; cases e
theorem Ext.weaken {W W' : List Addr} {b : Nat} {σ σ' : List Addr} {h h' : Heap} (x : Ext W b σ h σ' h') (hs : ∀ a o, h.get? a = some o → a ∈ W → a ∈ W') : Ext W' b σ h σ' h' :=
  ⟨x.pre, x.there, fun a o e hw hd => x.keep a o e (fun q => hw (hs a o e q)) hd⟩
/-- a callee's step is a step of the caller's: it changes nothing of what stood -/
theorem Ext.base {W : List Addr} {b c : Nat} {σ σ' : List Addr} {h h' : Heap} (x : Ext W c σ h σ' h') (hc : b ≤ c) : Ext W b σ h σ' h' :=
  ⟨x.pre, x.there, fun a o e hw hd => x.keep a o e hw fun q => hd (by
    rw [show c = b + (c - b) by omega, ← List.drop_drop] at q
    exact List.mem_of_mem_drop q)⟩

theorem WR.lists {hT : Heap} {σ : List Addr} {H : Hp} {h : Heap} (x : WR hT σ H h) {r : Addr} (hr : r ∈ σ) : ∃ arr, h.PlainList r arr := by
  obtain ⟨a, ha, e⟩ := List.getElem_of_mem hr
  have hH : a < H.length := by rw [← x.len]; exact ha
  obtain ⟨arr, p, _⟩ := x.obj a H[a] r (by simp [hH]) (by rw [List.getElem?_eq_getElem ha, e])
  exact ⟨arr, p⟩
theorem WR.lt {hT : Heap} {σ : List Addr} {H : Hp} {h : Heap} (x : WR hT σ H h) {r : Addr} (hr : r ∈ σ) : r < h.objs.size := by
  obtain ⟨arr, n, e⟩ := x.lists hr
  exact Heap.lt_size e
theorem WR.not_of {hT : Heap} {σ : List Addr} {H : Hp} {h : Heap} (x : WR hT σ H h) {r : Addr} {o : Obj} (e : h.get? r = some o) (hc : o.cls ≠ .type "list") : r ∉ σ := by
  intro hr
  obtain ⟨arr, n, e'⟩ := x.lists hr
  rw [e] at e'; cases e'
  exact hc rfl
theorem WR.not_of_data {hT : Heap} {σ : List Addr} {H : Hp} {h : Heap} (x : WR hT σ H h) {r : Addr} {o : Obj} (e : h.get? r = some o) (hc : ∀ arr n, o.data ≠ .seq arr n) : r ∉ σ := by
  intro hr
  obtain ⟨arr, n, e'⟩ := x.lists hr
  rw [e] at e'; cases e'
  exact hc _ _ rfl

/-- the frame's names stand in h -/
structure EnvOK (κ : Kap) (ω : Str → Bool) (ρ : Rho) (W : List Addr) (env : Env) (σ : List Addr) (h : Heap) : Prop where
  fn : env.scope.kind = .function
  kind : ∀ x, env.kindOf x = κ x
  glob : env.globals = mainGlobals
  blt : env.builtins = builtinsNs
  ns : ∃ m, h.Ns env.locals m ∧ ∀ x v, κ x = some .local → ρ x = some v → ∃ w, m x = some w ∧ VR σ h v w
  cell : ∀ x, (κ x = some .cell ∨ κ x = some .free) → ∃ c v₀, env.cells.lookup x = some c ∧ h.IsCell c v₀ ∧ ∀ v, ρ x = some v → ∃ w, v₀ = some w ∧ VR σ h v w
  inj : ∀ x y c, env.cells.lookup x = some c → env.cells.lookup y = some c → x = y
  own : ∀ x, ω x = true → κ x = some .local ∨ (κ x = some .cell ∧ ∀ c, env.cells.lookup x = some c → c ∈ W)
  loc : env.locals ∈ W
  wobj : ∀ a ∈ W, ∃ o, h.get? a = some o ∧ (∀ arr n, o.data ≠ .seq arr n)

structure Good (hT : Heap) (σ₀ : List Addr) (κ : Kap) (ω : Str → Bool) (ρ : Rho) (W : List Addr) (env : Env) (b : Nat) (σ : List Addr) (H : Hp) (h : Heap) : Prop where
  wr : WR hT σ H h
  env : EnvOK κ ω ρ W env σ h
  base : b ≤ H.length
  above : ∀ r ∈ σ.drop b, hT.get? r = none
  wabove : ∀ a ∈ W, hT.get? a = none
  tab : σ₀ <+: σ

/-- an expression's step -/
theorem Ext.tups {hT : Heap} {b : Nat} {σ σ' : List Addr} {H : Hp} {h h' : Heap} (x : Ext [] b σ h σ' h') (wr : WR hT σ H h) : Tups h h' := fun a o e c _ =>
  x.keep a o e (by simp) fun hm => wr.not_of e (by rw [c]; decide) (List.mem_of_mem_drop hm)
theorem Ext.tupsW {hT : Heap} {W : List Addr} {b : Nat} {σ σ' : List Addr} {H : Hp} {h h' : Heap} (x : Ext W b σ h σ' h') (wr : WR hT σ H h)
    (hw : ∀ a ∈ W, ∃ o, h.get? a = some o ∧ (∀ arr n, o.data ≠ .seq arr n)) : Tups h h' := fun a o e c d =>
  x.keep a o e (fun q => by
    obtain ⟨o', e', n'⟩ := hw a q
    rw [e] at e'; cases e'
    obtain ⟨arr, n, d⟩ := d
    exact n' arr n d) fun hm => wr.not_of e (by rw [c]; decide) (List.mem_of_mem_drop hm)

theorem EnvOK.ext {hT : Heap} {κ : Kap} {ω : Str → Bool} {ρ : Rho} {W : List Addr} {env : Env} {b : Nat} {σ σ' : List Addr} {H : Hp} {h h' : Heap} (x : EnvOK κ ω ρ W env σ h) (wr : WR hT σ H h) (e : Ext [] b σ h σ' h') : EnvOK κ ω ρ W env σ' h' := by
  have tu := e.tups wr
  have keepD : ∀ a o, h.get? a = some o → (∀ arr n, o.data ≠ .seq arr n) → h'.get? a = some o := fun a o ea hd => e.keep a o ea (by simp) fun hm => wr.not_of_data ea hd (List.mem_of_mem_drop hm)
  refine ⟨x.fn, x.kind, x.glob, x.blt, ?_, ?_, x.inj, x.own, x.loc, ?_⟩
  · obtain ⟨m, ⟨o, es, ep, ho, hd, r⟩, hm⟩ := x.ns
    refine ⟨m, ⟨o, es, ep, keepD _ _ ho (by rw [hd]; intro _ _ q; cases q), hd, r⟩, fun y v hk hy => ?_⟩
    obtain ⟨w, e1, e2⟩ := hm y v hk hy
    exact ⟨w, e1, e2.mono e.prefix tu⟩
  · intro y hy
    obtain ⟨c, v₀, hc, ⟨o, ho, hd⟩, hv⟩ := x.cell y hy
    refine ⟨c, v₀, hc, ⟨o, keepD _ _ ho (by rw [hd]; intro _ _ q; cases q), hd⟩, fun v e1 => ?_⟩
    obtain ⟨w, e2, e3⟩ := hv v e1
    exact ⟨w, e2, e3.mono e.prefix tu⟩
  · intro a ha
    obtain ⟨o, ho, hd⟩ := x.wobj a ha
    exact ⟨o, keepD _ _ ho hd, hd⟩

theorem none_top {hT h : Heap} (top : ∀ b o, hT.get? b = some o → h.get? b = some o) {r : Addr} (e : h.get? r = none) : hT.get? r = none := by
  cases q : hT.get? r with
  | none => rfl
  | some o => rw [top r o q] at e; cases e
theorem Good.step {hT : Heap} {σ₀ : List Addr} {κ : Kap} {ω : Str → Bool} {ρ : Rho} {W : List Addr} {env : Env} {b : Nat} {σ σ' : List Addr} {H H' : Hp} {h h' : Heap} (x : Good hT σ₀ κ ω ρ W env b σ H h) (wr : WR hT σ' H' h') (e : Ext [] b σ h σ' h') : Good hT σ₀ κ ω ρ W env b σ' H' h' := by
  refine ⟨wr, x.env.ext x.wr e, ?_, ?_, x.wabove, x.tab.trans e.prefix⟩
  · obtain ⟨δ, rfl, _⟩ := e.pre
    have h1 := x.base
    rw [← x.wr.len] at h1
    rw [← wr.len, List.length_append]; omega
  · obtain ⟨δ, rfl, hδ⟩ := e.pre
    intro r hr
    rcases drop_append_sub hr with q | q
    · exact x.above r q
    · exact none_top x.wr.top (hδ r q)

/-- an object is pushed that is no list of the small heap -/
theorem WR.push {hT : Heap} {σ : List Addr} {H : Hp} {h : Heap} (x : WR hT σ H h) (o : Obj) : WR hT σ H (h.push o) :=
  have k : ∀ b o', h.get? b = some o' → (h.push o).get? b = some o' := fun _ _ e => Heap.get?_push_of_some _ e
  ⟨x.len, fun a xs r h1 h2 => let ⟨arr, p, q, l⟩ := x.obj a xs r h1 h2; ⟨arr, p.at fun o' e => k _ _ e, q.mono (List.prefix_refl _) (Tups.keeps k), l⟩, x.nodup, fun b o' e => k _ _ (x.top b o' e)⟩
theorem get_size (h : Heap) : h.get? h.objs.size = none := by
  cases q : h.get? h.objs.size with
  | none => rfl
  | some o => exact absurd (Heap.lt_size q) (Nat.lt_irrefl _)
theorem Ext.push (W : List Addr) (b : Nat) (σ : List Addr) (h : Heap) (o : Obj) : Ext W b σ h σ (h.push o) :=
  ⟨⟨[], by simp, by simp⟩, fun _ o e => ⟨o, Heap.get?_push_of_some _ e⟩, fun _ _ e _ _ => Heap.get?_push_of_some _ e⟩
/-- a list is pushed -/
theorem WR.pushL {hT : Heap} {σ : List Addr} {H : Hp} {h : Heap} (x : WR hT σ H h) {xs : List V} {arr : Array Value} (n : Nat) (hv : VRs σ h xs arr.toList) (hl : xs.length ≤ sizeLine) :
    WR hT (σ ++ [h.objs.size]) (H ++ [xs]) (h.push { cls := .type "list", data := .seq arr n }) := by
  have k : ∀ b o', h.get? b = some o' → (h.push { cls := .type "list", data := .seq arr n }).get? b = some o' := fun _ _ e => Heap.get?_push_of_some _ e
  have p : σ <+: σ ++ [h.objs.size] := List.prefix_append _ _
  refine ⟨by simp [x.len], fun a ys r h1 h2 => ?_, ?_, fun b o' e => k _ _ (x.top b o' e)⟩
  · rcases Nat.lt_trichotomy a H.length with ha | ha | ha
    · rw [List.getElem?_append_left ha] at h1
      rw [List.getElem?_append_left (by rw [x.len]; exact ha)] at h2
      obtain ⟨arr', p1, q, l⟩ := x.obj a ys r h1 h2
      exact ⟨arr', p1.at fun o' e => k _ _ e, q.mono p (Tups.keeps k), l⟩
    · subst ha
      rw [List.getElem?_append_right (Nat.le_refl _)] at h1
      rw [List.getElem?_append_right (by rw [x.len]; exact Nat.le_refl _)] at h2
      simp at h1
      simp [x.len] at h2
      subst h1 h2
      exact ⟨arr, ⟨n, Heap.get?_push_size _ rfl⟩, hv.mono p (Tups.keeps k), hl⟩
    · have : (H ++ [xs])[a]? = none := List.getElem?_eq_none (by simp; omega)
      rw [this] at h1; cases h1
  · rw [List.nodup_append]
    refine ⟨x.nodup, by simp, fun a ha c hc e => ?_⟩
    simp at hc
    exact absurd (x.lt ha) (by rw [e, hc]; exact Nat.lt_irrefl _)
theorem Ext.pushL (W : List Addr) (b : Nat) (σ : List Addr) (h : Heap) (o : Obj) : Ext W b σ h (σ ++ [h.objs.size]) (h.push o) :=
  ⟨⟨[h.objs.size], rfl, by simp [get_size]⟩, fun _ o e => ⟨o, Heap.get?_push_of_some _ e⟩, fun _ _ e _ _ => Heap.get?_push_of_some _ e⟩

theorem nodup_inj {l : List Addr} (h : l.Nodup) {i j : Nat} (hi : i < l.length) (hj : j < l.length) (e : l[i] = l[j]) : i = j := by
  have p := List.pairwise_iff_getElem.mp h
  rcases Nat.lt_trichotomy i j with q | q | q
  · exact absurd e (p i j hi hj q)
  · exact q
  · exact absurd e.symm (p j i hj hi q)
theorem prefix_same (σ : List Addr) : σ <+: σ := ⟨[], by simp⟩

/-- a list of the small heap is changed -/
theorem WR.setL {hT : Heap} {σ : List Addr} {H : Hp} {h h' : Heap} (x : WR hT σ H h) {a : Nat} {r : Addr} {xs : List V} {arr : Array Value} (hr : σ[a]? = some r) (hs : Heap.SameBut r h h') (hp : h'.PlainList r arr)
    (hv : VRs σ h xs arr.toList) (hl : xs.length ≤ sizeLine) (ht : hT.get? r = none) : WR hT σ (H.set a xs) h' := by
  have tu : Tups h h' := fun b o e c _ => by
    refine (hs.2 b fun q => ?_).trans e
    subst q
    exact x.not_of e (by rw [c]; decide) (List.mem_of_getElem? hr)
  refine ⟨by simp [x.len], fun c ys q h1 h2 => ?_, x.nodup, fun b o e => ?_⟩
  · by_cases hc : c = a
    · subst hc
      rw [hr] at h2; cases h2
      have hlt : c < H.length := by rw [← x.len]; exact (List.getElem?_eq_some_iff.mp hr).1
      rw [List.getElem?_set_self hlt] at h1; cases h1
      exact ⟨arr, hp, hv.mono (prefix_same _) tu, hl⟩
    · rw [List.getElem?_set_ne (Ne.symm hc)] at h1
      obtain ⟨arr', p, w, l⟩ := x.obj c ys q h1 h2
      refine ⟨arr', p.at fun o e => (hs.2 q fun e' => hc ?_).trans e, w.mono (prefix_same _) tu, l⟩
      subst e'
      have h1 := List.getElem?_eq_some_iff.mp h2
      have h2 := List.getElem?_eq_some_iff.mp hr
      obtain ⟨i1, e1⟩ := h1
      obtain ⟨i2, e2⟩ := h2
      exact nodup_inj x.nodup i1 i2 (e1.trans e2.symm)
  · refine (hs.2 b fun q => ?_).trans (x.top b o e)
    subst q
    rw [ht] at e; cases e
theorem there_same {h h' : Heap} {r : Addr} {o₁ : Obj} (hs : Heap.SameBut r h h') (e₁ : h'.get? r = some o₁) : ∀ a o, h.get? a = some o → ∃ o', h'.get? a = some o' := fun a o e => by
  by_cases q : a = r
  · subst q; exact ⟨_, e₁⟩
  · exact ⟨o, (hs.2 a q).trans e⟩
theorem Ext.setL {W : List Addr} {b a : Nat} {σ : List Addr} {h h' : Heap} {r : Addr} {arr : Array Value} (hr : σ[a]? = some r) (hb : b ≤ a) (hs : Heap.SameBut r h h') (hp : h'.PlainList r arr) : Ext W b σ h σ h' :=
  ⟨⟨[], by simp, by simp⟩, there_same hs hp.choose_spec, fun c o e _ hd => (hs.2 c fun q => hd (by
    subst q
    rw [List.mem_iff_getElem?]
    exact ⟨a - b, by rw [List.getElem?_drop, show b + (a - b) = a by omega]; exact hr⟩)).trans e⟩
end Mine
end

section
set_option autoImplicit false
namespace Mine
open PySem PyProof.Rows

structure Room (A : Around) (n : Nat) : Prop where
  hh : A.handled = none
  hd : A.depth + n < 900
  hu : A.units + 10 * n + 300 < cLine

/-- what an expression hands on -/
noncomputable def Kont (hT : Heap) (b : Nat) (σ : List Addr) (v : V) (H' : Hp) (Q : Value → Shared → Prop) (s : Shared) : Prop :=
  ∀ w h' tk σ', WR hT σ' H' h' → VR σ' h' v w → Ext [] b σ s.heap σ' h' → Q w { s with heap := h', toks := tk }

section
variable {prog : Program} {w : World} {A : Around} {E : Value → Shared → Prop} {s : Shared} {hT : Heap} {b : Nat} {σ : List Addr} {H : Hp} {Q : Value → Shared → Prop}

/-- nothing new: the heap as it was -/
theorem Kont.same {v : V} {wv : Value} (k : Kont hT b σ v H Q s) (wr : WR hT σ H s.heap) (hv : VR σ s.heap v wv) (tk : Nat) : Q wv { s with toks := tk } :=
  k wv s.heap tk σ wr hv (Ext.refl ..)
theorem Kont.same' {v : V} {wv : Value} (k : Kont hT b σ v H Q s) (wr : WR hT σ H s.heap) (hv : VR σ s.heap v wv) : Q wv s :=
  k.same wr hv s.toks

theorem sizeLine_val : sizeLine = 16777216 := rfl

theorem strlen_append (x y : Str) : (x ++ y).length = x.length + y.length := by
  show (Str.append x y).length = _
  simp [Str.append, Str.length]

theorem arr_of {σ : List Addr} {h : Heap} {xs : List V} {arr : Array Value} (hv : VRs σ h xs arr.toList) : arr.size = xs.length := by
  rw [hv.length, Array.length_toList]

theorem binop_ok {op : Operator} {x y v : V} {wx wy : Value} {H' : Hp} (he : binop op x y H = some (v, H')) (hx : VR σ s.heap x wx) (hy : VR σ s.heap y wy) (wr : WR hT σ H s.heap)
    (k : Kont hT b σ v H' Q s) : wpAny (model prog w) A (binaryOp op wx wy) Q E s := by
  unfold binop at he
  split at he
  · cases he; cases hx; cases hy; exact PyProof.Rows.add_int (k.same wr (.int _ _) _)
  · cases he; cases hx; cases hy; exact PyProof.Rows.sub_int (k.same wr (.int _ _) _)
  · split at he
    · cases he
    · rename_i hc
      cases he; cases hx; cases hy; exact PyProof.Rows.mod_int hc (k.same wr (.int _ _) _)
  · split at he
    · rename_i hc
      cases he; cases hx; cases hy
      exact PyProof.Rows.floordiv_int hc.1 (k.same wr (.int _ _) _) (.inl (PyProof.noPylong_small hc.2))
    · cases he
  · rename_i a c
    cases hx with | ref ha => cases hy with | ref hc =>
    rename_i ra rc
    cases h1 : H[a]? with
    | none => rw [h1] at he; cases he
    | some xs =>
    cases h2 : H[c]? with
    | none => rw [h1, h2] at he; cases he
    | some ys =>
    rw [h1, h2] at he
    simp only [Option.bind_some] at he
    split at he
    · rename_i hl
      cases he
      obtain ⟨ax, ⟨nx, px⟩, vx, _⟩ := wr.obj a xs ra h1 ha
      obtain ⟨ay, ⟨ny, py⟩, vy, _⟩ := wr.obj c ys rc h2 hc
      have hs : ax.size + ay.size ≤ sizeLine := by rw [arr_of vx, arr_of vy]; exact hl
      refine P.add_list px py ?_ hs
      have hv : VRs σ s.heap (xs ++ ys) (ax ++ ay).toList := by rw [Array.toList_append]; exact vx.append vy
      exact k _ _ s.toks _ (wr.pushL 0 hv (by rw [List.length_append]; exact hl)) (.ref (by rw [← wr.len]; simp)) (Ext.pushL ..)
    · cases he
  · cases he

theorem truthV_ok {v : V} {t : Bool} {wv : Value} {Q : Bool → Shared → Prop} (he : truthV v = some t) (hv : VR σ s.heap v wv) (k : Q t s) : wpAny (model prog w) A (truthy wv) Q E s := by
  cases v <;> simp [truthV] at he
  subst he
  cases hv
  exact wpAny_truthy_bool k

theorem unop_ok {op : UnaryOp} {x v : V} {wx : Value} (he : unop op x = some v) (hx : VR σ s.heap x wx) (wr : WR hT σ H s.heap) (k : Kont hT b σ v H Q s) : wpAny (model prog w) A (unaryOp op wx) Q E s := by
  unfold unop at he
  split at he
  · cases he; cases hx; exact PyProof.Rows.neg_int (k.same wr (.int _ _) _)
  · cases he; cases hx; exact PyProof.Rows.not_of (wpAny_truthy_bool (k.same' wr (.bool _)))
  · cases he

/-! reading -/
theorem rdAll_cons {f : V → Option PyData} {v : V} {vs : List V} {ds : List PyData} (e : rdAll f (v :: vs) = some ds) : ∃ d r, ds = d :: r ∧ f v = some d ∧ rdAll f vs = some r := by
  unfold rdAll at e
  cases h1 : f v with
  | none => rw [h1] at e; cases e
  | some d =>
    cases h2 : rdAll f vs with
    | none => rw [h1, h2] at e; cases e
    | some r =>
      rw [h1, h2] at e
      exact ⟨d, r, (Option.some.inj e).symm, rfl, rfl⟩

theorem reads_all {h : Heap} {f : V → Option PyData} (hf : ∀ v d wv, f v = some d → VR σ h v wv → ∃ as, Reads h wv d as) :
    ∀ {vs : List V} {ws : List Value} {ds : List PyData}, VRs σ h vs ws → rdAll f vs = some ds → ∃ as, ReadsAll h ws ds as
  | _, _, _, .nil, e => by simp [rdAll] at e; subst e; exact ⟨_, .nil⟩
  | _, _, _, .cons x r, e => by
    obtain ⟨d, q, rfl, e1, e2⟩ := rdAll_cons e
    obtain ⟨as, a⟩ := hf _ _ _ e1 x
    obtain ⟨bs, c⟩ := reads_all hf r e2
    exact ⟨_, .cons a c⟩

theorem rd_reads {h : Heap} (wr : WR hT σ H h) : ∀ (n : Nat) (v : V) (d : PyData) (wv : Value), rd n H v = some d → VR σ h v wv → ∃ as, Reads h wv d as
  | n, .none, d, _, e, .none => by simp [rd] at e; subst e; exact ⟨_, .none⟩
  | n, .bool b, d, _, e, .bool _ => by simp [rd] at e; subst e; exact ⟨_, .bool b⟩
  | n, .int i, d, _, e, .int _ t => by simp [rd] at e; subst e; exact ⟨_, .int i t⟩
  | n, .str x, d, _, e, .str _ t _ => by simp [rd] at e; obtain ⟨_, rfl⟩ := e; exact ⟨_, .str x t⟩
  | 0, .tup _, d, _, e, _ => by simp [rd] at e
  | 0, .ref _, d, _, e, _ => by simp [rd] at e
  | 0, .type _, d, _, e, _ => by simp [rd] at e
  | _ + 1, .type _, d, _, e, _ => by simp [rd] at e
  | n + 1, .tup vs, d, _, e, .tup h1 h2 h3 h4 _ => by
    unfold rd at e
    cases h5 : rdAll (rd n H) vs with
    | none => rw [h5] at e; cases e
    | some ds =>
      rw [h5] at e; cases e
      obtain ⟨as, q⟩ := reads_all (fun v d wv e x => rd_reads wr n v d wv e x) h4 h5
      exact ⟨_, .tuple h1 h2 h3 q⟩
  | n + 1, .ref a, d, _, e, .ref ha => by
    unfold rd at e
    cases h0 : H[a]? with
    | none => rw [h0] at e; cases e
    | some vs =>
    rw [h0] at e
    simp only [Option.bind_some] at e
    cases h5 : rdAll (rd n H) vs with
    | none => rw [h5] at e; cases e
    | some ds =>
      rw [h5] at e; cases e
      obtain ⟨arr, ⟨m, p⟩, vx, _⟩ := wr.obj a vs _ h0 ha
      obtain ⟨as, q⟩ := reads_all (fun v d wv e x => rd_reads wr n v d wv e x) vx h5
      exact ⟨_, .list p rfl rfl q⟩

theorem rdAll_can {f : V → Option PyData} {n : Nat} (hf : ∀ v d, f v = some d → d.canLay0 = true ∧ d.depth ≤ n) : ∀ {vs : List V} {ds : List PyData}, rdAll f vs = some ds → PyData.canLayAll0 ds = true ∧ PyData.depthAll ds ≤ n
  | [], _, e => by simp [rdAll] at e; subst e; simp [PyData.canLayAll0, PyData.depthAll]
  | v :: vs, _, e => by
    obtain ⟨d, q, rfl, e1, e2⟩ := rdAll_cons e
    have h1 := hf _ _ e1
    have h2 := rdAll_can hf e2
    simp only [PyData.canLayAll0, PyData.depthAll, h1.1, h2.1, Bool.and_self, true_and]
    omega
theorem rd_can : ∀ (n : Nat) (v : V) (d : PyData), rd n H v = some d → d.canLay0 = true ∧ d.depth ≤ n
  | n, .none, d, e => by simp [rd] at e; subst e; simp [PyData.canLay0, PyData.depth]
  | n, .bool b, d, e => by simp [rd] at e; subst e; simp [PyData.canLay0, PyData.depth]
  | n, .int i, d, e => by simp [rd] at e; subst e; simp [PyData.canLay0, PyData.depth]
  | n, .str x, d, e => by
    unfold rd at e
    split at e
    · rename_i hc
      cases e
      simp only [PyData.canLay0, PyData.depth]
      exact ⟨hc, Nat.zero_le _⟩
    · cases e
  | 0, .tup _, d, e => by simp [rd] at e
  | 0, .ref _, d, e => by simp [rd] at e
  | 0, .type _, d, e => by simp [rd] at e
  | _ + 1, .type _, d, e => by simp [rd] at e
  | n + 1, .tup vs, d, e => by
    unfold rd at e
    cases h5 : rdAll (rd n H) vs with
    | none => rw [h5] at e; cases e
    | some ds =>
      rw [h5] at e; cases e
      have := rdAll_can (rd_can n) h5
      simp only [PyData.canLay0, PyData.depth, this.1, true_and]
      omega
  | n + 1, .ref a, d, e => by
    unfold rd at e
    cases h0 : H[a]? with
    | none => rw [h0] at e; cases e
    | some vs =>
    rw [h0] at e
    simp only [Option.bind_some] at e
    cases h5 : rdAll (rd n H) vs with
    | none => rw [h5] at e; cases e
    | some ds =>
      rw [h5] at e; cases e
      have := rdAll_can (rd_can n) h5
      simp only [PyData.canLay0, PyData.depth, this.1, true_and]
      omega
end
end Mine
end

section
set_option autoImplicit false
namespace Mine
open PySem PyProof.Rows
section
variable {prog : Program} {w : World} {A : Around} {E : Value → Shared → Prop} {s : Shared} {hT : Heap} {b : Nat} {σ : List Addr} {H : Hp} {Q : Value → Shared → Prop}

theorem eqV_reads {n m : Nat} {x y : V} {d e : PyData} {wx wy : Value} (hd : rd n H x = some d) (he : rd m H y = some e) (hn : n ≤ 64) (hx : VR σ s.heap x wx) (hy : VR σ s.heap y wy) (wr : WR hT σ H s.heap) {r : Nat} (room : Room A r)
    (k : Q (.bool (PyData.eqv d e)) s) : wpAny (model prog w) A (compareOp .Eq wx wy) Q E s := by
  obtain ⟨as, ra⟩ := rd_reads wr _ _ _ _ hd hx
  obtain ⟨bs, rb⟩ := rd_reads wr _ _ _ _ he hy
  have c1 := rd_can _ _ _ hd
  have c2 := rd_can _ _ _ he
  refine SeqAt.compareEq_reads ra rb c1.1 c2.1 ?_ k
  have := room.hu
  have h2 : min d.depth e.depth ≤ d.depth := Nat.min_le_left _ _
  omega
theorem neV_reads {n m : Nat} {x y : V} {d e : PyData} {wx wy : Value} (hd : rd n H x = some d) (he : rd m H y = some e) (hn : n ≤ 64) (hx : VR σ s.heap x wx) (hy : VR σ s.heap y wy) (wr : WR hT σ H s.heap) {r : Nat} (room : Room A r)
    (k : Q (.bool (!PyData.eqv d e)) s) : wpAny (model prog w) A (compareOp .NotEq wx wy) Q E s := by
  obtain ⟨as, ra⟩ := rd_reads wr _ _ _ _ hd hx
  obtain ⟨bs, rb⟩ := rd_reads wr _ _ _ _ he hy
  have c1 := rd_can _ _ _ hd
  have c2 := rd_can _ _ _ he
  refine SeqAt.compareNe_reads ra rb c1.1 c2.1 ?_ k
  have := room.hu
  have h2 : min d.depth e.depth ≤ d.depth := Nat.min_le_left _ _
  omega

theorem eqV_ok {x y : V} {c : Bool} {wx wy : Value} (he : eqV H x y = some c) (hx : VR σ s.heap x wx) (hy : VR σ s.heap y wy) (wr : WR hT σ H s.heap) {r : Nat} (room : Room A r)
    (k : Q (.bool c) s) : wpAny (model prog w) A (compareOp .Eq wx wy) Q E s := by
  unfold eqV at he
  split at he
  · cases he; cases hx; cases hy; exact PyProof.Rows.eq_int k
  · cases he; cases hx; cases hy; exact PyProof.Rows.eq_str k
  · cases he; cases hx; cases hy; exact PyProof.Rows.eq_bool k
  · cases h1 : rd 8 H x with
    | none => rw [h1] at he; cases he
    | some d =>
    cases h2 : rd 8 H y with
    | none => rw [h1, h2] at he; cases he
    | some e =>
    rw [h1, h2] at he
    cases he
    exact eqV_reads h1 h2 (by omega) hx hy wr room k
theorem neV_ok {x y : V} {c : Bool} {wx wy : Value} (he : eqV H x y = some c) (hx : VR σ s.heap x wx) (hy : VR σ s.heap y wy) (wr : WR hT σ H s.heap) {r : Nat} (room : Room A r)
    (k : Q (.bool (!c)) s) : wpAny (model prog w) A (compareOp .NotEq wx wy) Q E s := by
  unfold eqV at he
  split at he
  · cases he; cases hx; cases hy; exact PyProof.Rows.ne_int k
  · cases he; cases hx; cases hy; exact PyProof.Rows.ne_str k
  · cases he; cases hx; cases hy; exact PyProof.Rows.ne_bool k
  · cases h1 : rd 8 H x with
    | none => rw [h1] at he; cases he
    | some d =>
    cases h2 : rd 8 H y with
    | none => rw [h1, h2] at he; cases he
    | some e =>
    rw [h1, h2] at he
    cases he
    exact neV_reads h1 h2 (by omega) hx hy wr room k

theorem rdsL {n : Nat} {vs : List V} {ds : List PyData} {a : Nat} {r : Addr} (h0 : H[a]? = some vs) (ha : σ[a]? = some r) (h5 : rdAll (rd n H) vs = some ds) (wr : WR hT σ H s.heap) : ∃ as, Reads s.heap (.ref r) (.list ds) as := by
  refine rd_reads wr (n + 1) (.ref a) _ _ ?_ (.ref ha)
  unfold rd
  rw [h0, Option.bind_some, h5]; rfl
theorem rdsT {n : Nat} {vs : List V} {ds : List PyData} {wc : Value} (hc : VR σ s.heap (.tup vs) wc) (h5 : rdAll (rd n H) vs = some ds) (wr : WR hT σ H s.heap) : ∃ as, Reads s.heap wc (.tuple ds) as := by
  refine rd_reads wr (n + 1) (.tup vs) _ _ ?_ hc
  unfold rd
  rw [h5]; rfl

theorem inV_cases {x c : V} {t : Bool} (he : inV H x c = some t) : (∃ z y, c = .str z ∧ x = .str y ∧ t = Txt.contains z y) ∨
    (∃ vs d ds, c = .tup vs ∧ rd 8 H x = some d ∧ rdAll (rd 8 H) vs = some ds ∧ t = ds.any fun y => PyData.eqv y d) ∨
    (∃ a vs d ds, c = .ref a ∧ H[a]? = some vs ∧ rd 8 H x = some d ∧ rdAll (rd 8 H) vs = some ds ∧ t = ds.any fun y => PyData.eqv y d) := by
  unfold inV at he
  split at he
  · split at he
    · cases he; exact .inl ⟨_, _, rfl, rfl, rfl⟩
    · cases he
  · rename_i vs
    cases h1 : rd 8 H x with
    | none => rw [h1] at he; cases he
    | some d =>
    cases h2 : rdAll (rd 8 H) vs with
    | none => rw [h1, h2] at he; cases he
    | some e =>
    rw [h1, h2] at he
    cases he
    exact .inr (.inl ⟨vs, d, e, rfl, rfl, h2, rfl⟩)
  · rename_i a
    cases h0 : H[a]? with
    | none => rw [h0] at he; cases he
    | some vs =>
    rw [h0, Option.bind_some] at he
    cases h1 : rd 8 H x with
    | none => rw [h1] at he; cases he
    | some d =>
    cases h2 : rdAll (rd 8 H) vs with
    | none => rw [h1, h2] at he; cases he
    | some e =>
    rw [h1, h2] at he
    cases he
    exact .inr (.inr ⟨a, vs, d, e, rfl, h0, rfl, h2, rfl⟩)
  · cases he

theorem inV_ok {x c : V} {t : Bool} {wx wc : Value} (he : inV H x c = some t) (hx : VR σ s.heap x wx) (hc : VR σ s.heap c wc) (wr : WR hT σ H s.heap) {r : Nat} (room : Room A r)
    (k : Q (.bool t) s) : wpAny (model prog w) A (compareOp .In wx wc) Q E s := by
  rcases inV_cases he with ⟨z, y, rfl, rfl, rfl⟩ | ⟨vs, d, ds, rfl, h1, h2, rfl⟩ | ⟨a, vs, d, ds, rfl, h0, h1, h2, rfl⟩
  · cases hx; cases hc; exact PyProof.Rows.in_str k
  · obtain ⟨as, ra⟩ := rd_reads wr _ _ _ _ h1 hx
    obtain ⟨bs, rb⟩ := rdsT hc h2 wr
    have c1 := rd_can _ _ _ h1
    have c2 := rdAll_can (rd_can 8) h2
    refine SeqAt.in_tuple_reads rb ra c2.1 c1.1 ?_ k
    have := room.hu
    have h3 : min (PyData.depthAll ds) d.depth ≤ d.depth := Nat.min_le_right _ _
    omega
  · cases hc with | ref ha =>
    obtain ⟨as, ra⟩ := rd_reads wr _ _ _ _ h1 hx
    obtain ⟨bs, rb⟩ := rdsL h0 ha h2 wr
    have c1 := rd_can _ _ _ h1
    have c2 := rdAll_can (rd_can 8) h2
    refine SeqAt.in_list_reads rb ra c2.1 c1.1 ?_ k
    have := room.hu
    have h3 : min (PyData.depthAll ds) d.depth ≤ d.depth := Nat.min_le_right _ _
    omega
theorem ninV_ok {x c : V} {t : Bool} {wx wc : Value} (he : inV H x c = some t) (hx : VR σ s.heap x wx) (hc : VR σ s.heap c wc) (wr : WR hT σ H s.heap) {r : Nat} (room : Room A r)
    (k : Q (.bool (!t)) s) : wpAny (model prog w) A (compareOp .NotIn wx wc) Q E s := by
  rcases inV_cases he with ⟨z, y, rfl, rfl, rfl⟩ | ⟨vs, d, ds, rfl, h1, h2, rfl⟩ | ⟨a, vs, d, ds, rfl, h0, h1, h2, rfl⟩
  · cases hx; cases hc; exact PyProof.Rows.notIn_str k
  · obtain ⟨as, ra⟩ := rd_reads wr _ _ _ _ h1 hx
    obtain ⟨bs, rb⟩ := rdsT hc h2 wr
    have c1 := rd_can _ _ _ h1
    have c2 := rdAll_can (rd_can 8) h2
    refine SeqAt.notIn_tuple_reads rb ra c2.1 c1.1 ?_ k
    have := room.hu
    have h3 : min (PyData.depthAll ds) d.depth ≤ d.depth := Nat.min_le_right _ _
    omega
  · cases hc with | ref ha =>
    obtain ⟨as, ra⟩ := rd_reads wr _ _ _ _ h1 hx
    obtain ⟨bs, rb⟩ := rdsL h0 ha h2 wr
    have c1 := rd_can _ _ _ h1
    have c2 := rdAll_can (rd_can 8) h2
    refine SeqAt.notIn_list_reads rb ra c2.1 c1.1 ?_ k
    have := room.hu
    have h3 : min (PyData.depthAll ds) d.depth ≤ d.depth := Nat.min_le_right _ _
    omega

theorem type_beq (a c : String) : (Value.type a == Value.type c) = (a == c) := by
  by_cases h : a = c
  · subst h; simp
  · have h' : Value.type a ≠ Value.type c := fun e => h (by injection e)
    rw [beq_eq_false_iff_ne.mpr h, beq_eq_false_iff_ne.mpr h']

theorem cmpop_ok {op : CmpOp} {x y : V} {c : Bool} {wx wy : Value} (he : cmpop op x y H = some c) (hx : VR σ s.heap x wx) (hy : VR σ s.heap y wy) (wr : WR hT σ H s.heap) {r : Nat} (room : Room A r)
    (k : Q (.bool c) s) : wpAny (model prog w) A (compareOp op wx wy) Q E s := by
  unfold cmpop at he
  split at he
  · exact eqV_ok he hx hy wr room k
  · cases h1 : eqV H x y with
    | none => rw [h1] at he; cases he
    | some d => rw [h1] at he; cases he; exact neV_ok h1 hx hy wr room k
  · split at he
    · cases he; cases hx; cases hy; exact PyProof.Rows.lt_int k
    · cases he
  · split at he
    · cases he; cases hx; cases hy; exact PyProof.Rows.le_int k
    · cases he
  · split at he
    · cases he; cases hx; cases hy; exact PyProof.Rows.gt_int k
    · cases he
  · split at he
    · cases he; cases hx; cases hy; exact PyProof.Rows.ge_int k
    · cases he
  · split at he
    · cases he; cases hx; cases hy; exact PyProof.Rows.is_bool k
    · cases he; cases hx; cases hy
      exact wpAny_is_plain rfl (by rw [type_beq]; exact k)
    · cases he
  · split at he
    · cases he; cases hx; cases hy; exact PyProof.Rows.isnot_bool k
    · cases he; cases hx; cases hy
      exact PyProof.Rows.isnot_type (by rw [type_beq]; exact k)
    · cases he
  · exact inV_ok he hx hy wr room k
  · cases h1 : inV H x y with
    | none => rw [h1] at he; cases he
    | some d => rw [h1] at he; cases he; exact ninV_ok h1 hx hy wr room k
end
end Mine
end

section
set_option autoImplicit false
namespace Mine
open PySem PyProof.Rows
section
variable {prog : Program} {w : World} {A : Around} {E : Value → Shared → Prop} {s : Shared} {hT : Heap} {b : Nat} {σ : List Addr} {H : Hp} {Q : Value → Shared → Prop}

theorem subscripted_op (sl : Expr) (o i : Value) : ∃ ops, subscripted sl false o i = operate ops (getItem o i) := by
  unfold subscripted
  split
  · exact ⟨_, rfl⟩
  · rename_i h; cases h
  · exact ⟨_, rfl⟩

theorem tail_ok {value sl : Expr} {o i : Value} {T id : String} (hT' : s.TypeIs o T) (hl : typeLookup (.type T) "__getitem__" = pure (some (.builtin id))) (hg : wpAny (model prog w) A (getItem o i) Q E s) :
    wpAny (model prog w) A (subscriptTail value sl o i) Q E s :=
  let ⟨_, e⟩ := subscripted_op sl o i
  tail_any hT' hl hg e

theorem seqIndex_cases {k : Int} {n j : Nat} (h : seqIndex? k n = some j) : (0 ≤ k ∧ k < n ∧ j = k.toNat) ∨ (k < 0 ∧ -(n : Int) ≤ k ∧ j = (k + n).toNat) := by
  by_cases h0 : k < 0
  · simp only [seqIndex?, h0, if_true] at h
    split at h
    · rename_i hc
      simp only [Bool.and_eq_true, decide_eq_true_eq] at hc
      exact .inr ⟨h0, by omega, (Option.some.inj h).symm⟩
    · cases h
  · simp only [seqIndex?, h0, if_false] at h
    split at h
    · rename_i hc
      simp only [Bool.and_eq_true, decide_eq_true_eq] at hc
      exact .inl ⟨by omega, by omega, (Option.some.inj h).symm⟩
    · cases h

theorem getItem_listV {r : Addr} {arr : Array Value} {xs : List V} {k : Int} {t : Tok} {j : Nat} {v : V} (p : s.heap.PlainList r arr) (vx : VRs σ s.heap xs arr.toList) (hl : xs.length ≤ sizeLine)
    (hj : seqIndex? k xs.length = some j) (hv : xs[j]? = some v) (h : ∀ wv, VR σ s.heap v wv → Q wv s) : wpAny (model prog w) A (getItem (.ref r) (.int k t)) Q E s := by
  obtain ⟨wv, e1, e2⟩ := vx.get hv
  have hs := arr_of vx
  have e3 : arr[j]? = some wv := by rw [← Array.getElem?_toList]; exact e1
  rw [sizeLine_val] at hl
  rcases seqIndex_cases hj with ⟨h0, h1, rfl⟩ | ⟨h0, h1, rfl⟩
  · exact wpAny_getItem_list p.isList h0 (by omega) e3 (h wv e2)
  · exact wpAny_getItem_list_neg p.isList h0 (by omega) (by omega) (by rw [hs]; exact e3) (h wv e2)

theorem idx_ok {o i v : V} {wo wi : Value} {value sl : Expr} (he : idx o i H = some v) (ho : VR σ s.heap o wo) (hi : VR σ s.heap i wi) (wr : WR hT σ H s.heap) (k : Kont hT b σ v H Q s) :
    wpAny (model prog w) A (subscriptTail value sl wo wi) Q E s := by
  unfold idx at he
  split at he
  · rename_i z q
    cases hi
    cases ho with | str _ t hl =>
    rw [sizeLine_val] at hl
    cases h1 : (seqIndex? q z.length).bind (z.cps[·]?) with
    | none => rw [h1] at he; cases he
    | some c =>
      rw [h1] at he; cases he
      obtain ⟨j, hj, _⟩ := Option.bind_eq_some_iff.mp h1
      refine tail_ok (typeIs_str s _ _) slot_str_getitem.lookup (PyProof.Rows.getItem_str ?_ h1 (k.same wr (.str _ _ (by show (1 : Nat) ≤ _; decide)) _))
      rcases seqIndex_cases hj with ⟨h0, h2, _⟩ | ⟨h0, h2, _⟩ <;> (simp; omega)
  · rename_i vs q
    cases hi
    cases ho with | tup h1 h2 h3 h4 hl =>
    rw [sizeLine_val] at hl
    obtain ⟨j, hj, hv⟩ := Option.bind_eq_some_iff.mp he
    obtain ⟨wv, e1, e2⟩ := h4.get hv
    have hs := arr_of h4
    have ht : IsTup s.heap _ _ := ⟨_, h1, h2, _, h3⟩
    refine tail_ok ht.typeIs slot_tuple_getitem.lookup (PyProof.Rows.getItem_tuple ht ?_ ?_ (by rw [hs]; exact hj) (by rw [← Array.getElem?_toList]; exact e1) (k.same' wr e2))
    · rcases seqIndex_cases hj with ⟨h0, h2, _⟩ | ⟨h0, h2, _⟩ <;> omega
    · rcases seqIndex_cases hj with ⟨h0, h2, _⟩ | ⟨h0, h2, _⟩ <;> omega
  · rename_i a q
    cases hi
    cases ho with | ref ha =>
    cases h0 : H[a]? with
    | none => rw [h0] at he; cases he
    | some xs =>
    rw [h0, Option.bind_some] at he
    obtain ⟨j, hj, hv⟩ := Option.bind_eq_some_iff.mp he
    obtain ⟨arr, p, vx, hl⟩ := wr.obj a xs _ h0 ha
    exact tail_ok p.isList.typeIs slot_list_getitem.lookup (getItem_listV p vx hl hj hv fun wv e => k.same' wr e)
  · cases he

/-! slices -/
theorem partV_ok {v : V} {lo : Option Int} {wv : Value} {h : Heap} (he : partV v = some lo) (hv : VR σ h v wv) : IsPart wv lo ∧ ∃ p : Option (Int × Tok), wv = partValue p ∧ p.map (·.1) = lo := by
  cases v <;> simp [partV] at he
  · subst he; cases hv; exact ⟨.none, none, rfl, rfl⟩
  · subst he; cases hv with | int _ t => exact ⟨.int _ t, some (_, t), rfl, rfl⟩

theorem strIdx_plain (lo hi : Option Int) (n : Nat) : Builtin.Str.strSliceIndices lo hi 1 n = (List.range (hi.elim n (clipAt n) - lo.elim 0 (clipAt n))).map (lo.elim 0 (clipAt n) + ·) := by
  have e : Builtin.Str.strSliceIndices lo hi 1 n = sliceRange (sliceBounds lo hi none n).1 (sliceBounds lo hi none n).2.1 1 := by
    cases lo <;> cases hi <;> rfl
  rw [e, sliceBounds_plain, sliceRange_one]

theorem cutL_length {α : Type} (xs : List α) (lo hi : Option Int) : (cutL xs lo hi).length ≤ xs.length := by
  unfold cutL
  rw [List.length_take, List.length_drop]; omega

theorem clipAt_le (n : Nat) (i : Int) : clipAt n i ≤ n := by
  unfold clipAt; omega

theorem pick_str (x : Str) (lo hi : Option Int) : (Builtin.Str.strSliceIndices lo hi 1 x.length).filterMap (x.cps[·]?) = cutL x.cps.toList lo hi := by
  rw [strIdx_plain, pick_run]
  unfold cutL
  simp [Str.length]
theorem str_ext {x y : Str} (h : x.cps = y.cps) : x = y := by cases x; cases y; cases h; rfl
theorem pick_whole (x : Str) (lo hi : Option Int) (h : (Builtin.Str.strSliceIndices lo hi 1 x.length).length = x.length) : cutL x.cps.toList lo hi = x.cps.toList := by
  rw [strIdx_plain] at h
  simp only [List.length_map, List.length_range] at h
  unfold cutL
  have e : x.cps.toList.length = x.length := by simp [Str.length]
  rw [e]
  have h1 : lo.elim 0 (clipAt x.length) ≤ x.length := by cases lo <;> simp [clipAt_le]
  have h2 : hi.elim x.length (clipAt x.length) ≤ x.length := by cases hi <;> simp [clipAt_le]
  rw [h]
  by_cases h0 : x.length = 0
  · have : x.cps.toList = [] := List.length_eq_zero_iff.mp (by rw [e, h0])
    rw [this]; simp
  · have h3 : lo.elim 0 (clipAt x.length) = 0 := by omega
    rw [h3, List.drop_zero, List.take_of_length_le (by rw [e]; exact Nat.le_refl _)]

theorem str_toArray (x : Str) : (⟨x.cps.toList.toArray⟩ : Str) = x := by cases x; rfl

theorem slice_str {x : Str} {t : Tok} {l u : Option (Int × Tok)} {a : Addr} (hs : s.heap.IsSlice a l u none) (hx : x.length ≤ sizeLine)
    (h : ∀ t' tk, Q (.str ⟨(cutL x.cps.toList (l.map (·.1)) (u.map (·.1))).toArray⟩ t') { s with toks := tk }) : wpAny (model prog w) A (getItem (.str x t) (.ref a)) Q E s := by
  refine wpAny_getItem_str_slice hs rfl ?_
  have hp := pick_str x (l.map (·.1)) (u.map (·.1))
  have hw := pick_whole x (l.map (·.1)) (u.map (·.1))
  unfold sliceMade
  have e : slicePicked x l u none = Builtin.Str.strSliceIndices (l.map (·.1)) (u.map (·.1)) 1 x.length := rfl
  rw [e]
  split
  · rename_i hc
    simp at hc
    have h2 := h t s.toks
    rw [hw hc, str_toArray] at h2
    exact h2
  · have h2 := h s.toks (s.toks + 1)
    rw [hp]
    refine ⟨?_, h2⟩
    show (cutL x.cps.toList _ _).toArray.size ≤ _
    rw [List.size_toArray]
    exact Nat.le_trans (cutL_length _ _ _) (by simpa [Str.length] using hx)

/-- a slice's step; the slice object lies at the heap's end -/
theorem slice_ok {o l u st v : V} {wo wl wu wst : Value} {H' : Hp} {value sl : Expr} (he : slice o l u st H = some (v, H')) (ho : VR σ s.heap o wo) (hl : VR σ s.heap l wl) (hu : VR σ s.heap u wu) (hst : VR σ s.heap st wst) (wr : WR hT σ H s.heap)
    (k : Kont hT b σ v H' Q s) : wpAny (model prog w) A (subscriptTail value sl wo (.ref s.heap.objs.size)) Q E { s with heap := s.heap.push { cls := .type "slice", data := .fields #[wl, wu, wst] } } := by
  unfold slice at he
  obtain ⟨lo, h1, he1⟩ := Option.bind_eq_some_iff.mp he
  clear he
  obtain ⟨hi, h2, he⟩ := Option.bind_eq_some_iff.mp he1
  clear he1
  obtain ⟨pl, ql, el, rfl⟩ := partV_ok h1 hl
  obtain ⟨pu, qu, eu, rfl⟩ := partV_ok h2 hu
  have wr' := wr.push { cls := .type "slice", data := .fields #[wl, wu, wst] }
  have ex := Ext.push [] b σ s.heap { cls := .type "slice", data := .fields #[wl, wu, wst] }
  have hso := Heap.IsSliceOf.new s.heap wl wu wst
  split at he
  · cases hst
    split at he
    · rename_i a
      cases ho with | ref ha =>
      cases h0 : H[a]? with
      | none => rw [h0] at he; cases he
      | some xs =>
      rw [h0, Option.bind_some] at he
      cases he
      obtain ⟨arr, p, vx, hz⟩ := wr'.obj a xs _ h0 ha
      have hs := arr_of vx
      refine tail_ok p.isList.typeIs slot_list_getitem.lookup (wpAny_getItem_list_slice p.isList hso pl pu .none (by simp) ?_ (by rw [hs]; exact hz))
      have hv : VRs σ (s.heap.push { cls := .type "slice", data := .fields #[wl, wu, .none] }) (cutL xs (ql.map (·.1)) (qu.map (·.1))) (slicePick arr (ql.map (·.1)) (qu.map (·.1)) none).toList := by
        rw [slicePick_plain, hs]
        exact (vx.drop _).take _
      refine k _ _ s.toks _ (wr'.pushL 0 hv (Nat.le_trans (cutL_length _ _ _) hz)) (.ref (by rw [← wr.len]; simp)) (ex.trans (Ext.pushL ..))
    · cases he
      cases ho with | str _ t hz =>
      subst el eu
      refine tail_ok (typeIs_str _ _ _) slot_str_getitem.lookup (slice_str hso hz fun t' tk => ?_)
      refine k _ _ tk _ wr' (.str _ _ ?_) ex
      show (cutL _ _ _).toArray.size ≤ _
      rw [List.size_toArray]
      exact Nat.le_trans (cutL_length _ _ _) (by simpa [Str.length] using hz)
    · cases he
  · cases he
end
end Mine
end

section
set_option autoImplicit false
set_option maxRecDepth 100000
namespace Mine
open PySem PyProof.Rows
section
variable {prog : Program} {w : World} {A : Around} {E : Value → Shared → Prop} {s : Shared} {hT : Heap} {b : Nat} {σ : List Addr} {H : Hp} {Q : Value → Shared → Prop}

/-- what a built-in name stands for -/
noncomputable def bval (f : Str) : Option Value :=
  if f = "len" then some (.builtin "len") else if f = "ord" then some (.builtin "ord") else if f = "chr" then some (.builtin "chr")
  else if f = "isinstance" then some (.builtin "isinstance") else if f = "type" then some (.type "type") else if f = "sorted" then some (.builtin "sorted")
  else if f = "any" then some (.builtin "any") else if f = "range" then some (.type "range") else if f = "list" then some (.type "list")
  else if f = "tuple" then some (.type "tuple") else if f = "str" then some (.type "str") else if f = "bool" then some (.type "bool") else none

theorem isi_ok {v : V} {t u : String} {wv : Value} (ht : t = "tuple" ∨ t = "str" ∨ t = "bool") (hu : typeV H v = some u) (hv : VR σ s.heap v wv) (wr : WR hT σ H s.heap) (k : ∀ tk, Q (.bool (u == t)) { s with toks := tk }) :
    wpAny (model prog w) A (call (.builtin "isinstance") [wv, .type t]) Q E s := by
  have k' : Q (.bool (u == t)) s := k s.toks
  cases v <;> simp [typeV] at hu <;> subst hu
  · cases hv; rcases ht with rfl | rfl | rfl
    · exact IsiPair.NoneType_tuple (k _)
    · exact IsiPair.NoneType_str (k _)
    · exact IsiPair.NoneType_bool (k _)
  · cases hv; rcases ht with rfl | rfl | rfl
    · exact IsiPair.bool_tuple (k _)
    · exact IsiPair.bool_str (k _)
    · exact IsiPair.bool_bool k'
  · cases hv; rcases ht with rfl | rfl | rfl
    · exact IsiPair.int_tuple (k _)
    · exact IsiPair.int_str (k _)
    · exact IsiPair.int_bool (k _)
  · cases hv; rcases ht with rfl | rfl | rfl
    · exact IsiPair.str_tuple (k _)
    · exact IsiPair.str_str k'
    · exact IsiPair.str_bool (k _)
  · cases hv with | tup h1 h2 h3 h4 h5 =>
    rcases ht with rfl | rfl | rfl
    · exact IsiPair.tuple_tuple h1 h2 k'
    · exact IsiPair.tuple_str h1 h2 (k _)
    · exact IsiPair.tuple_bool h1 h2 (k _)
  · cases hv with | ref ha =>
    obtain ⟨arr, n, e⟩ := wr.lists (List.mem_of_getElem? ha)
    rcases ht with rfl | rfl | rfl
    · exact IsiPair.list_tuple e rfl (k _)
    · exact IsiPair.list_str e rfl (k _)
    · exact IsiPair.list_bool e rfl (k _)

/-- a list at a new place -/
theorem WR.newL {h h' : Heap} {r : Addr} {xs : List V} {arr : Array Value} (x : WR hT σ H h) (k : ∀ a o, h.get? a = some o → h'.get? a = some o) (hr : h.get? r = none) (hp : h'.PlainList r arr) (hv : VRs σ h xs arr.toList) (hl : xs.length ≤ sizeLine) : WR hT (σ ++ [r]) (H ++ [xs]) h' := by
  have p : σ <+: σ ++ [r] := List.prefix_append _ _
  refine ⟨by simp [x.len], fun a ys q h1 h2 => ?_, ?_, fun b o' e => k _ _ (x.top b o' e)⟩
  · rcases Nat.lt_trichotomy a H.length with ha | ha | ha
    · rw [List.getElem?_append_left ha] at h1
      rw [List.getElem?_append_left (by rw [x.len]; exact ha)] at h2
      obtain ⟨arr', p1, q, l⟩ := x.obj a ys q h1 h2
      exact ⟨arr', p1.at fun o' e => k _ _ e, q.mono p (Tups.keeps k), l⟩
    · subst ha
      rw [List.getElem?_append_right (Nat.le_refl _)] at h1
      rw [List.getElem?_append_right (by rw [x.len]; exact Nat.le_refl _)] at h2
      simp at h1
      simp [x.len] at h2
      subst h1 h2
      exact ⟨arr, hp, hv.mono p (Tups.keeps k), hl⟩
    · have : (H ++ [xs])[a]? = none := List.getElem?_eq_none (by simp; omega)
      rw [this] at h1; cases h1
  · rw [List.nodup_append]
    refine ⟨x.nodup, by simp, fun a ha c hc e => ?_⟩
    simp at hc
    obtain ⟨ar, n, e'⟩ := x.lists ha
    rw [e, hc, hr] at e'; cases e'
theorem Ext.newL {h h' : Heap} {r : Addr} (k : ∀ a o, h.get? a = some o → h'.get? a = some o) (hr : h.get? r = none) : Ext [] b σ h (σ ++ [r]) h' :=
  ⟨⟨[r], rfl, by simp [hr]⟩, fun _ o e => ⟨o, k _ _ e⟩, fun _ _ e _ _ => k _ _ e⟩

theorem ints_are {h : Heap} : ∀ {xs : List V} {ns : List Int} {ws : List Value}, intsOf xs = some ns → VRs σ h xs ws → IntsAre ws ns
  | [], _, _, e, .nil => by simp [intsOf] at e; subst e; exact .nil
  | x :: r, ns, _, e, .cons hx hr => by
    cases x <;> simp [intsOf] at e
    obtain ⟨q, e1, rfl⟩ := e
    cases hx
    exact .cons _ _ (ints_are e1 hr)
theorem ints_back {h : Heap} : ∀ {ns : List Int} {ws : List Value}, IntsAre ws ns → VRs σ h (ns.map V.int) ws
  | _, _, .nil => .nil
  | _, _, .cons n t r => .cons (.int n t) (ints_back r)

theorem insertI_perm (x : Int) : ∀ l, (insertI x l).Perm (x :: l)
  | [] => List.Perm.refl _
  | y :: r => by
    unfold insertI
    split
    · exact List.Perm.refl _
    · exact ((insertI_perm x r).cons y).trans (List.Perm.swap x y r)
theorem sortI_perm : ∀ l, (sortI l).Perm l
  | [] => List.Perm.refl _
  | x :: r => (insertI_perm x (sortI r)).trans ((sortI_perm r).cons x)
theorem insertI_sorted (x : Int) : ∀ {l : List Int}, l.Pairwise (· ≤ ·) → (insertI x l).Pairwise (· ≤ ·)
  | [], _ => by simp [insertI]
  | y :: r, h => by
    unfold insertI
    rw [List.pairwise_cons] at h
    split
    · rename_i hxy
      rw [List.pairwise_cons, List.pairwise_cons]
      refine ⟨fun z hz => ?_, h.1, h.2⟩
      rcases List.mem_cons.mp hz with e | e
      · subst e; omega
      · have := h.1 z e; omega
    · rename_i hxy
      rw [List.pairwise_cons]
      refine ⟨fun z hz => ?_, insertI_sorted x h.2⟩
      rcases List.mem_cons.mp ((insertI_perm x r).mem_iff.mp hz) with e | e
      · subst e; omega
      · exact h.1 z e
theorem sortI_sorted : ∀ l : List Int, (sortI l).Pairwise (· ≤ ·)
  | [] => List.Pairwise.nil
  | x :: r => insertI_sorted x (sortI_sorted r)
theorem sortI_unique {ns ns' : List Int} (hp : ns'.Perm ns) (hs : ns'.Pairwise (· ≤ ·)) : ns' = sortI ns :=
  List.Perm.eq_of_pairwise (fun a b _ _ h1 h2 => by omega) hs (sortI_sorted ns) (hp.trans (sortI_perm ns).symm)
theorem sortI_length (ns : List Int) : (sortI ns).length = ns.length := (sortI_perm ns).length_eq
theorem intsOf_length : ∀ {xs : List V} {ns : List Int}, intsOf xs = some ns → xs.length = ns.length
  | [], _, e => by simp [intsOf] at e; subst e; rfl
  | x :: r, ns, e => by
    cases x <;> simp [intsOf] at e
    obtain ⟨q, e1, rfl⟩ := e
    simp [intsOf_length e1]

theorem sorted_ok {a : Nat} {r : Addr} {xs : List V} {ns : List Int} (ha : σ[a]? = some r) (h0 : H[a]? = some xs) (hi : intsOf xs = some ns) (hl : ns.length < 64) (wr : WR hT σ H s.heap)
    (k : Kont hT b σ (.ref H.length) (H ++ [(sortI ns).map .int]) Q s) : wpAny (model prog w) A (call (.builtin "sorted") [.ref r]) Q E s := by
  obtain ⟨arr, p, vx, _⟩ := wr.obj a xs _ h0 ha
  have hI := ints_are hi vx
  have hz := arr_of vx
  have hx := intsOf_length hi
  refine sorted_ints (vs := arr.toList) (by simpa using p.isList) hI (by rw [Array.length_toList]; omega) fun out ns' a1 a2 a3 => ?_
  obtain ⟨e, he⟩ := sortedAll_at s.heap arr.toList out
  have hk : ∀ a o, s.heap.get? a = some o → (sortedAll s.heap arr.toList out).get? a = some o := fun _ _ => sortedAll_old
  have hn : s.heap.get? (s.heap.objs.size + 1) = none := by
    cases q : s.heap.get? (s.heap.objs.size + 1) with
    | none => rfl
    | some o => exact absurd (Heap.lt_size q) (Nat.not_lt.mpr (Nat.le_succ _))
  have hns : ns' = sortI ns := sortI_unique a2 a3
  subst hns
  refine k _ _ s.toks _ (wr.newL hk hn ⟨e, he⟩ (ints_back a1) ?_) (.ref (by rw [← wr.len]; simp)) (Ext.newL hk hn)
  rw [List.length_map, sortI_length, sizeLine_val]; omega

theorem bools_get {h : Heap} : ∀ {xs : List V} {bs : List Bool} {ws : List Value} {i : Nat} {wv : Value}, boolsOf xs = some bs → VRs σ h xs ws → ws[i]? = some wv → wv = .bool (bs.getD i false)
  | [], _, _, i, _, e, .nil, q => by simp at q
  | x :: r, bs, _, i, wv, e, .cons hx hr, q => by
    cases x <;> simp [boolsOf] at e
    obtain ⟨p, e1, rfl⟩ := e
    cases hx
    cases i with
    | zero => simp at q; subst q; rfl
    | succ i => simp at q; simpa using bools_get e1 hr q
theorem boolsOf_length : ∀ {xs : List V} {bs : List Bool}, boolsOf xs = some bs → xs.length = bs.length
  | [], _, e => by simp [boolsOf] at e; subst e; rfl
  | x :: r, ns, e => by
    cases x <;> simp [boolsOf] at e
    obtain ⟨q, e1, rfl⟩ := e
    simp [boolsOf_length e1]
theorem any_getD : ∀ bs : List Bool, (List.range bs.length).any (fun i => bs.getD i false) = bs.any id
  | [] => rfl
  | c :: r => by
    rw [List.length_cons, List.range_succ_eq_map, List.any_cons, List.any_map, List.any_cons, ← any_getD r]
    rfl

theorem any_ok {a : Nat} {r : Addr} {xs : List V} {bs : List Bool} (hh : A.handled = none) (ha : σ[a]? = some r) (h0 : H[a]? = some xs) (hi : boolsOf xs = some bs) (wr : WR hT σ H s.heap)
    (k : Kont hT b σ (.bool (bs.any id)) H Q s) : wpAny (model prog w) A (call (.builtin "any") [.ref r]) Q E s := by
  obtain ⟨arr, p, vx, _⟩ := wr.obj a xs _ h0 ha
  have hz := arr_of vx
  have hx := boolsOf_length hi
  refine call_any_walk (wpAny_pyIter_list p.isList ?_)
  have hlt : r < s.heap.objs.size := wr.lt (List.mem_of_getElem? ha)
  refine ⟨s.heap.objs.size, _, _, _, _, _, fun i => bs.getD i false, rfl, Walks.list (by exact hh) s.heap.objs.size r (Nat.ne_of_lt hlt) arr, ⟨⟨_, Heap.get?_push_size _ rfl, rfl, rfl⟩, (p.at fun o e => Heap.get?_push_of_some _ e).isList⟩, ?_, ?_⟩
  · intro i v s' Q' E' hP hQ
    have := bools_get hi vx (by rw [Array.getElem?_toList]; exact hP)
    subst this
    exact wpAny_truthy_bool hQ
  · intro h' tk hk
    have e : (List.range arr.size).any (fun i => bs.getD i false) = bs.any id := by rw [hz, hx, any_getD]
    rw [e]
    have hk' : ∀ a o, s.heap.get? a = some o → h'.get? a = some o := fun a o e => hk a o (by simp; exact Nat.ne_of_lt (Heap.lt_size e)) (Heap.get?_push_of_some _ e)
    refine k _ h' tk σ ⟨wr.len, fun a xs r e1 e2 => let ⟨arr, p, q, l⟩ := wr.obj a xs r e1 e2; ⟨arr, p.at fun o e => hk' _ _ e, q.mono (prefix_same _) (Tups.keeps hk'), l⟩, wr.nodup, fun a o e => hk' _ _ (wr.top a o e)⟩ (.bool _)
      ⟨⟨[], by simp, by simp⟩, fun a o e => ⟨o, hk' a o e⟩, fun a o e _ _ => hk' a o e⟩

theorem strs_are {h : Heap} : ∀ {xs : List V} {ss : List Str} {ws : List Value}, strsOf xs = some ss → VRs σ h xs ws → ∃ l : List (Str × Tok), ws = strValues l ∧ l.map (·.1) = ss
  | [], _, _, e, .nil => by simp [strsOf] at e; subst e; exact ⟨[], rfl, rfl⟩
  | x :: r, ss, _, e, .cons hx hr => by
    cases x <;> simp [strsOf] at e
    obtain ⟨q, e1, rfl⟩ := e
    cases hx with | str _ t _ =>
    obtain ⟨l, h1, h2⟩ := strs_are e1 hr
    exact ⟨(_, t) :: l, by rw [h1]; rfl, by simp [h2]⟩
theorem join_ok {a : Nat} {r : Addr} {x : Str} {t : Tok} {xs : List V} {ss : List Str} (ha : σ[a]? = some r) (h0 : H[a]? = some xs) (hi : strsOf xs = some ss) (hl : JoinOk x ss = true) (wr : WR hT σ H s.heap)
    (k : Kont hT b σ (.str (Txt.join x ss)) H Q s) : wpAny (model prog w) A (call (.builtin "str.join") [.str x t, .ref r]) Q E s := by
  obtain ⟨arr, p, vx, _⟩ := wr.obj a xs _ h0 ha
  obtain ⟨l, h1, h2⟩ := strs_are hi vx
  refine SC.join (l := l) (by rw [← h1]; simpa using p.isList) h2 hl fun t' tk => ?_
  exact k.same wr (.str _ _ (joinOk_length hl)) tk

theorem list_one {x : V} {ws : List Value} {h : Heap} (h1 : VRs σ h [x] ws) : ∃ w, ws = [w] ∧ VR σ h x w := by
  cases h1 with | cons a r => cases r; exact ⟨_, rfl, a⟩

theorem callB_ok {f : Str} {as : List V} {ws : List Value} {fv : Value} {v : V} {H' : Hp} (he : callB f as H = some (v, H')) (hf : bval f = some fv) (hh : A.handled = none) (hs : VRs σ s.heap as ws) (wr : WR hT σ H s.heap)
    (k : Kont hT b σ v H' Q s) : wpAny (model prog w) A (call fv ws) Q E s := by
  unfold callB at he
  unfold bval at hf
  split at he
  · rename_i h1
    rw [if_pos h1] at hf; cases hf
    split at he
    · cases he
      obtain ⟨wv, rfl, hv⟩ := list_one hs
      cases hv with | str _ t hl =>
      rw [sizeLine_val] at hl
      exact PyProof.Rows.len_str (by omega) (k.same wr (.int _ _) _)
    · cases he
      obtain ⟨wv, rfl, hv⟩ := list_one hs
      cases hv with | tup a1 a2 a3 a4 a5 =>
      rw [sizeLine_val] at a5
      have ht : IsTup s.heap _ _ := ⟨_, a1, a2, _, a3⟩
      have hz := arr_of a4
      exact PyProof.Rows.len_tuple ht (by omega) (by rw [hz]; exact k.same wr (.int _ _) _)
    · rename_i a
      obtain ⟨wv, rfl, hv⟩ := list_one hs
      cases hv with | ref ha =>
      cases h0 : H[a]? with
      | none => rw [h0] at he; cases he
      | some xs =>
      rw [h0] at he; cases he
      obtain ⟨arr, p, vx, hl⟩ := wr.obj a xs _ h0 ha
      rw [sizeLine_val] at hl
      have hz := arr_of vx
      exact Calls.call_len_list p.isList (by omega) (by rw [hz]; exact k.same wr (.int _ _) _)
    · cases he
  rename_i n1
  rw [if_neg n1] at hf
  split at he
  · rename_i h1
    rw [if_pos h1] at hf; cases hf
    cases he
  rename_i n2
  rw [if_neg n2] at hf
  split at he
  · rename_i h1
    rw [if_pos h1] at hf; cases hf
    split at he
    · split at he
      · rename_i hc
        cases he
        obtain ⟨wv, rfl, hv⟩ := list_one hs
        cases hv
        exact PyProof.Rows.chr_of_range hc.1 (by omega) (k.same wr (.str _ _ (by show (1 : Nat) ≤ _; decide)) _)
      · cases he
    · cases he
  rename_i n3
  rw [if_neg n3] at hf
  split at he
  · rename_i h1
    rw [if_pos h1] at hf; cases hf
    split at he
    · rename_i x t
      split at he
      · rename_i hc
        cases hu : typeV H x with
        | none => rw [hu] at he; cases he
        | some u =>
        rw [hu] at he; cases he
        cases hs with | cons hx r =>
        cases r with | cons ht r =>
        cases r
        cases ht
        exact isi_ok hc hu hx wr fun tk => k.same wr (.bool _) tk
      · cases he
    · cases he
  rename_i n4
  rw [if_neg n4] at hf
  split at he
  · rename_i h1
    rw [if_pos h1] at hf; cases hf
    cases he
  rename_i n5
  rw [if_neg n5] at hf
  split at he
  · rename_i h1
    rw [if_pos h1] at hf; cases hf
    split at he
    · rename_i a
      obtain ⟨wv, rfl, hv⟩ := list_one hs
      cases hv with | ref ha =>
      obtain ⟨xs, h0, he1⟩ := Option.bind_eq_some_iff.mp he
      obtain ⟨ns, h2, he2⟩ := Option.bind_eq_some_iff.mp he1
      split at he2
      · rename_i hl
        cases he2
        exact sorted_ok ha h0 h2 hl wr k
      · cases he2
    · cases he
  rename_i n6
  rw [if_neg n6] at hf
  split at he
  · rename_i h1
    rw [if_pos h1] at hf; cases hf
    split at he
    · rename_i a
      obtain ⟨wv, rfl, hv⟩ := list_one hs
      cases hv with | ref ha =>
      obtain ⟨xs, h0, he1⟩ := Option.bind_eq_some_iff.mp he
      obtain ⟨bs, h2, he2⟩ := Option.map_eq_some_iff.mp he1
      cases he2
      exact any_ok hh ha h0 h2 wr k
    · cases he
  · cases he

/-! methods -/
theorem PlainList.bare {h : Heap} {r : Addr} {arr : Array Value} (p : h.PlainList r arr) : ∃ o, h.get? r = some o ∧ o.cls = .type "list" ∧ o.dict = none := let ⟨_, e⟩ := p; ⟨_, e, rfl, rfl⟩

/-- the built-in behind a method -/
noncomputable def methId (o : V) (m : Str) : Option String :=
  match o with
  | .ref _ => if m = "append" then some "list.append" else if m = "pop" then some "list.pop" else none
  | .str _ => if m = "join" then some "str.join" else if m = "rfind" then some "str.rfind" else if m = "count" then some "str.count" else none
  | _ => none

theorem callM_id {m : Str} {o : V} {as : List V} {p : V × Hp} (he : callM b m o as H = some p) : ∃ id, methId o m = some id := by
  unfold callM at he
  unfold methId
  split at he
  · split at he
    · rename_i h1; exact ⟨_, by (try dsimp only); rw [if_pos h1]⟩
    · split at he
      · rename_i h2 h1; exact ⟨_, by (try dsimp only); rw [if_neg h2, if_pos h1]⟩
      · cases he
  · split at he
    · rename_i h1; exact ⟨_, by (try dsimp only); rw [if_pos h1]⟩
    · split at he
      · rename_i h2 h1; exact ⟨_, by (try dsimp only); rw [if_neg h2, if_pos h1]⟩
      · split at he
        · rename_i h3 h2 h1; exact ⟨_, by (try dsimp only); rw [if_neg h3, if_neg h2, if_pos h1]⟩
        · cases he
  · cases he

theorem getM_ok {m : Str} {o : V} {wo : Value} {id : String} {pl : Sem Bool} {R : Value × List Value → Shared → Prop} (hid : methId o m = some id) (ho : VR σ s.heap o wo) (wr : WR hT σ H s.heap) (hR : R (.builtin id, [wo]) s) :
    wpAny (model prog w) A (getMethod wo m pl) R E s := by
  unfold methId at hid
  split at hid
  · cases ho with | ref ha =>
    obtain ⟨arr, p⟩ := wr.lists (List.mem_of_getElem? ha)
    obtain ⟨o, e1, e2, e3⟩ := PlainList.bare p
    split at hid
    · rename_i h1; subst h1; cases hid
      exact Calls.getMethod_list_append e1 e2 e3 hR
    · split at hid
      · rename_i h1; subst h1; cases hid
        exact getMethod_list_of PySem.F.slot_list_pop PySem.F.type_list_pop p.isList (by exact ⟨o, e1, e3⟩) hR
      · cases hid
  · cases ho with | str _ t hl =>
    split at hid
    · rename_i h1; subst h1; cases hid; exact GM.join hR
    · split at hid
      · rename_i h1; subst h1; cases hid; exact GM.rfind hR
      · split at hid
        · rename_i h1; subst h1; cases hid; exact GM.count hR
        · cases hid
  · cases hid

theorem dropLast_erase {α : Type} : ∀ (xs : List α), xs.dropLast = xs.eraseIdx (xs.length - 1)
  | [] => rfl
  | [_] => rfl
  | x :: y :: r => by
    rw [List.dropLast_cons_cons]
    show x :: (y :: r).dropLast = (x :: y :: r).eraseIdx (r.length + 1)
    rw [List.eraseIdx_cons_succ, dropLast_erase (y :: r)]
    rfl
theorem mem_drop_of' {a : Nat} {r : Addr} (ha : σ[a]? = some r) (hb : b ≤ a) : r ∈ σ.drop b := by
  rw [List.mem_iff_getElem?]
  exact ⟨a - b, by rw [List.getElem?_drop, show b + (a - b) = a by omega]; exact ha⟩

theorem callM_ok {m : Str} {o v : V} {as : List V} {wo : Value} {H' : Hp} {id : String} {ws : List Value} (he : callM b m o as H = some (v, H')) (hid : methId o m = some id) (ho : VR σ s.heap o wo) (wr : WR hT σ H s.heap) (habove : ∀ r ∈ σ.drop b, hT.get? r = none)
    (hs : VRs σ s.heap as ws) (k : Kont hT b σ v H' Q s) : wpAny (model prog w) A (call (.builtin id) (wo :: ws)) Q E s := by
  unfold callM at he
  unfold methId at hid
  split at he
  · rename_i a
    cases ho with | ref ha =>
    rename_i r
    dsimp only at hid
    split at he
    · rename_i h1
      rw [if_pos h1] at hid; cases hid
      split at he
      · rename_i x
        obtain ⟨xs, h0, he1⟩ := Option.bind_eq_some_iff.mp he
        split at he1
        · rename_i hc
          cases he1
          obtain ⟨wx, rfl, hx⟩ := list_one hs
          obtain ⟨arr, p, vx, hl⟩ := wr.obj a xs _ h0 ha
          have hz := arr_of vx
          refine wpAny_list_append_plain p (fun h' p' hs' => ?_) (by rw [hz, sizeLine_val]; omega)
          have hab : hT.get? r = none := habove r (mem_drop_of' ha hc.1)
          have hv : VRs σ s.heap (xs ++ [x]) (arr.push wx).toList := by rw [Array.toList_push]; exact vx.append (.cons hx .nil)
          exact k _ _ s.toks _ (wr.setL ha hs' p' hv (by rw [List.length_append, sizeLine_val]; simp; omega) hab) .none (Ext.setL ha hc.1 hs' p')
        · cases he1
      · cases he
    · rename_i h2
      rw [if_neg h2] at hid
      split at he
      · rename_i h1
        rw [if_pos h1] at hid; cases hid
        split at he
        · obtain ⟨xs, h0, he1⟩ := Option.bind_eq_some_iff.mp he
          split at he1
          · rename_i hc
            cases hs
            obtain ⟨x, h3, h4⟩ := Option.map_eq_some_iff.mp he1
            cases h4
            obtain ⟨arr, ⟨nn, p⟩, vx, hl⟩ := wr.obj a xs _ h0 ha
            have hz := arr_of vx
            have hab : hT.get? r = none := habove r (mem_drop_of' ha hc)
            have h5 : xs[xs.length - 1]? = some v := by rw [← List.getLast?_eq_getElem?]; exact h3
            obtain ⟨wv, e1, e2⟩ := vx.get h5
            have hlt : arr.size - 1 < arr.size := by
              obtain ⟨q, _⟩ := List.getElem?_eq_some_iff.mp h5
              rw [hz]; exact q
            have e3 : arr[arr.size - 1]? = some wv := by rw [hz, ← Array.getElem?_toList]; exact e1
            have hpl : (s.heap.update r (Obj.mapSeq fun xs => xs.eraseIdxIfInBounds (arr.size - 1))).PlainList r (arr.eraseIdxIfInBounds (arr.size - 1)) := ⟨_, IsL.update (n := nn) p _⟩
            have hsb : Heap.SameBut r s.heap (s.heap.update r (Obj.mapSeq fun xs => xs.eraseIdxIfInBounds (arr.size - 1))) := Heap.SameBut.update ..
            have hv : VRs σ s.heap xs.dropLast (arr.eraseIdxIfInBounds (arr.size - 1)).toList := by
              rw [Array.eraseIdxIfInBounds, dif_pos hlt, Array.toList_eraseIdx, dropLast_erase, hz]
              exact vx.eraseIdx
            have hwr := wr.setL ha hsb hpl hv (by rw [List.length_dropLast]; omega) hab
            have hex : Ext [] b σ s.heap σ _ := Ext.setL ha hc hsb hpl
            refine call_meets PySem.F.slot_list_pop ⟨_, p, rfl⟩ PySem.F.entry_list_pop (PySem.F.args_list_pop_1 _) (MeetsSeq.list_pop_last r arr nn wv e3 (by rw [hz]; exact hl)) ⟨p, ?_⟩
            refine k _ _ s.toks _ hwr (e2.mono (prefix_same _) (hex.tups wr)) hex
          · cases he1
        · cases he
      · cases he
  · rename_i z
    cases ho with | str _ t hl =>
    dsimp only at hid
    split at he
    · rename_i h1
      rw [if_pos h1] at hid; cases hid
      split at he
      · rename_i a
        obtain ⟨xs, h0, he1⟩ := Option.bind_eq_some_iff.mp he
        obtain ⟨ss, h2, he2⟩ := Option.bind_eq_some_iff.mp he1
        split at he2
        · rename_i hc
          cases he2
          obtain ⟨wx, rfl, hx⟩ := list_one hs
          cases hx with | ref ha =>
          exact join_ok ha h0 h2 hc wr k
        · cases he2
      · cases he
    · rename_i h2
      rw [if_neg h2] at hid
      split at he
      · rename_i h1
        rw [if_pos h1] at hid; cases hid
        cases he
      · rename_i h3
        rw [if_neg h3] at hid
        split at he
        · rename_i h1
          rw [if_pos h1] at hid; cases hid
          cases he
        · cases he
  · cases he
end
end Mine
end

section
set_option autoImplicit false
set_option maxRecDepth 100000
namespace Mine
open PySem PyProof.Rows
section
variable {prog : Program} {w : World} {A : Around} {E : Value → Shared → Prop} {s : Shared} {hT : Heap} {b : Nat} {σ : List Addr} {H : Hp}

theorem mapSeq_set (its : Array Value) (n j : Nat) (v : Value) : Obj.mapSeq (·.setIfInBounds j v) { cls := .type "list", data := .seq its n } = { cls := .type "list", data := .seq (its.setIfInBounds j v) n } := by
  simp [Obj.mapSeq]

/-- xs[k] = v, k from the front or from behind -/
theorem setItem_plain {l : Addr} {items : Array Value} {k : Int} {t : Tok} {v : Value} {j : Nat} {Q : Unit → Shared → Prop} (hl : s.heap.PlainList l items) (hlo : -(2 ^ 63) ≤ k) (hhi : k < 2 ^ 63) (hj : seqIndex? k items.size = some j)
    (hQ : ∀ h', h'.PlainList l (items.setIfInBounds j v) → Heap.SameBut l s.heap h' → Q () { s with heap := h' }) : wpAny (model prog w) A (setItem (.ref l) (.int k t) v) Q E s := by
  obtain ⟨ne, ho⟩ := id hl
  have hL := hl.isList
  have hjl : j < items.size := by
    rcases seqIndex_cases hj with ⟨h0, h1, rfl⟩ | ⟨h0, h1, rfl⟩ <;> omega
  have hx : items[j]? = some items[j] := Array.getElem?_eq_getElem hjl
  have fin : ∀ {A' : Around} {R : Unit → Shared → Prop} {E' : Value → Shared → Prop}, (∀ s', Q () s' → R () s') → wpAny (model prog w) A' (setSeqItemAt l j v) R E' s := by
    intro A' R E' hR
    refine wpAny_setSeqItemAt ho rfl (hR _ (hQ _ ⟨ne, ?_⟩ (Heap.SameBut.update ..)))
    rw [Heap.get?_update_self _ ho (by rw [mapSeq_set]; rfl), mapSeq_set]
  unfold setItem
  try with_reducible refine wpAny_holding ?_
  first | refine wpAny_bind (wpAny_pure ?_) | skip
  refine wpAny_bind (wpAny_sequenceKey hL.typeIs (by decide) ?_)
  refine wpAny_bind (wpAny_callSpecial?_slot (name := Str.ofString "__setitem__") hL.typeIs slot_list_setitem
    (wpAny_call_entry slot_list_setitem hL.typeIs entry_list_setitem ?_ (args_list_setitem _ _ _)))
  show wpAny _ _ (Builtin.List.listSubscript? (.int k t) >>= _) _ _ s
  rcases seqIndex_cases hj with ⟨h0, h1, e⟩ | ⟨h0, h1, e⟩
  · refine wpAny_bind (wpAny_listSubscript_int (fitsIndex_of h0 hhi) ?_)
    clear hlo hhi
    obtain ⟨q, rfl⟩ := Int.eq_ofNat_of_zero_le h0
    simp only [Int.toNat_natCast] at e
    subst e
    show wpAny _ _ ((seqItemAt l j >>= fun r => pure (r.map (j, ·))) >>= _) _ _ s
    refine wpAny_bind (wpAny_bind (wpAny_seqItemAt ho rfl (wpAny_pure ?_)))
    rw [hx]
    show wpAny _ _ (setSeqItemAt l j v >>= _) _ _ s
    refine wpAny_bind (fin fun s' h' => ?_)
    first
      | exact wpAny_bind (wpAny_pure (wpAny_pure ⟨.none, rfl, wpAny_pure h'⟩))
      | exact wpAny_pure ⟨.none, rfl, wpAny_pure h'⟩
  · refine wpAny_bind (wpAny_listSubscript_int (fitsIndex_neg h0 hlo) ?_)
    clear hlo hhi
    have hidx := hj
    obtain ⟨q, rfl⟩ : ∃ q : Nat, k = Int.negSucc q := by
      cases k with
      | ofNat n => exact absurd h0 (Int.not_lt.mpr (Int.natCast_nonneg n))
      | negSucc n => exact ⟨n, rfl⟩
    show wpAny _ _ ((Builtin.List.listItems (.ref l) >>= fun xs => pure ((seqIndex? (Int.negSucc q) xs.size).bind fun i => xs[i]?.map (i, ·))) >>= _) _ _ s
    refine wpAny_bind (wpAny_bind ?_)
    show wpAny _ _ (seqItems? (.ref l) >>= _) _ _ s
    refine wpAny_bind (wpAny_seqItems ho rfl (wpAny_pure (wpAny_pure ?_)))
    rw [hidx]
    simp only [Option.bind_some, hx, Option.map_some]
    refine wpAny_bind (fin fun s' h' => ?_)
    first
      | exact wpAny_bind (wpAny_pure (wpAny_pure ⟨.none, rfl, wpAny_pure h'⟩))
      | exact wpAny_pure ⟨.none, rfl, wpAny_pure h'⟩

theorem mem_drop_of {a : Nat} {r : Addr} (ha : σ[a]? = some r) (hb : b ≤ a) : r ∈ σ.drop b := by
  rw [List.mem_iff_getElem?]
  exact ⟨a - b, by rw [List.getElem?_drop, show b + (a - b) = a by omega]; exact ha⟩

/-- what a store hands on -/
noncomputable def KontU (hT : Heap) (b : Nat) (σ : List Addr) (H' : Hp) (Q : Unit → Shared → Prop) (s : Shared) : Prop :=
  ∀ h', WR hT σ H' h' → Ext [] b σ s.heap σ h' → Q () { s with heap := h' }

theorem setIdx_ok {o i v : V} {wo wi wv : Value} {H' : Hp} {Q : Unit → Shared → Prop} (he : setIdx b o i v H = some H') (ho : VR σ s.heap o wo) (hi : VR σ s.heap i wi) (hv : VR σ s.heap v wv) (wr : WR hT σ H s.heap)
    (habove : ∀ r ∈ σ.drop b, hT.get? r = none) (k : KontU hT b σ H' Q s) : wpAny (model prog w) A (setItem wo wi wv) Q E s := by
  unfold setIdx at he
  split at he
  · rename_i a q
    cases hi
    cases ho with | ref ha =>
    obtain ⟨xs, h0, he1⟩ := Option.bind_eq_some_iff.mp he
    obtain ⟨j, hj, he2⟩ := Option.bind_eq_some_iff.mp he1
    split at he2
    · rename_i hb
      cases he2
      obtain ⟨arr, p, vx, hl⟩ := wr.obj a xs _ h0 ha
      have hz := arr_of vx
      have hl' := hl
      rw [sizeLine_val] at hl'
      refine setItem_plain p ?_ ?_ (by rw [hz]; exact hj) fun h' p' hs' => ?_
      · rcases seqIndex_cases hj with ⟨h0, h2, _⟩ | ⟨h0, h2, _⟩ <;> omega
      · rcases seqIndex_cases hj with ⟨h0, h2, _⟩ | ⟨h0, h2, _⟩ <;> omega
      · have hv' : VRs σ s.heap (xs.set j v) (arr.setIfInBounds j wv).toList := by rw [Array.toList_setIfInBounds]; exact vx.set hv
        exact k h' (wr.setL ha hs' p' hv' (by rw [List.length_set]; exact hl) (habove _ (mem_drop_of ha hb))) (Ext.setL ha hb hs' p')
    · cases he2
  · cases he

theorem delIdx_ok {o i : V} {wo wi : Value} {H' : Hp} {Q : Unit → Shared → Prop} (he : delIdx b o i H = some H') (ho : VR σ s.heap o wo) (hi : VR σ s.heap i wi) (wr : WR hT σ H s.heap)
    (habove : ∀ r ∈ σ.drop b, hT.get? r = none) (k : KontU hT b σ H' Q s) : wpAny (model prog w) A (delItem wo wi) Q E s := by
  unfold delIdx at he
  split at he
  · rename_i a q
    cases hi
    cases ho with | ref ha =>
    obtain ⟨xs, h0, he1⟩ := Option.bind_eq_some_iff.mp he
    obtain ⟨j, hj, he2⟩ := Option.bind_eq_some_iff.mp he1
    split at he2
    · rename_i hb
      cases he2
      obtain ⟨arr, p, vx, hl⟩ := wr.obj a xs _ h0 ha
      have hz := arr_of vx
      have hl' := hl
      rw [sizeLine_val] at hl'
      have hjl : j < arr.size := by
        rcases seqIndex_cases hj with ⟨h0, h2, e⟩ | ⟨h0, h2, e⟩ <;> (rw [e, hz]; omega)
      refine wpAny_delItem_plain p ?_ (by rw [hz]; exact hj) (fun h' p' hs' => ?_) (by rw [hz]; exact hl)
      · rcases seqIndex_cases hj with ⟨h0, h2, _⟩ | ⟨h0, h2, _⟩
        · exact fitsIndex_of h0 (by omega)
        · exact fitsIndex_neg h0 (by omega)
      · have hv' : VRs σ s.heap (xs.eraseIdx j) (arr.eraseIdxIfInBounds j).toList := by
          rw [Array.eraseIdxIfInBounds, dif_pos hjl, Array.toList_eraseIdx]; exact vx.eraseIdx
        exact k h' (wr.setL ha hs' p' hv' (Nat.le_trans (List.length_eraseIdx_le ..) hl) (habove _ (mem_drop_of ha hb))) (Ext.setL ha hb hs' p')
    · cases he2
  · cases he
end
end Mine
end

section
set_option autoImplicit false
set_option maxRecDepth 100000
namespace Mine
open PySem PyProof.Rows

/-- a token count that is not nought -/
structure Tok1 (z : Nat) where
  n : Nat
  pos : z ≤ n
/-- what an expression hands on -/
noncomputable def KontT (z : Nat) (hT : Heap) (b : Nat) (σ : List Addr) (v : V) (H' : Hp) (Q : Value → Shared → Prop) (s : Shared) : Prop :=
  ∀ w h' (tk : Tok1 z) σ', WR hT σ' H' h' → VR σ' h' v w → Ext [] b σ s.heap σ' h' → Q w { s with heap := h', toks := tk.n }
theorem lift {z : Nat} {α : Type} {M : Model} {A : Around} {t : Sem α} {Q : α → Shared → Prop} {E : Value → Shared → Prop} {s : Shared} (ht : z ≤ s.toks)
    (h : wpAny M A t (fun a s' => z ≤ s'.toks → Q a s') (fun e s' => z ≤ s'.toks → E e s') s) : wpAny M A t Q E s := wpAny_with_toks ht h
theorem KontT.toK {z : Nat} {hT : Heap} {b : Nat} {σ : List Addr} {v : V} {H' : Hp} {Q : Value → Shared → Prop} {s : Shared} (k : KontT z hT b σ v H' Q s) : Kont hT b σ v H' (fun a s' => z ≤ s'.toks → Q a s') s :=
  fun w h' tk σ' wr hv ex ht => k w h' ⟨tk, ht⟩ σ' wr hv ex
theorem KontT.same' {z : Nat} {hT : Heap} {b : Nat} {σ : List Addr} {v : V} {H : Hp} {Q : Value → Shared → Prop} {s : Shared} {wv : Value} (k : KontT z hT b σ v H Q s) (wr : WR hT σ H s.heap) (hv : VR σ s.heap v wv) (ht : z ≤ s.toks) : Q wv s :=
  k wv s.heap ⟨s.toks, ht⟩ σ wr hv (Ext.refl ..)

/-- a tree that begins with a new token ends with one token at least -/
theorem fresh_toks {α : Type} {M : Model} {A : Around} {t : Sem α} {k : Tok → Sem α} {Q : α → Shared → Prop} {E : Value → Shared → Prop} {s : Shared} (e : t = Sem.fresh k)
    (h : wpAny M A t (fun a s' => 1 ≤ s'.toks → Q a s') (fun e s' => 1 ≤ s'.toks → E e s') s) : wpAny M A t Q E s := by
  subst e
  have h2 : wpAny M A (Sem.fresh k) (fun a s' => 1 ≤ s'.toks ∧ (1 ≤ s'.toks → Q a s')) (fun e s' => 1 ≤ s'.toks ∧ (1 ≤ s'.toks → E e s')) s := fun Γ p hΓ =>
    Sem.wp_toks M Γ 1 (k s.toks) _ _ p { s with toks := s.toks + 1 } (Nat.le_add_left 1 s.toks) (h Γ p hΓ)
  exact wpAny_mono h2 (fun _ _ x => x.2 x.1) (fun _ _ x => x.2 x.1)

/-- a def of the text: what the small reading gives for it, its call gives -/
noncomputable def FnSound (z : Nat) (prog : Program) (w : World) (hT : Heap) (σ₀ : List Addr) (n : Nat) (fn : List V → Hp → Option (V × Hp)) (fa : Addr) : Prop :=
  ∀ args H v H', fn args H = some (v, H') → ∀ (A : Around) (σ : List Addr) (s : Shared) (Q : Value → Shared → Prop) (E : Value → Shared → Prop) (ws : List Value),
    Room A n → WR hT σ H s.heap → σ₀ <+: σ → VRs σ s.heap args ws → KontT z hT H.length σ v H' Q s → z ≤ s.toks → wpAny (model prog w) A (call (.ref fa) ws) Q E s

structure Base (prog : Program) (w : World) (hT : Heap) (σ₀ : List Addr) (n : Nat) (g : Glob) : Prop where
  gns : ∃ mg, hT.Ns mainGlobals mg ∧ (∀ x v, g.val x = some v → ∃ wv, mg x = some wv ∧ VR σ₀ hT v wv) ∧ (∀ x fv, g.val x = none → g.isFn x = false → bval x = some fv → mg x = none) ∧
    (∀ x, g.isFn x = true → ∃ fa o fd, mg x = some (.ref fa) ∧ hT.get? fa = some o ∧ o.data = .func fd ∧ FnSound (zOf x) prog w hT σ₀ n (g.fn x) fa) ∧
    True
  bns : ∃ mb, hT.Ns builtinsNs mb ∧ ∀ x fv, bval x = some fv → mb x = some fv

section
variable (z : Nat) (prog : Program) (w : World) (hT : Heap) (σ₀ : List Addr) (b n : Nat)

structure RecOK (rec : Rec) : Prop where
  ok : ∀ e κ ρ H v H', rec e κ ρ H = some (v, H') → ∀ (A : Around) (ω : Str → Bool) (W : List Addr) (env : Env) (σ : List Addr) (s : Shared) (Q : Value → Shared → Prop) (E : Value → Shared → Prop),
  Room A n → Good hT σ₀ κ ω ρ W env b σ H s.heap → KontT z hT b σ v H' Q s → (ht : z ≤ s.toks := by first | assumption | exact Tok1.pos _ | exact Nat.zero_le _) → wpAny (model prog w) A (eval e env) Q E s

noncomputable def KontB (σ : List Addr) (t : Bool) (H' : Hp) (Q : Bool → Shared → Prop) (s : Shared) : Prop :=
  ∀ h' (tk : Tok1 z) σ', WR hT σ' H' h' → Ext [] b σ s.heap σ' h' → Q t { s with heap := h', toks := tk.n }
structure RecTOK (rec : RecT) : Prop where
  ok : ∀ e κ ρ H t H', rec e κ ρ H = some (t, H') → ∀ (A : Around) (ω : Str → Bool) (W : List Addr) (env : Env) (σ : List Addr) (s : Shared) (Q : Bool → Shared → Prop) (E : Value → Shared → Prop),
  Room A n → Good hT σ₀ κ ω ρ W env b σ H s.heap → KontB z hT b σ t H' Q s → (ht : z ≤ s.toks := by first | assumption | exact Tok1.pos _ | exact Nat.zero_le _) → wpAny (model prog w) A (isTrue e env (eval e env)) Q E s

noncomputable def KontL (σ : List Addr) (vs : List V) (H' : Hp) (Q : List Value → Shared → Prop) (s : Shared) : Prop :=
  ∀ ws h' (tk : Tok1 z) σ', WR hT σ' H' h' → VRs σ' h' vs ws → Ext [] b σ s.heap σ' h' → Q ws { s with heap := h', toks := tk.n }
end

section
variable {z : Nat} {prog : Program} {w : World} {hT : Heap} {σ₀ : List Addr} {b n : Nat} {g : Glob} {A : Around} {E : Value → Shared → Prop} {s : Shared} {σ : List Addr} {H : Hp} {κ : Kap} {ω : Str → Bool} {ρ : Rho} {W : List Addr} {env : Env}

theorem KontT.after {σ' : List Addr} {v : V} {H' : Hp} {Q : Value → Shared → Prop} {h' : Heap} {tk : Tok1 z} (k : KontT z hT b σ v H' Q s) (e : Ext [] b σ s.heap σ' h') : KontT z hT b σ' v H' Q { s with heap := h', toks := tk.n } :=
  fun wv h'' tk' σ'' wr hv ex => k wv h'' tk' σ'' wr hv (e.trans ex)
theorem KontB.after {σ' : List Addr} {t : Bool} {H' : Hp} {Q : Bool → Shared → Prop} {h' : Heap} {tk : Tok1 z} (k : KontB z hT b σ t H' Q s) (e : Ext [] b σ s.heap σ' h') : KontB z hT b σ' t H' Q { s with heap := h', toks := tk.n } :=
  fun h'' tk' σ'' wr ex => k h'' tk' σ'' wr (e.trans ex)
theorem KontL.after {σ' : List Addr} {vs : List V} {H' : Hp} {Q : List Value → Shared → Prop} {h' : Heap} {tk : Tok1 z} (k : KontL z hT b σ vs H' Q s) (e : Ext [] b σ s.heap σ' h') : KontL z hT b σ' vs H' Q { s with heap := h', toks := tk.n } :=
  fun ws h'' tk' σ'' wr hv ex => k ws h'' tk' σ'' wr hv (e.trans ex)

/-- a value outlives an expression's step -/
theorem VR.after {v : V} {wv : Value} {σ' : List Addr} {h h' : Heap} (x : VR σ h v wv) (wr : WR hT σ H h) (e : Ext [] b σ h σ' h') : VR σ' h' v wv := x.mono e.prefix (e.tups wr)
theorem VRs.after {v : List V} {wv : List Value} {σ' : List Addr} {h h' : Heap} (x : VRs σ h v wv) (wr : WR hT σ H h) (e : Ext [] b σ h σ' h') : VRs σ' h' v wv := x.mono e.prefix (e.tups wr)

theorem bval_of_type {x : Str} {v : V} (h : builtinType x = some v) : ∃ nm, v = .type nm ∧ bval x = some (.type nm) := by
  unfold builtinType at h
  split at h
  · rename_i e; cases h; subst e; exact ⟨_, rfl, by decide +kernel⟩
  · split at h
    · rename_i e; cases h; subst e; exact ⟨_, rfl, by decide +kernel⟩
    · split at h
      · rename_i e; cases h; subst e; exact ⟨_, rfl, by decide +kernel⟩
      · split at h
        · rename_i e; cases h; subst e; exact ⟨_, rfl, by decide +kernel⟩
        · cases h

theorem global_ok {x : Str} {pos : Pos} {Q : Value → Shared → Prop} (B : Base prog w hT σ₀ n g) (G : Good hT σ₀ κ ω ρ W env b σ H s.heap) (hk : κ x = some .globalImplicit) (hd : x ≠ "__debug__")
    (hv : (∃ v, g.val x = some v ∧ ∀ w', VR σ s.heap v w' → Q w' s) ∨ (g.val x = none ∧ g.isFn x = false ∧ ∃ fv, bval x = some fv ∧ Q fv s)) : wpAny (model prog w) A (eval (.Name x pos) env) Q E s := by
  have hk' : env.kindOf x = some .globalImplicit := by rw [G.env.kind]; exact hk
  have hd' : (x == ("__debug__" : Str)) = false := by simpa using hd
  refine Calls.Name_function_global G.env.fn hk' ?_ hd'
  obtain ⟨mg, hg, h1, h2, _⟩ := B.gns
  have hg' : s.heap.Ns env.globals mg := by rw [G.env.glob]; exact hg.keeps G.wr.top
  rcases hv with ⟨v, e1, q⟩ | ⟨e1, e2, fv, e3, q⟩
  · obtain ⟨wv, e3, e4⟩ := h1 x v e1
    exact Calls.loadGlobal_global hg' e3 (q wv (e4.mono G.tab (Tups.keeps G.wr.top)))
  · obtain ⟨mb, hb, h3⟩ := B.bns
    have hb' : s.heap.Ns env.builtins mb := by rw [G.env.blt]; exact hb.keeps G.wr.top
    exact Calls.loadGlobal_builtin hg' (h2 x fv e1 e2 e3) hb' (h3 x fv e3) q

theorem name_ok {x : Str} {pos : Pos} {v : V} {Q : Value → Shared → Prop} (he : nameV g κ ρ x = some v) (B : Base prog w hT σ₀ n g) (G : Good hT σ₀ κ ω ρ W env b σ H s.heap) (k : KontT z hT b σ v H Q s) (ht : z ≤ s.toks := by first | assumption | exact Tok1.pos _ | exact Nat.zero_le _) :
    wpAny (model prog w) A (eval (.Name x pos) env) Q E s := by
  unfold nameV at he
  split at he
  · cases he
  rename_i hn
  simp only [not_or] at hn
  have hd' : (x == ("__debug__" : Str)) = false := by simpa using hn.1
  have hc' : (x == ("__classdict__" : Str)) = false := by simpa using hn.2
  split at he
  · rename_i hk
    obtain ⟨m, hm, hv⟩ := G.env.ns
    obtain ⟨wv, e1, e2⟩ := hv x v hk he
    exact wpAny_Name (wpAny_loadName_local G.env.fn (by rw [G.env.kind]; exact hk) hm e1 (k.same' G.wr e2 ht)) hd'
  · rename_i hk
    obtain ⟨c, v₀, e1, e2, e3⟩ := G.env.cell x (.inl hk)
    obtain ⟨wv, rfl, e5⟩ := e3 v he
    exact wpAny_Name (wpAny_loadName_cell G.env.fn (by rw [G.env.kind]; exact hk) e1 e2 (k.same' G.wr e5 ht)) hd'
  · rename_i hk
    obtain ⟨c, v₀, e1, e2, e3⟩ := G.env.cell x (.inr hk)
    obtain ⟨wv, rfl, e5⟩ := e3 v he
    exact wpAny_Name (wpAny_loadName_free G.env.fn (by rw [G.env.kind]; exact hk) e1 e2 (k.same' G.wr e5 ht) hc') hd'
  · rename_i hk
    split at he
    · rename_i u hu
      cases he
      exact global_ok B G hk hn.1 (.inl ⟨_, hu, fun w' q => k.same' G.wr q ht⟩)
    · rename_i hu
      split at he
      · cases he
      · rename_i hf
        obtain ⟨nm, rfl, e⟩ := bval_of_type he
        exact global_ok B G hk hn.1 (.inr ⟨hu, by simpa using hf, _, e, k.same' G.wr (.type nm) ht⟩)
  · cases he

theorem evs_ok {rec : Rec} (R : RecOK z prog w hT σ₀ b n rec) (room : Room A n) : ∀ {es : List Expr} {vs : List V} {H H' : Hp} {σ : List Addr} {s : Shared} {pos : Pos} {Q : List Value → Shared → Prop}, evs rec κ ρ es H = some (vs, H') →
    Good hT σ₀ κ ω ρ W env b σ H s.heap → KontL z hT b σ vs H' Q s → (ht : z ≤ s.toks := by first | assumption | exact Tok1.pos _ | exact Nat.zero_le _) → wpAny (model prog w) A (spliced (backTo pos (starEach es env))) Q E s
  | [], vs, H, H', σ, s, pos, Q, he, G, k, ht => by
    simp [evs] at he
    obtain ⟨rfl, rfl⟩ := he
    exact Calls.spliced_nil (k [] s.heap ⟨s.toks, ht⟩ σ G.wr .nil (Ext.refl ..))
  | e :: r, vs, H, H', σ, s, pos, Q, he, G, k, ht => by
    unfold evs at he
    split at he
    · rename_i hst
      obtain ⟨p, h1, he1⟩ := Option.bind_eq_some_iff.mp he
      obtain ⟨q, h2, he2⟩ := Option.map_eq_some_iff.mp he1
      cases he2
      have hs : starEach (e :: r) env = (false, eval e env) :: starEach r env := by
        cases e <;> first | rfl | (simp [notStar] at hst)
      rw [hs]
      show wpAny _ _ (spliced ((false, eval e env) :: backTo pos (starEach r env))) _ _ _
      refine Calls.spliced_cons (R.ok e κ ρ H p.1 p.2 h1 A ω W env σ s _ E room G fun w1 h1' tk1 σ1 wr1 v1 e1 => ?_)
      refine evs_ok R room h2 (G.step wr1 e1) fun ws h2' tk2 σ2 wr2 v2 e2 => ?_
      exact k _ h2' tk2 σ2 wr2 (.cons (v1.after wr1 e2) v2) (e1.trans e2)
    · cases he

theorem evBool_ok {rec : Rec} (R : RecOK z prog w hT σ₀ b n rec) (room : Room A n) {op : BoolOp} : ∀ {es : List Expr} {v : V} {H H' : Hp} {σ : List Addr} {s : Shared} {pos : Pos} {Q : Value → Shared → Prop}, evBool rec op κ ρ es H = some (v, H') →
    Good hT σ₀ κ ω ρ W env b σ H s.heap → KontT z hT b σ v H' Q s → (ht : z ≤ s.toks := by first | assumption | exact Tok1.pos _ | exact Nat.zero_le _) → wpAny (model prog w) A (boolOp pos op (evalEach es env)) Q E s
  | [], v, H, H', σ, s, pos, Q, he, G, k, ht => by simp [evBool] at he
  | [e], v, H, H', σ, s, pos, Q, he, G, k, ht => R.ok e κ ρ H v H' he A ω W env σ s Q E room G k ht
  | e :: e' :: r, v, H, H', σ, s, pos, Q, he, G, k, ht => by
    unfold evBool at he
    · obtain ⟨p, h1, he1⟩ := Option.bind_eq_some_iff.mp he
      obtain ⟨t, h2, he2⟩ := Option.bind_eq_some_iff.mp he1
      show wpAny _ _ (eval e env >>= fun v => standAt pos >>= fun _ => holding [v] (truthy v) >>= fun t => match op, t with
        | .And, false | .Or, true => pure v
        | _, _ => boolOp pos op (evalEach (e' :: r) env)) _ _ _
      refine wpAny_bind (R.ok e κ ρ H p.1 p.2 h1 A ω W env σ s _ E room G fun w1 h1' tk1 σ1 wr1 v1 e1 => ?_)
      refine wpAny_bind (wpAny_standAt (wpAny_bind (wpAny_holding (truthV_ok h2 v1 ?_))))
      split at he2
      · cases he2; exact wpAny_pure (k _ _ _ _ wr1 v1 e1)
      · cases he2; exact wpAny_pure (k _ _ _ _ wr1 v1 e1)
      · rename_i n1 n2
        have G' := G.step wr1 e1
        have ih := evBool_ok R room (pos := pos) he2 G' (k.after (tk := tk1) e1)
        cases op <;> cases t <;> first | exact (n1 rfl rfl).elim | exact (n2 rfl rfl).elim | exact ih

theorem evOpt_ok {rec : Rec} (R : RecOK z prog w hT σ₀ b n rec) (room : Room A n) {e : Option Expr} {v : V} {H' : Hp} {Q : Value → Shared → Prop} (he : evOpt rec κ ρ e H = some (v, H'))
    (G : Good hT σ₀ κ ω ρ W env b σ H s.heap) (k : KontT z hT b σ v H' Q s) (ht : z ≤ s.toks := by first | assumption | exact Tok1.pos _ | exact Nat.zero_le _) : wpAny (model prog w) A (evalPart e env) Q E s := by
  cases e with
  | none => simp [evOpt] at he; obtain ⟨rfl, rfl⟩ := he; exact wpAny_pure (k.same' G.wr .none ht)
  | some e => exact R.ok e κ ρ H v H' he A ω W env σ s Q E room G k ht
end
end Mine
end

section
set_option autoImplicit false
set_option maxRecDepth 100000
namespace Mine
open PySem PyProof.Rows
section
variable {z : Nat} {prog : Program} {w : World} {hT : Heap} {σ₀ : List Addr} {b n : Nat} {g : Glob} {A : Around} {E : Value → Shared → Prop} {s : Shared} {σ : List Addr} {H : Hp} {κ : Kap} {ω : Str → Bool} {ρ : Rho} {W : List Addr} {env : Env}

theorem release_ok {M : Model} {vs keep : List Value} {Q : Unit → Shared → Prop} (h : Q () s) : wpAny M A (release vs keep) Q E s := fun Γ p hΓ => by rw [Sem.wp_release]; exact h

theorem notSet_marks {op : CmpOp} {e : Expr} (h : notSet e = true) : behindInMarks op e = false := by
  cases e <;> first | rfl | (simp [notSet] at h)

theorem cmpChain_step {rec : Rec} {x : V} {ops : List CmpOp} {es : List Expr} {t : Bool} {H' : Hp} (h : cmpChain rec κ ρ x ops es H = some (t, H')) :
    ∃ op e p, ops = [op] ∧ es = [e] ∧ notSet e = true ∧ rec e κ ρ H = some p ∧ cmpop op x p.1 p.2 = some t ∧ H' = p.2 := by
  unfold cmpChain at h
  split at h
  · split at h
    · rename_i hn
      obtain ⟨p, h1, he1⟩ := Option.bind_eq_some_iff.mp h
      obtain ⟨c, h2, he2⟩ := Option.map_eq_some_iff.mp he1
      cases he2
      exact ⟨_, _, p, rfl, rfl, hn, h1, h2, rfl⟩
    · cases h
  · cases h

theorem marked_cons {op : CmpOp} {ops : List CmpOp} {e : Expr} {es : List Expr} {env : Env} (hn : notSet e = true) : markedEach (op :: ops) (e :: es) (evalEach (e :: es) env) = eval e env :: markedEach ops es (evalEach es env) := by
  cases ops with
  | nil =>
    cases es with
    | nil =>
      show [markedBehindIn op e (eval e env)] = _
      rw [markedBehindIn_of_false (notSet_marks hn)]
      rfl
    | cons e' es => rfl
  | cons op' ops => cases es <;> rfl

theorem cmpChain_ok {rec : Rec} (R : RecOK z prog w hT σ₀ b n rec) (room : Room A n) {ops : List CmpOp} {es : List Expr} {x : V} {wx : Value} {t : Bool} {H' : Hp} {pos : Pos} {Q : Value → Shared → Prop} (he : cmpChain rec κ ρ x ops es H = some (t, H'))
    (hx : VR σ s.heap x wx) (G : Good hT σ₀ κ ω ρ W env b σ H s.heap) (k : KontT z hT b σ (.bool t) H' Q s) (ht : z ≤ s.toks := by first | assumption | exact Tok1.pos _ | exact Nat.zero_le _) : wpAny (model prog w) A (compareChain pos wx ops (markedEach ops es (evalEach es env))) Q E s := by
  obtain ⟨op, e, p, rfl, rfl, hn, h1, h2, rfl⟩ := cmpChain_step he
  rw [marked_cons hn]
  show wpAny _ _ (do let rv ← holding [wx] (eval e env); standAt pos; operate [wx, rv] (compareOp op wx rv)) _ _ _
  refine wpAny_bind (wpAny_holding (R.ok e κ ρ H p.1 p.2 h1 A ω W env σ s _ E room G fun w1 h1' tk1 σ1 wr1 v1 e1 => ?_))
  exact wpAny_bind (wpAny_standAt (wpAny_operating (cmpop_ok h2 (hx.after G.wr e1) v1 wr1 room (k _ _ _ _ wr1 (.bool _) e1))))

theorem testChain_ok {rec : Rec} (R : RecOK z prog w hT σ₀ b n rec) (room : Room A n) {ops : List CmpOp} {es : List Expr} {x : V} {wx : Value} {t : Bool} {H' : Hp} {pos : Pos} {Q : Bool → Shared → Prop} (he : cmpChain rec κ ρ x ops es H = some (t, H'))
    (hx : VR σ s.heap x wx) (G : Good hT σ₀ κ ω ρ W env b σ H s.heap) (k : KontB z hT b σ t H' Q s) (ht : z ≤ s.toks := by first | assumption | exact Tok1.pos _ | exact Nat.zero_le _) : wpAny (model prog w) A (testChain pos wx ops (markedEach ops es (evalEach es env))) Q E s := by
  obtain ⟨op, e, p, rfl, rfl, hn, h1, h2, rfl⟩ := cmpChain_step he
  rw [marked_cons hn]
  show wpAny _ _ (do let rv ← holding [wx] (eval e env); standAt pos; let c ← operate [wx, rv] (compareOp op wx rv); holding [c] (truthy c)) _ _ _
  refine wpAny_bind (wpAny_holding (R.ok e κ ρ H p.1 p.2 h1 A ω W env σ s _ E room G fun w1 h1' tk1 σ1 wr1 v1 e1 => ?_))
  exact wpAny_bind (wpAny_standAt (wpAny_bind (wpAny_operating (cmpop_ok h2 (hx.after G.wr e1) v1 wr1 room (wpAny_holding (wpAny_truthy_bool (k _ _ _ wr1 e1)))))))

/-! calls -/
theorem evs_plain {rec : Rec} {env : Env} : ∀ {es : List Expr} {vs : List V} {H H' : Hp} {pos : Pos}, evs rec κ ρ es H = some (vs, H') → (backTo pos (starEach es env)).any (·.1) = false
  | [], _, _, _, _, _ => rfl
  | e :: r, vs, H, H', pos, he => by
    unfold evs at he
    split at he
    · rename_i hst
      obtain ⟨p, h1, he1⟩ := Option.bind_eq_some_iff.mp he
      obtain ⟨q, h2, he2⟩ := Option.map_eq_some_iff.mp he1
      have hs : starEach (e :: r) env = (false, eval e env) :: starEach r env := by
        cases e <;> first | rfl | (simp [notStar] at hst)
      rw [hs]
      show (false || (backTo pos (starEach r env)).any (·.1)) = false
      rw [evs_plain h2]; rfl
    · cases he

theorem args_ok {rec : Rec} (R : RecOK z prog w hT σ₀ b n rec) (room : Room A n) {es : List Expr} {vs : List V} {H' : Hp} {pos : Pos} {fv : Value} {Q : Args → Shared → Prop} (he : evs rec κ ρ es H = some (vs, H'))
    (G : Good hT σ₀ κ ω ρ W env b σ H s.heap) (k : KontL z hT b σ vs H' (fun ws s' => Q ⟨ws, []⟩ s') s) (ht : z ≤ s.toks := by first | assumption | exact Tok1.pos _ | exact Nat.zero_le _) : wpAny (model prog w) A (evalArgs fv true (backTo pos (starEach es env)) []) Q E s := by
  cases es with
  | nil =>
    simp [evs] at he
    obtain ⟨rfl, rfl⟩ := he
    exact PySem.evalArgs_none (k [] s.heap ⟨s.toks, ht⟩ σ G.wr .nil (Ext.refl ..))
  | cons e r =>
    have h := evs_ok (E := E) (pos := pos) R room he G k
    have hst : notStar e = true := by
      unfold evs at he
      split at he
      · rename_i q; exact q
      · cases he
    have hs : starEach (e :: r) env = (false, eval e env) :: starEach r env := by
      cases e <;> first | rfl | (simp [notStar] at hst)
    rw [hs] at h ⊢
    exact Calls.evalArgs_plain h

noncomputable def isBT : Value → Bool
  | .builtin _ => true
  | .type _ => true
  | _ => false
theorem ite_opt {c : Prop} [Decidable c] {a b : Option Value} {v : Value} (h : (if c then a else b) = some v) (ha : ∀ v, a = some v → isBT v = true) (hb : ∀ v, b = some v → isBT v = true) : isBT v = true := by
  split at h
  · exact ha v h
  · exact hb v h
theorem bval_bt {f : Str} {fv : Value} (h : bval f = some fv) : isBT fv = true := by
  unfold bval at h
  refine ite_opt h (fun v e => by cases e; rfl) fun v h => ?_
  refine ite_opt h (fun v e => by cases e; rfl) fun v h => ?_
  refine ite_opt h (fun v e => by cases e; rfl) fun v h => ?_
  refine ite_opt h (fun v e => by cases e; rfl) fun v h => ?_
  refine ite_opt h (fun v e => by cases e; rfl) fun v h => ?_
  refine ite_opt h (fun v e => by cases e; rfl) fun v h => ?_
  refine ite_opt h (fun v e => by cases e; rfl) fun v h => ?_
  refine ite_opt h (fun v e => by cases e; rfl) fun v h => ?_
  refine ite_opt h (fun v e => by cases e; rfl) fun v h => ?_
  refine ite_opt h (fun v e => by cases e; rfl) fun v h => ?_
  refine ite_opt h (fun v e => by cases e; rfl) fun v h => ?_
  refine ite_opt h (fun v e => by cases e; rfl) fun v h => by cases h
theorem bval_kind {f : Str} {fv : Value} (h : bval f = some fv) : (∃ id, fv = .builtin id) ∨ ∃ T, fv = .type T := by
  have := bval_bt h
  cases fv <;> simp [isBT] at this
  · exact .inr ⟨_, rfl⟩
  · exact .inl ⟨_, rfl⟩

theorem callVal_ok {rec : Rec} (R : RecOK z prog w hT σ₀ b n rec) (room : Room A n) {es : List Expr} {vs : List V} {H' : Hp} {pos : Pos} {fv : Value} {Q : Value → Shared → Prop} (hf : (∃ id, fv = .builtin id) ∨ ∃ T, fv = .type T) (he : evs rec κ ρ es H = some (vs, H'))
    (G : Good hT σ₀ κ ω ρ W env b σ H s.heap) (k : KontL z hT b σ vs H' (fun ws s' => wpAny (model prog w) A (call fv ws) Q E s') s) (ht : z ≤ s.toks := by first | assumption | exact Tok1.pos _ | exact Nat.zero_le _) : wpAny (model prog w) A (callWith pos fv [] (backTo pos (starEach es env)) []) Q E s := by
  rcases hf with ⟨id, rfl⟩ | ⟨T, rfl⟩
  · exact Calls.callWith_builtin (evs_plain he) (args_ok R room he G k)
  · exact PyProof.Rows.callWith_type (evs_plain he) (args_ok R room he G k)

theorem base_ok {o : Expr} {attr : Str} {whole : Sem Value} (h : okBase o = true) : attributeBase o attr env whole = whole := by
  unfold attributeBase
  split
  · simp [okBase] at h
  · rfl

theorem method_ok {rec : Rec} (R : RecOK z prog w hT σ₀ b n rec) (room : Room A n) {o : Expr} {m : Str} {ap pos : Pos} {es : List Expr} {p : V × Hp} {q : List V × Hp} {v : V} {H' : Hp} {Q : Value → Shared → Prop}
    (h1 : okBase o = true) (h2 : ap.endLine = pos.line) (h3 : es.length < 30) (ho : rec o κ ρ H = some p) (he : evs rec κ ρ es p.2 = some q) (hc : callM b m p.1 q.1 q.2 = some (v, H'))
    (G : Good hT σ₀ κ ω ρ W env b σ H s.heap) (k : KontT z hT b σ v H' Q s) (ht : z ≤ s.toks := by first | assumption | exact Tok1.pos _ | exact Nat.zero_le _) : wpAny (model prog w) A (eval (.Call (.Attribute o m ap) es [] pos) env) Q E s := by
  show wpAny _ _ (do
    let ov ← attributeBase o m env (eval o env)
    standAt ap.atName
    methodCall o m ap pos env ov (es.length + 0) (backTo pos (starEach es env)) []) _ _ _
  rw [base_ok h1]
  refine wpAny_bind (R.ok o κ ρ H p.1 p.2 ho A ω W env σ s _ E room G fun w1 h1' tk1 σ1 wr1 v1 e1 => wpAny_bind (wpAny_standAt ?_))
  have G1 := G.step wr1 e1
  have hform : methodCallForm (es.length + 0) (backTo pos (starEach es env)) [] = true := by
    have hp := evs_plain (env := env) (pos := pos) he
    unfold methodCallForm
    simp only [List.all_nil, List.isEmpty_nil, if_true, Nat.add_zero, Bool.and_true, Bool.and_eq_true, decide_eq_true_eq]
    refine ⟨?_, h3⟩
    rw [List.all_eq_not_any_not]
    simpa using hp
  unfold methodCall
  rw [hform]
  show wpAny _ _ (holding [w1] (getMethod w1 m (do return (← importBound o env).getD true)) >>= fun fx => methodCallPos true o env ap pos >>= fun cp => callWith cp fx.1 fx.2 (backTo pos (starEach es env)) []) _ _ _
  have hpos : methodCallPos true o env ap pos = pure pos := by
    unfold methodCallPos
    rw [if_pos (by simp [h2])]
  rw [hpos]
  obtain ⟨id, hid⟩ := callM_id hc
  refine wpAny_bind (wpAny_holding (getM_ok hid v1 wr1 ?_))
  refine wpAny_bind (wpAny_pure (Calls.callWith_builtin (evs_plain he) (args_ok R room he G1 fun ws h2' tk2 σ2 wr2 v2 e2 => ?_)))
  have G2 := G1.step wr2 e2
  exact lift (Tok1.pos _) (callM_ok hc hid (v1.after wr1 e2) wr2 G2.above v2 ((k.after (tk := tk1) e1).after (tk := tk2) e2).toK)

theorem lit_eq {e : Expr} {y : Str} (h : litStr e = some y) : ∃ a c, e = .Constant (.str y) a c := by
  unfold litStr at h
  split at h
  · split at h
    · cases h; exact ⟨_, _, rfl⟩
    · cases h
  · cases h

theorem replace_ok {rec : Rec} (R : RecOK z prog w hT σ₀ b n rec) (room : Room A n) {o : Expr} {m : Str} {ap pos : Pos} {es : List Expr} {p : V × Hp} {v : V} {H' : Hp} {Q : Value → Shared → Prop}
    (hz : z = 1) (h1 : okBase o = true) (h2 : ap.endLine = pos.line) (hm : m = "replace") (ho : rec o κ ρ H = some p) (hc : repl p.1 es p.2 = some (v, H'))
    (G : Good hT σ₀ κ ω ρ W env b σ H s.heap) (k : KontT z hT b σ v H' Q s) (ht : z ≤ s.toks := by first | assumption | exact Tok1.pos _ | exact Nat.zero_le _) : wpAny (model prog w) A (eval (.Call (.Attribute o m ap) es [] pos) env) Q E s := by
  subst hm
  show wpAny _ _ (do
    let ov ← attributeBase o "replace" env (eval o env)
    standAt ap.atName
    methodCall o "replace" ap pos env ov (es.length + 0) (backTo pos (starEach es env)) []) _ _ _
  rw [base_ok h1]
  refine wpAny_bind (R.ok o κ ρ H p.1 p.2 ho A ω W env σ s _ E room G fun w1 h1' tk1 σ1 wr1 v1 e1 => wpAny_bind (wpAny_standAt ?_))
  obtain ⟨pv, pH⟩ := p
  unfold repl at hc
  split at hc
  · rename_i e f
    obtain ⟨y, hy, hc1⟩ := Option.bind_eq_some_iff.mp hc
    obtain ⟨zz, hzz, hc2⟩ := Option.bind_eq_some_iff.mp hc1
    obtain ⟨a1, c1, rfl⟩ := lit_eq hy
    obtain ⟨a2, c2, rfl⟩ := lit_eq hzz
    unfold replV at hc2
    split at hc2
    · rename_i x hp
      simp only at hp
      subst hp
      split at hc2
      · rename_i hl
        cases hc2
        cases v1 with | str _ t hx =>
        have hform : methodCallForm ([Expr.Constant (.str y) a1 c1, Expr.Constant (.str zz) a2 c2].length + 0) (backTo pos (starEach [Expr.Constant (.str y) a1 c1, Expr.Constant (.str zz) a2 c2] env)) [] = true := rfl
        unfold methodCall
        rw [hform]
        show wpAny _ _ (holding [.str x t] (getMethod (.str x t) "replace" (do return (← importBound o env).getD true)) >>= fun fx => methodCallPos true o env ap pos >>= fun cp => callWith cp fx.1 fx.2 (backTo pos (starEach [Expr.Constant (.str y) a1 c1, Expr.Constant (.str zz) a2 c2] env)) []) _ _ _
        have hpos : methodCallPos true o env ap pos = pure pos := by
          unfold methodCallPos
          rw [if_pos (by simp [h2])]
        rw [hpos]
        refine wpAny_bind (wpAny_holding (PySem.GM.replace ?_))
        refine wpAny_bind (wpAny_pure (Calls.callWith_builtin rfl (Calls.evalArgs_plain ?_)))
        show wpAny _ _ (spliced ((false, constValue env (.str y)) :: (false, constValue env (.str zz)) :: [])) _ _ _
        refine Calls.spliced_cons (wpAny_mkText (Calls.spliced_cons (wpAny_mkText (Calls.spliced_nil ?_))))
        have hp1 := tk1.pos
        refine lift (z := z) (by show z ≤ tk1.n + 1 + 1; omega) (SC.replaceW (by show tk1.n ≠ 0; omega) (by show tk1.n + 1 ≠ 0; omega) (by show tk1.n ≠ tk1.n + 1; omega) hl.2.2.1 (by omega) hl.2.1 fun t' kk hkk => ?_)
        exact k _ h1' ⟨kk, hkk⟩ σ1 wr1 (.str _ _ (Nat.le_trans hl.2.2.2 (by rw [sizeLine_val]; decide))) e1
      · cases hc2
    · cases hc2
  · cases hc
end
end Mine
end

section
set_option autoImplicit false
set_option maxRecDepth 100000
namespace Mine
open PySem PyProof.Rows

mutual
theorem V.beq_eq : ∀ {a b : V}, V.beq a b = true → a = b
  | .none, b, h => by cases b <;> simp [V.beq] at h; rfl
  | .bool x, b, h => by cases b <;> simp [V.beq] at h; rw [h]
  | .int x, b, h => by cases b <;> simp [V.beq] at h; rw [h]
  | .str x, b, h => by cases b <;> simp [V.beq] at h; rw [h]
  | .type x, b, h => by cases b <;> simp [V.beq] at h; rw [h]
  | .ref x, b, h => by cases b <;> simp [V.beq] at h; rw [h]
  | .tup x, b, h => by
    cases b <;> simp [V.beq] at h
    rw [V.beqs_eq h]
theorem V.beqs_eq : ∀ {a b : List V}, V.beqs a b = true → a = b
  | [], b, h => by cases b <;> simp [V.beqs] at h; rfl
  | x :: r, b, h => by
    cases b with
    | nil => simp [V.beqs] at h
    | cons y q =>
      simp [V.beqs] at h
      rw [V.beq_eq h.1, V.beqs_eq h.2]
end

theorem chk_eq {a : Nat} {all : List V} {H : Hp} (h : chk (some a) all H = true) : H[a]? = some all := by
  unfold chk at h
  split at h
  · rename_i q; cases q
  · rename_i q
    cases q
    split at h
    · rename_i xs e; rw [e, V.beqs_eq h]
    · cases h

noncomputable def chars (x : Str) : List V := x.cps.toList.map fun c => .str ⟨#[c]⟩
noncomputable def intsV (lo : Int) (k : Nat) : List V := (List.range k).map fun i : Nat => .int (lo + i)
theorem intsV_succ (lo : Int) (k : Nat) : intsV lo (k + 1) = .int lo :: intsV (lo + 1) k := by
  unfold intsV
  rw [List.range_succ_eq_map, List.map_cons, List.map_map]
  congr 1
  · simp
  · apply List.map_congr_left
    intro i _
    simp only [Function.comp]
    congr 1
    have : ((Nat.succ i : Nat) : Int) = (i : Int) + 1 := by omega
    rw [this]; omega

/-- an iterator at it that still has rest to give -/
inductive It (σ : List Addr) (h : Heap) (it : Addr) : Option Nat → List V → List V → Prop
  | list {a l all i} : σ[a]? = some l → h.IsListIter it l i → It σ h it (some a) all (all.drop i)
  | tuple {r arr all i} : h.IsTuple r arr → VRs σ h all arr.toList → h.IsTupleIter it r i → It σ h it none all (all.drop i)
  | str {T x t all i} : (T = "str_ascii_iterator" ∨ T = "str_iterator") → h.IsStrIter it T x t i → It σ h it none all ((chars x).drop i)
  | range {lo all} {k : Nat} : IsRangeIter h it lo k 1 → It σ h it none all (intsV lo k)

theorem It.obj {σ : List Addr} {h : Heap} {it : Addr} {c : Option Nat} {all rest : List V} (x : It σ h it c all rest) : ∃ o, h.get? it = some o ∧ (∀ arr n, o.data ≠ .seq arr n) := by
  cases x with
  | list _ q => obtain ⟨o, a, b, c⟩ := q; exact ⟨o, a, (by rw [c]; intro _ _ e; cases e)⟩
  | tuple _ _ q => obtain ⟨o, a, b, c⟩ := q; exact ⟨o, a, (by rw [c]; intro _ _ e; cases e)⟩
  | str hT q => obtain ⟨o, a, b, c⟩ := q; exact ⟨o, a, (by rw [c]; intro _ _ e; cases e)⟩
  | range q => exact ⟨_, q, (by intro _ _ e; cases e)⟩

theorem It.keep {σ σ' : List Addr} {h h' : Heap} {it : Addr} {c : Option Nat} {all rest : List V} (x : It σ h it c all rest) (p : σ <+: σ') (tu : Tups h h') (k : ∀ o, h.get? it = some o → h'.get? it = some o) : It σ' h' it c all rest := by
  cases x with
  | list a q => obtain ⟨o, e, r⟩ := q; exact .list (getElem?_prefix p a) ⟨o, k o e, r⟩
  | tuple a v q =>
    obtain ⟨o, e, r⟩ := q
    obtain ⟨o₁, e₁, c₁, r₁⟩ := a
    exact .tuple ⟨o₁, tu _ _ e₁ c₁ ⟨_, r₁⟩, c₁, r₁⟩ (v.mono p tu) ⟨o, k o e, r⟩
  | str ht q => obtain ⟨o, e, r⟩ := q; exact .str ht ⟨o, k o e, r⟩
  | range q => exact .range (k _ q)

theorem drop_cons {α : Type} {xs : List α} {i : Nat} {v : α} {rest : List α} (h : xs.drop i = v :: rest) : xs[i]? = some v ∧ rest = xs.drop (i + 1) := by
  constructor
  · have := List.getElem?_drop (xs := xs) (i := i) (j := 0)
    rw [h] at this
    simpa using this.symm
  · rw [← List.drop_drop, h]; rfl
theorem drop_nil {α : Type} {xs : List α} {i : Nat} (h : xs.drop i = []) : xs[i]? = none := by
  rw [List.drop_eq_nil_iff] at h
  exact List.getElem?_eq_none h

theorem tups_same {h h' : Heap} {it : Addr} {o : Obj} (hs : Heap.SameBut it h h') (e : h.get? it = some o) (hd : ∀ arr n, o.data ≠ .seq arr n) : Tups h h' := fun a o' e' _ d' => by
  refine (hs.2 a fun q => ?_).trans e'
  subst q
  rw [e] at e'; cases e'
  obtain ⟨arr, n, d⟩ := d'
  exact hd arr n d

section
variable {prog : Program} {w : World} {hT : Heap} {A : Around} {E : Value → Shared → Prop} {s : Shared} {σ : List Addr} {H : Hp}

theorem next_item {it : Addr} {c : Option Nat} {all rest : List V} {v : V} {Q : Option Value → Shared → Prop} (x : It σ s.heap it c all (v :: rest)) (hc : chk c all H = true) (wr : WR hT σ H s.heap)
    (k : ∀ wv h' tk, VR σ h' v wv → It σ h' it c all rest → Heap.SameBut it s.heap h' → Q (some wv) { s with heap := h', toks := tk }) : wpAny (model prog w) A (pyNext (.ref it)) Q E s := by
  obtain ⟨o, eo, hd⟩ := x.obj
  generalize hr : v :: rest = r at x
  cases x with
  | list ha q =>
    obtain ⟨e1, rfl⟩ := drop_cons hr.symm
    obtain ⟨arr, p, vx, _⟩ := wr.obj _ _ _ (chk_eq hc) ha
    obtain ⟨wv, e2, e3⟩ := vx.get e1
    refine wpAny_pyNext_list_item q p.isList (by rw [← Array.getElem?_toList]; exact e2) fun h' q' hs => ?_
    have tu := tups_same hs eo hd
    exact k wv h' s.toks (e3.mono (prefix_same _) tu) (.list ha q') hs
  | tuple ht vx q =>
    obtain ⟨e1, rfl⟩ := drop_cons hr.symm
    obtain ⟨wv, e2, e3⟩ := vx.get e1
    refine wpAny_pyNext_tuple_item q ht (by rw [← Array.getElem?_toList]; exact e2) fun h' q' hs => ?_
    have tu := tups_same hs eo hd
    obtain ⟨o₁, e₁, c₁, r₁⟩ := ht
    exact k wv h' s.toks (e3.mono (prefix_same _) tu) (.tuple ⟨o₁, tu _ _ e₁ c₁ ⟨_, r₁⟩, c₁, r₁⟩ (vx.mono (prefix_same _) tu) q') hs
  | str ht q =>
    obtain ⟨e1, rfl⟩ := drop_cons hr.symm
    unfold chars at e1
    rw [List.getElem?_map] at e1
    obtain ⟨ch, e2, e3⟩ := Option.map_eq_some_iff.mp e1
    rw [Array.getElem?_toList] at e2
    subst e3
    rcases ht with rfl | rfl
    · exact wpAny_pyNext_ascii_item q e2 fun h' q' hs => k _ h' _ (.str _ _ (by show (1 : Nat) ≤ _; decide)) (.str (.inl rfl) q') hs
    · exact wpAny_pyNext_wide_item q e2 fun h' q' hs => k _ h' _ (.str _ _ (by show (1 : Nat) ≤ _; decide)) (.str (.inr rfl) q') hs
  | range q =>
    rename_i lo kk
    cases kk with
    | zero => simp [intsV] at hr
    | succ kk =>
      rw [intsV_succ] at hr
      injection hr with h1 h2
      subst h1 h2
      refine wpAny_pyNext_range_item q (by omega) fun h' q' hs => k _ h' _ (.int _ _) (.range ?_) hs
      have e : ((kk + 1 : Nat) : Int) - 1 = (kk : Int) := by omega
      rw [e] at q'
      exact q'

theorem next_end {it : Addr} {c : Option Nat} {all : List V} {Q : Option Value → Shared → Prop} (hh : A.handled = none) (x : It σ s.heap it c all []) (hc : chk c all H = true) (wr : WR hT σ H s.heap)
    (k : ∀ h', Heap.ExtBut it s.heap h' → Q none { s with heap := h' }) : wpAny (model prog w) A (pyNext (.ref it)) Q E s := by
  generalize hr : ([] : List V) = r at x
  cases x with
  | list ha q =>
    obtain ⟨arr, p, vx, _⟩ := wr.obj _ _ _ (chk_eq hc) ha
    have e1 := drop_nil hr.symm
    refine wpAny_pyNext_list_end hh q p.isList ?_ k
    rw [← Array.getElem?_toList]
    have := vx.length
    rw [List.getElem?_eq_none_iff] at e1 ⊢
    omega
  | tuple ht vx q =>
    have e1 := drop_nil hr.symm
    refine wpAny_pyNext_tuple_end hh q ht ?_ k
    rw [← Array.getElem?_toList]
    have := vx.length
    rw [List.getElem?_eq_none_iff] at e1 ⊢
    omega
  | str ht q =>
    have e1 := drop_nil hr.symm
    unfold chars at e1
    rw [List.getElem?_map, Option.map_eq_none_iff, Array.getElem?_toList] at e1
    rcases ht with rfl | rfl
    · exact wpAny_pyNext_ascii_end hh q e1 k
    · exact wpAny_pyNext_wide_end hh q e1 k
  | range q =>
    rename_i lo kk
    cases kk with
    | zero => exact wpAny_pyNext_range_end hh q (by omega) k
    | succ kk => rw [intsV_succ] at hr; cases hr

theorem iter_self {it : Addr} {c : Option Nat} {all rest : List V} {Q : Value → Shared → Prop} (x : It σ s.heap it c all rest) (k : Q (.ref it) s) : wpAny (model prog w) A (pyIter (.ref it)) Q E s := by
  cases x with
  | list ha q => exact wpAny_pyIter_listiter q k
  | tuple ht vx q => exact wpAny_pyIter_tupleiter q k
  | str ht q =>
    rcases ht with rfl | rfl
    · exact wpAny_pyIter_striter_ascii q k
    · exact wpAny_pyIter_striter_wide q k
  | range q => exact wpAny_pyIter_rangeiter q k
end
end Mine
end

section
set_option autoImplicit false
set_option maxRecDepth 100000
namespace Mine
open PySem PyProof.Rows

inductive FR (σ : List Addr) (h : Heap) : Fl → Flow → Prop
  | next : FR σ h .next .next
  | brk : FR σ h .brk .brk
  | cont : FR σ h .cont .cont
  | ret {v wv} : VR σ h v wv → FR σ h (.ret v) (.ret wv)

section
variable (z : Nat) (prog : Program) (w : World) (hT : Heap) (σ₀ : List Addr) (b n : Nat) (κ : Kap) (ω : Str → Bool)
/-- what a statement hands on -/
noncomputable def KontS (W : List Addr) (env : Env) (σ : List Addr) (fl : Fl) (ρ' : Rho) (H' : Hp) (Q : Flow → Shared → Prop) (s : Shared) : Prop :=
  ∀ fw h' (tk : Tok1 z) σ', Good hT σ₀ κ ω ρ' W env b σ' H' h' → FR σ' h' fl fw → Ext W b σ s.heap σ' h' → Q fw { s with heap := h', toks := tk.n }
structure RecSOK (recS : RecS) : Prop where
  ok : ∀ st ρ H fl ρ' H', recS st ρ H = some (fl, ρ', H') → ∀ (A : Around) (W : List Addr) (env : Env) (σ : List Addr) (s : Shared) (Q : Flow → Shared → Prop) (E : Value → Shared → Prop),
  Room A n → Good hT σ₀ κ ω ρ W env b σ H s.heap → KontS z hT σ₀ b κ ω W env σ fl ρ' H' Q s → (ht : z ≤ s.toks := by first | assumption | exact Tok1.pos _ | exact Nat.zero_le _) → wpAny (model prog w) A (exec st env) Q E s
end

section
variable {z : Nat} {prog : Program} {w : World} {hT : Heap} {σ₀ : List Addr} {b n : Nat} {g : Glob} {A : Around} {E : Value → Shared → Prop} {s : Shared} {σ : List Addr} {H : Hp} {κ : Kap} {ω : Str → Bool} {ρ : Rho} {W : List Addr} {env : Env}

theorem KontS.after {σ' : List Addr} {fl : Fl} {ρ' : Rho} {H' : Hp} {Q : Flow → Shared → Prop} {h' : Heap} {tk : Tok1 z} (k : KontS z hT σ₀ b κ ω W env σ fl ρ' H' Q s) (e : Ext W b σ s.heap σ' h') : KontS z hT σ₀ b κ ω W env σ' fl ρ' H' Q { s with heap := h', toks := tk.n } :=
  fun fw h'' tk' σ'' G f ex => k fw h'' tk' σ'' G f (e.trans ex)

theorem Ext.nil {σ' : List Addr} {h h' : Heap} (x : Ext [] b σ h σ' h') : Ext W b σ h σ' h' := x.weaken fun _ _ _ q => by cases q

/-- one object of the frame's own (its locals, a cell) is changed -/
theorem WR.other {h h' : Heap} {a : Addr} {o : Obj} (x : WR hT σ H h) (hs : Heap.SameBut a h h') (ho : h.get? a = some o) (hd : ∀ arr n, o.data ≠ .seq arr n) (ht : hT.get? a = none) : WR hT σ H h' := by
  have tu : Tups h h' := tups_same hs ho hd
  refine ⟨x.len, fun c ys q h1 h2 => ?_, x.nodup, fun d o' e => ?_⟩
  · obtain ⟨arr, p, v, l⟩ := x.obj c ys q h1 h2
    refine ⟨arr, p.at fun o' e => (hs.2 q fun e' => ?_).trans e, v.mono (prefix_same _) tu, l⟩
    subst e'
    exact x.not_of_data ho hd (List.mem_of_getElem? h2)
  · refine (hs.2 d fun e' => ?_).trans (x.top d o' e)
    subst e'
    rw [ht] at e; cases e

theorem upd_self (ρ : Rho) (x : Str) (v : V) : upd ρ x v x = some v := by simp [upd]
theorem upd_other (ρ : Rho) {x y : Str} (v : V) (h : y ≠ x) : upd ρ x v y = ρ y := by simp [upd, h]

/-- a name's store -/
theorem store_ok {x : Str} {v : V} {wv : Value} {Q : Unit → Shared → Prop} (hω : ω x = true) (G : Good hT σ₀ κ ω ρ W env b σ H s.heap) (hv : VR σ s.heap v wv)
    (k : ∀ h' tk, Good hT σ₀ κ ω (upd ρ x v) W env b σ H h' → Ext W b σ s.heap σ h' → Q () { s with heap := h', toks := tk }) : wpAny (model prog w) A (storeName env x wv) Q E s := by
  obtain ⟨m, hm, hmv⟩ := G.env.ns
  rcases G.env.own x hω with hk | ⟨hk, hcw⟩
  · refine wpAny_storeName_local (by rw [G.env.kind]; exact hk) hm (fun h' hm' hs => ?_) (by rw [G.env.fn]; rfl)
    obtain ⟨o, es, ep, ho, hd, _⟩ := id hm
    obtain ⟨o', es', ep', ho', hd', _⟩ := id hm'
    have hds : ∀ arr n, o.data ≠ .seq arr n := by rw [hd]; intro _ _ e; cases e
    have tu := tups_same hs ho hds
    have wr' := G.wr.other hs ho hds (G.wabove _ G.env.loc)
    refine k h' _ ⟨wr', ⟨G.env.fn, G.env.kind, G.env.glob, G.env.blt, ⟨_, hm', fun y u hy he => ?_⟩, fun y hy => ?_, G.env.inj, G.env.own, G.env.loc, fun a ha => ?_⟩, G.base, G.above, G.wabove, G.tab⟩
      ⟨⟨[], by simp, by simp⟩, there_same hs ho', fun a oa e hw _ => (hs.2 a fun q => hw (by rw [q]; exact G.env.loc)).trans e⟩
    · by_cases q : y = x
      · subst q
        rw [upd_self] at he; cases he
        exact ⟨wv, by simp, hv.mono (prefix_same _) tu⟩
      · rw [upd_other _ _ q] at he
        obtain ⟨wu, e1, e2⟩ := hmv y u hy he
        exact ⟨wu, by simp [q, e1], e2.mono (prefix_same _) tu⟩
    · obtain ⟨c, v₀, e1, ⟨oc, e2, e3⟩, e4⟩ := G.env.cell y hy
      have hyx : y ≠ x := by rintro rfl; rw [hk] at hy; rcases hy with q | q <;> cases q
      refine ⟨c, v₀, e1, ⟨oc, (hs.2 c fun q => ?_).trans e2, e3⟩, fun u he => ?_⟩
      · subst q
        rw [ho] at e2; cases e2
        rw [hd] at e3; cases e3
      · rw [upd_other _ _ hyx] at he
        obtain ⟨wu, e5, e6⟩ := e4 u he
        exact ⟨wu, e5, e6.mono (prefix_same _) tu⟩
    · by_cases q : a = env.locals
      · subst q; exact ⟨o', ho', by rw [hd']; intro _ _ e; cases e⟩
      · obtain ⟨oa, e1, e2⟩ := G.env.wobj a ha
        exact ⟨oa, (hs.2 a q).trans e1, e2⟩
  · obtain ⟨c, v₀, e1, hc, e4⟩ := G.env.cell x (.inl hk)
    have hcW := hcw c e1
    refine wpAny_storeName_cell G.env.fn (by rw [G.env.kind]; exact hk) e1 hc fun h' hc' hs => ?_
    obtain ⟨o, ho, hd⟩ := id hc
    obtain ⟨o', ho', hd'⟩ := id hc'
    have hds : ∀ arr n, o.data ≠ .seq arr n := by rw [hd]; intro _ _ e; cases e
    have tu := tups_same hs ho hds
    have wr' := G.wr.other hs ho hds (G.wabove _ hcW)
    obtain ⟨oL, es, ep, hoL, hdL, rL⟩ := id hm
    have hLc : env.locals ≠ c := by
      intro q; rw [q, ho] at hoL; cases hoL; rw [hd] at hdL; cases hdL
    refine k h' s.toks ⟨wr', ⟨G.env.fn, G.env.kind, G.env.glob, G.env.blt, ⟨m, hm.sameBut hs hLc, fun y u hy he => ?_⟩, fun y hy => ?_, G.env.inj, G.env.own, G.env.loc, fun a ha => ?_⟩, G.base, G.above, G.wabove, G.tab⟩
      ⟨⟨[], by simp, by simp⟩, there_same hs ho', fun a oa e hw _ => (hs.2 a fun q => hw (by rw [q]; exact hcW)).trans e⟩
    · have hyx : y ≠ x := by rintro rfl; rw [hk] at hy; cases hy
      rw [upd_other _ _ hyx] at he
      obtain ⟨wu, e5, e6⟩ := hmv y u hy he
      exact ⟨wu, e5, e6.mono (prefix_same _) tu⟩
    · by_cases q : y = x
      · subst q
        refine ⟨c, _, e1, hc', fun u he => ?_⟩
        rw [upd_self] at he; cases he
        exact ⟨wv, rfl, hv.mono (prefix_same _) tu⟩
      · obtain ⟨d, u₀, f1, f2, f4⟩ := G.env.cell y hy
        refine ⟨d, u₀, f1, f2.sameBut hs fun e => q (G.env.inj y x d f1 (by rw [e]; exact e1)), fun u he => ?_⟩
        rw [upd_other _ _ q] at he
        obtain ⟨wu, e5, e6⟩ := f4 u he
        exact ⟨wu, e5, e6.mono (prefix_same _) tu⟩
    · by_cases q : a = c
      · subst q; exact ⟨o', ho', by rw [hd']; intro _ _ e; cases e⟩
      · obtain ⟨oa, f1, f2⟩ := G.env.wobj a ha
        exact ⟨oa, (hs.2 a q).trans f1, f2⟩
end
end Mine
end

section
set_option autoImplicit false
set_option maxRecDepth 100000
namespace Mine
open PySem PyProof.Rows
section
variable {z : Nat} {prog : Program} {w : World} {hT : Heap} {σ₀ : List Addr} {b n : Nat} {g : Glob} {A : Around} {E : Value → Shared → Prop} {s : Shared} {σ : List Addr} {H : Hp} {κ : Kap} {ω : Str → Bool} {ρ : Rho} {W : List Addr} {env : Env}

/-- a name's, or a tuple of names', binding -/
theorem bindNames_ok : ∀ {ts : List Expr} {vs : List V} {ws : List Value} {ρ ρ' : Rho} {s : Shared} {Q : Unit → Shared → Prop}, bindNames ω ts vs ρ = some ρ' → Good hT σ₀ κ ω ρ W env b σ H s.heap → VRs σ s.heap vs ws →
    (∀ h' tk, Good hT σ₀ κ ω ρ' W env b σ H h' → Ext W b σ s.heap σ h' → Q () { s with heap := h', toks := tk }) → wpAny (model prog w) A (assignInOrder ((assignEach ts env).map (·.2)) ws) Q E s
  | [], vs, ws, ρ, ρ', s, Q, he, G, hv, k => by
    cases vs with
    | nil => simp [bindNames] at he; subst he; exact wpAny_pure (k s.heap s.toks G (Ext.refl ..))
    | cons _ _ => simp [bindNames] at he
  | t :: ts, vs, ws, ρ, ρ', s, Q, he, G, hv, k => by
    unfold bindNames at he
    split at he
    · cases ‹t :: ts = []›
    · rename_i x pos r v vs' heq
      injection heq with h1 h2
      subst h1 h2
      split at he
      · rename_i hω
        cases hv with | cons hx hr =>
        rename_i wx wr'
        show wpAny _ _ (holding wr' (assign (.Name x pos) env wx) >>= fun _ => assignInOrder ((assignEach ts env).map (·.2)) wr') _ _ _
        refine wpAny_bind (wpAny_holding (wpAny_assign_Name (store_ok hω G hx fun h' tk G' e' => ?_)))
        have tu := e'.tupsW G.wr G.env.wobj
        exact bindNames_ok he G' (hr.mono (prefix_same _) tu) fun h'' tk' G'' e'' => k h'' tk' G'' (e'.trans e'')
      · cases he
    · cases he

theorem starEach_none : ∀ {ts : List Expr} {vs : List V} {ρ ρ' : Rho}, bindNames ω ts vs ρ = some ρ' → (assignEach ts env).findIdx? (·.1) = none ∧ (assignEach ts env).length = vs.length
  | [], vs, ρ, ρ', he => by
    cases vs with
    | nil => exact ⟨rfl, rfl⟩
    | cons _ _ => simp [bindNames] at he
  | t :: ts, vs, ρ, ρ', he => by
    unfold bindNames at he
    split at he
    · cases ‹t :: ts = []›
    · rename_i x pos r v vs' heq
      injection heq with h1 h2
      subst h1 h2
      split at he
      · obtain ⟨a, c⟩ := starEach_none he
        have e : assignEach (.Name x pos :: ts) env = (false, assign (.Name x pos) env) :: assignEach ts env := rfl
        rw [e]
        refine ⟨?_, by simp [c]⟩
        rw [List.findIdx?_cons]
        simp [a]
      · cases he
    · cases he

theorem assign_ok {t : Expr} {v : V} {wv : Value} {ρ' : Rho} {Q : Unit → Shared → Prop} (he : bindT ω t v ρ = some ρ') (hh : A.handled = none) (G : Good hT σ₀ κ ω ρ W env b σ H s.heap) (hv : VR σ s.heap v wv)
    (k : ∀ h' tk, Good hT σ₀ κ ω ρ' W env b σ H h' → Ext W b σ s.heap σ h' → Q () { s with heap := h', toks := tk }) : wpAny (model prog w) A (assign t env wv) Q E s := by
  unfold bindT at he
  split at he
  · split at he
    · rename_i hω
      cases he
      exact wpAny_assign_Name (store_ok hω G hv k)
    · cases he
  · rename_i ts q pos
    split at he
    · rename_i vs
      cases hv with | tup h1 h2 h3 h4 h5 =>
      rename_i r o arr m
      obtain ⟨e1, e2⟩ := starEach_none (env := env) he
      show wpAny _ _ (standAt pos >>= fun _ => unpack (.ref r) (assignEach ts env)) _ _ _
      refine wpAny_bind (wpAny_standAt (wpAny_unpack_tuple hh ⟨o, h1, h2, m, h3⟩ (by rw [e2, arr_of h4]) e1 fun h' hx => ?_))
      -- the unpacking's own iterator is new
      have hk : ∀ a o, s.heap.get? a = some o → h'.get? a = some o := fun a o e => hx a o (Nat.ne_of_lt (Heap.lt_size e)) e
      have wr' : WR hT σ H h' := ⟨G.wr.len, fun a xs r e1 e2 => let ⟨arr, p, q, l⟩ := G.wr.obj a xs r e1 e2; ⟨arr, p.at fun o e => hk _ _ e, q.mono (prefix_same _) (Tups.keeps hk), l⟩, G.wr.nodup, fun a o e => hk _ _ (G.wr.top a o e)⟩
      have ex : Ext [] b σ s.heap σ h' := ⟨⟨[], by simp, by simp⟩, fun a o e => ⟨o, hk a o e⟩, fun a o e _ _ => hk a o e⟩
      exact bindNames_ok he (G.step wr' ex) (h4.mono (prefix_same _) (Tups.keeps hk)) fun h'' tk' G'' e'' => k h'' tk' G'' (ex.nil.trans e'')
    · cases he
  · cases he

theorem fresh_of {σ' : List Addr} {h h' : Heap} {W' : List Addr} (e : Ext W' b σ h σ' h') {a : Addr} (ha : h'.get? a = none) : h.get? a = none := by
  cases q : h.get? a with
  | none => rfl
  | some o =>
    obtain ⟨o', e'⟩ := e.there a o q
    rw [ha] at e'; cases e'

/-- an iterator for what a loop goes over -/
theorem items_ok {v : V} {wv : Value} {items : List V} {c : Option Nat} {Q : Value → Shared → Prop} (he : itemsOf v H = some (items, c)) (hv : VR σ s.heap v wv) (wr : WR hT σ H s.heap)
    (k : ∀ it h' tk, WR hT σ H h' → It σ h' it c items items → Ext [] b σ s.heap σ h' → s.heap.get? it = none → Q (.ref it) { s with heap := h', toks := tk }) : wpAny (model prog w) A (pyIter wv) Q E s := by
  unfold itemsOf at he
  split at he
  · rename_i x
    cases he
    cases hv with | str _ t hl =>
    refine wpAny_pyIter_strU ?_
    refine k _ _ s.toks (wr.push _) ?_ (Ext.push ..) (get_size _)
    have := It.str (σ := σ) (h := s.heap.push { cls := .type (strIterType x), data := .fields #[.str x t, .int 0 0] }) (it := s.heap.objs.size) (T := strIterType x) (x := x) (t := t) (all := chars x) (i := 0)
      (by unfold strIterType; split <;> simp) ⟨_, Heap.get?_push_size _ rfl, rfl, rfl⟩
    rw [List.drop_zero] at this
    exact this
  · cases he
    cases hv with | tup h1 h2 h3 h4 h5 =>
    rename_i vs r o arr m
    have ht : s.heap.IsTuple r arr := ⟨o, h1, h2, m, h3⟩
    refine wpAny_pyIter_tuple ht ?_
    refine k _ _ s.toks (wr.push _) ?_ (Ext.push ..) (get_size _)
    have kk : ∀ a o', s.heap.get? a = some o' → (s.heap.push { cls := .type "tuple_iterator", data := .fields #[.ref r, .int 0 0] }).get? a = some o' := fun _ _ e => Heap.get?_push_of_some _ e
    have := It.tuple (σ := σ) (h := s.heap.push { cls := .type "tuple_iterator", data := .fields #[.ref r, .int 0 0] }) (it := s.heap.objs.size) (i := 0) ⟨o, kk _ _ h1, h2, m, h3⟩ (h4.mono (prefix_same _) (Tups.keeps kk)) ⟨_, Heap.get?_push_size _ rfl, rfl, rfl⟩
    rw [List.drop_zero] at this
    exact this
  · rename_i a
    cases hv with | ref ha =>
    rename_i l
    obtain ⟨xs, h0, h1⟩ := Option.map_eq_some_iff.mp he
    cases h1
    obtain ⟨arr, p, vx, _⟩ := wr.obj a items l h0 ha
    refine wpAny_pyIter_list p.isList ?_
    refine k _ _ s.toks (wr.push _) ?_ (Ext.push ..) (get_size _)
    have := It.list (σ := σ) (h := s.heap.push { cls := .type "list_iterator", data := .fields #[.ref l, .int 0 0] }) (it := s.heap.objs.size) (all := items) (i := 0) ha ⟨_, Heap.get?_push_size _ rfl, rfl, rfl⟩
    rw [List.drop_zero] at this
    exact this
  · cases he

theorem notSet_folded {e : Expr} (h : notSet e = true) (x : Value) : foldedSetIterable e env x = pure x := by
  unfold foldedSetIterable
  split
  · simp [notSet] at h
  · rfl

theorem rangeCall_eq {e : Expr} {f : Str} {args : List Expr} (h : rangeCall e = some (f, args)) : f = "range" ∧ ∃ p pos, e = .Call (.Name f p) args [] pos := by
  unfold rangeCall at h
  split at h
  · split at h
    · rename_i q; cases h; exact ⟨q, _, _, rfl⟩
    · cases h
  · cases h

theorem rangeSize_eq (lo hi : Int) : Builtin.Range.rangeSize lo hi 1 = ((hi - lo).toNat : Int) := by
  unfold Builtin.Range.rangeSize
  simp only [show (1 : Int) > 0 by omega, if_true, Int.ediv_one]
  split <;> omega
theorem range_small {lo hi : Int} (h1 : lo.natAbs ≤ 2 ^ 40) (h2 : hi.natAbs ≤ 2 ^ 40) : Builtin.Range.small lo hi 1 = true := by
  unfold Builtin.Range.small
  rw [rangeSize_eq]
  simp only [Builtin.Range.rangeFitsLong, Bool.and_eq_true, decide_eq_true_eq, show (1 : Int) > 0 by omega, if_true]
  simp at h1 h2
  simp
  omega

theorem evIter_ok {rec : Rec} (B : Base prog w hT σ₀ n g) (R : RecOK z prog w hT σ₀ b n rec) (room : Room A n) {e : Expr} {items : List V} {c : Option Nat} {H' : Hp} {Q : Value → Shared → Prop} (he : evIter g rec κ ρ e H = some ((items, c), H'))
    (G : Good hT σ₀ κ ω ρ W env b σ H s.heap)
    (k : ∀ it h' (tk : Tok1 z) σ', WR hT σ' H' h' → It σ' h' it c items items → Ext [] b σ s.heap σ' h' → s.heap.get? it = none → Q (.ref it) { s with heap := h', toks := tk.n }) (ht : z ≤ s.toks := by first | assumption | exact Tok1.pos _ | exact Nat.zero_le _) :
    wpAny (model prog w) A (eval e env) (fun x s₁ => wpAny (model prog w) A (pyIter x) Q E s₁) E s := by
  unfold evIter at he
  split at he
  · split at he
    · rename_i f args hr
      obtain ⟨hf, p, pos, rfl⟩ := rangeCall_eq hr
      split at he
      · rename_i hg
        obtain ⟨q, h1, he1⟩ := Option.bind_eq_some_iff.mp he
        obtain ⟨lh, h2, he2⟩ := Option.map_eq_some_iff.mp he1
        cases he2
        simp only [isGlobalB, Bool.and_eq_true, beq_iff_eq, Option.isNone_iff_eq_none, Bool.not_eq_true'] at hg
        have hb : bval f = some (.type "range") := by rw [hf]; decide +kernel
        show wpAny _ _ (eval (.Name f p) env >>= fun fv => callWith pos fv [] (backTo pos (starEach args env)) []) _ _ _
        refine wpAny_bind (global_ok B G hg.1.1 (by rw [hf]; decide +kernel) (.inr ⟨hg.1.2, hg.2, _, hb, ?_⟩))
        refine callVal_ok R room (.inr ⟨_, rfl⟩) h1 G fun ws h' tk σ' wr' vs' ex => ?_
        -- the range's two ends
        have fin : ∀ (lo hi : Int) (t u v : Tok) (tk' : Nat), z ≤ tk' → lo.natAbs ≤ 2 ^ 40 → hi.natAbs ≤ 2 ^ 40 → rangeV lo hi = rangeV lh.1 lh.2 →
            wpAny (model prog w) A (pyIter (.ref h'.objs.size)) Q E { s with heap := h'.push { cls := .type "range", data := .fields #[.int lo t, .int hi u, .int 1 v] }, toks := tk' } := by
          intro lo hi t u v tk' ht' l1 l2 hit
          refine wpAny_pyIter_range (a := lo) (b := hi) (c := 1) (t := t) (u := u) (v := v) (Heap.get?_push_size _ rfl) (range_small l1 l2) ?_
          rw [rangeSize_eq]
          refine k _ _ ⟨tk', ht'⟩ σ' ((wr'.push _).push _) ?_ ((ex.trans (Ext.push ..)).trans (Ext.push ..)) ?_
          · rw [← hit]
            exact It.range (k := (hi - lo).toNat) (lo := lo) (Heap.get?_push_size _ rfl)
          · refine fresh_of ex ?_
            cases q9 : h'.get? (h'.push { cls := .type "range", data := .fields #[.int lo t, .int hi u, .int 1 v] }).objs.size with
            | none => rfl
            | some o => have := Heap.lt_size q9; rw [Heap.size_push] at this; exact absurd this (Nat.not_lt.mpr (Nat.le_succ _))
        unfold rangeArgs at h2
        split at h2
        · rename_i nn heq
          split at h2
          · rename_i hl
            cases h2
            rw [heq] at vs'
            obtain ⟨wv, rfl, hv⟩ := list_one vs'
            cases hv
            exact lift (Tok1.pos tk) (call_range_1 fun hh => fin _ _ _ _ _ _ hh (by decide) hl rfl)
          · cases h2
        · rename_i mm nn heq
          split at h2
          · rename_i hl
            cases h2
            rw [heq] at vs'
            cases vs' with | cons hm r =>
            cases r with | cons hn r =>
            cases r
            cases hm; cases hn
            exact lift (Tok1.pos tk) (call_range_2 fun hh => fin _ _ _ _ _ _ hh hl.1 hl.2 rfl)
          · cases h2
        · cases h2
      · cases he
    · obtain ⟨p, h1, he1⟩ := Option.bind_eq_some_iff.mp he
      obtain ⟨q, h2, he2⟩ := Option.map_eq_some_iff.mp he1
      cases he2
      refine R.ok e κ ρ H p.1 p.2 h1 A ω W env σ s _ E room G fun w1 h1' tk1 σ1 wr1 v1 e1 => ?_
      refine lift (Tok1.pos tk1) (items_ok (b := b) h2 v1 wr1 fun it h' tk wr' hi ex hn htk => ?_)
      exact k it h' ⟨tk, htk⟩ σ1 wr' hi (e1.trans ex) (fresh_of e1 hn)
  · cases he
end
end Mine
end

section
set_option autoImplicit false
set_option maxRecDepth 100000
namespace Mine
open PySem PyProof.Rows
section
variable {z : Nat} {prog : Program} {w : World} {hT : Heap} {σ₀ : List Addr} {b n : Nat} {g : Glob} {A : Around} {E : Value → Shared → Prop} {s : Shared} {σ : List Addr} {H : Hp} {κ : Kap} {ω : Str → Bool} {ρ : Rho} {W : List Addr} {env : Env}

theorem exs_ok {recS : RecS} (RS : RecSOK z prog w hT σ₀ b n κ ω recS) (room : Room A n) : ∀ {body : List Stmt} {ρ ρ' : Rho} {H H' : Hp} {fl : Fl} {σ : List Addr} {s : Shared} {Q : Flow → Shared → Prop}, exs recS body ρ H = some (fl, ρ', H') →
    Good hT σ₀ κ ω ρ W env b σ H s.heap → KontS z hT σ₀ b κ ω W env σ fl ρ' H' Q s → (ht : z ≤ s.toks := by first | assumption | exact Tok1.pos _ | exact Nat.zero_le _) → wpAny (model prog w) A (execs body env) Q E s
  | [], ρ, ρ', H, H', fl, σ, s, Q, he, G, k, ht => by
    simp [exs] at he
    obtain ⟨rfl, rfl, rfl⟩ := he
    exact wpAny_execs_nil (k .next s.heap ⟨s.toks, ht⟩ σ G .next (Ext.refl ..))
  | st :: r, ρ, ρ', H, H', fl, σ, s, Q, he, G, k, ht => by
    unfold exs at he
    obtain ⟨q, h1, he1⟩ := Option.bind_eq_some_iff.mp he
    obtain ⟨f1, ρ1, H1⟩ := q
    refine wpAny_execs_cons (RS.ok st ρ H f1 ρ1 H1 h1 A W env σ s _ E room G fun fw h' tk σ' G' hf e' => ?_)
    cases f1 with
    | next =>
      cases hf
      exact exs_ok RS room he1 G' (k.after (tk := tk) e')
    | brk => cases hf; cases he1; exact k _ h' tk σ' G' .brk e'
    | cont => cases hf; cases he1; exact k _ h' tk σ' G' .cont e'
    | ret v => cases hf with | ret hv => cases he1; exact k _ h' tk σ' G' (.ret hv) e'

theorem It.cls {it : Addr} {c : Option Nat} {all rest : List V} {h : Heap} (x : It σ h it c all rest) : ∃ o T, h.get? it = some o ∧ o.cls = .type T ∧ (T = "list_iterator" ∨ T = "tuple_iterator" ∨ T = "str_ascii_iterator" ∨ T = "str_iterator" ∨ T = "range_iterator") := by
  cases x with
  | list _ q => obtain ⟨o, a, b, c⟩ := q; exact ⟨o, _, a, b, by simp⟩
  | tuple _ _ q => obtain ⟨o, a, b, c⟩ := q; exact ⟨o, _, a, b, by simp⟩
  | str ht q => obtain ⟨o, a, b, c⟩ := q; exact ⟨o, _, a, b, by rcases ht with rfl | rfl <;> simp⟩
  | range q => exact ⟨_, _, q, rfl, by simp⟩

theorem owned_ok {M : Model} {it : Addr} {c : Option Nat} {all rest : List V} {t : Expr} {v : Value} {Q : Unit → Shared → Prop} (x : It σ s.heap it c all rest) (k : Q () s) : wpAny M A (letOwnedTupleGo t (.ref it) v) Q E s := by
  obtain ⟨o, T, e1, e2, e3⟩ := x.cls
  have key : wpAny M A (do
      let (.ref r, .ref a) := (Value.ref it, v) | return
      let o ← load r
      match o.cls, o.data with
      | .type n, .fields vs =>
        if ["enumerate", "zip", "dict_itemiterator", "dict_reverseitemiterator", "odict_iterator", "itertools.zip_longest", "itertools.pairwise"].contains n && vs[0]? == some (rawInt a) then
          rule "for.unpacks-the-owned-tuple"
          updateField r 0 .none
      | _, _ => pure ()) Q E s := by
    cases v with
    | ref a =>
      refine wpAny_bind (wpAny_load e1 ?_)
      rw [e2]
      split
      · rename_i m vs heq _
        cases heq
        have : ["enumerate", "zip", "dict_itemiterator", "dict_reverseitemiterator", "odict_iterator", "itertools.zip_longest", "itertools.pairwise"].contains T = false := by
          rcases e3 with rfl | rfl | rfl | rfl | rfl <;> decide
        rw [this]
        exact wpAny_pure k
      · exact wpAny_pure k
    | _ => exact wpAny_pure k
  unfold letOwnedTupleGo
  split
  · exact key
  · exact key
  · exact wpAny_pure k

theorem wpAny_keepIt {W' : List Addr} {σ' : List Addr} {h h' : Heap} {it : Addr} {c : Option Nat} {all rest : List V} (x : It σ h it c all rest) (wr : WR hT σ H h) (e : Ext W' b σ h σ' h') (hw : ∀ a ∈ W', ∃ o, h.get? a = some o ∧ (∀ arr n, o.data ≠ .seq arr n)) (hit : it ∉ W') : It σ' h' it c all rest := by
  obtain ⟨o, eo, hd⟩ := x.obj
  exact x.keep e.prefix (e.tupsW wr hw) fun o' e' => e.keep it o' e' hit fun hm => wr.not_of_data eo hd (List.mem_of_mem_drop hm)

/-- a step that changes the iterator alone -/
theorem Good.iter {it : Addr} {h' : Heap} {o : Obj} (G : Good hT σ₀ κ ω ρ W env b σ H s.heap) (hs : Heap.SameBut it s.heap h') (ho : s.heap.get? it = some o) (hd : ∀ arr n, o.data ≠ .seq arr n) (ho' : ∃ o', h'.get? it = some o') (hW : it ∉ W)
    (hL : it ≠ env.locals) (hC : ∀ x c, (κ x = some .cell ∨ κ x = some .free) → env.cells.lookup x = some c → it ≠ c) (ht : hT.get? it = none) : Good hT σ₀ κ ω ρ W env b σ H h' := by
  have tu := tups_same hs ho hd
  refine ⟨G.wr.other hs ho hd ht, ⟨G.env.fn, G.env.kind, G.env.glob, G.env.blt, ?_, ?_, G.env.inj, G.env.own, G.env.loc, ?_⟩, G.base, G.above, G.wabove, G.tab⟩
  · obtain ⟨m, hm, hv⟩ := G.env.ns
    refine ⟨m, hm.sameBut hs (Ne.symm hL), fun y v hk hy => ?_⟩
    obtain ⟨wv, e1, e2⟩ := hv y v hk hy
    exact ⟨wv, e1, e2.mono (prefix_same _) tu⟩
  · intro y hy
    obtain ⟨c, v₀, e1, e2, e3⟩ := G.env.cell y hy
    refine ⟨c, v₀, e1, e2.sameBut hs (Ne.symm (hC y c hy e1)), fun v hv => ?_⟩
    obtain ⟨wv, e4, e5⟩ := e3 v hv
    exact ⟨wv, e4, e5.mono (prefix_same _) tu⟩
  · intro a ha
    obtain ⟨oa, e1, e2⟩ := G.env.wobj a ha
    exact ⟨oa, (hs.2 a fun q => hW (by rw [← q]; exact ha)).trans e1, e2⟩

theorem loopS_cons {c : Option Nat} {all xs : List V} {f : V → Rho → Hp → Option (Fl × Rho × Hp)} {x : V} {ρ ρ' : Rho} {H H' : Hp} {fl : Fl} (h : loopS c all f (x :: xs) ρ H = some (fl, ρ', H')) :
    chk c all H = true ∧ ∃ f1 ρ1 H1, f x ρ H = some (f1, ρ1, H1) ∧ (((f1 = .next ∨ f1 = .cont) ∧ loopS c all f xs ρ1 H1 = some (fl, ρ', H')) ∨ (f1 = .brk ∧ fl = .next ∧ ρ' = ρ1 ∧ H' = H1) ∨ ∃ v, f1 = .ret v ∧ fl = .ret v ∧ ρ' = ρ1 ∧ H' = H1) := by
  unfold loopS at h
  split at h
  · rename_i hc
    obtain ⟨q, h1, he1⟩ := Option.bind_eq_some_iff.mp h
    obtain ⟨f1, ρ1, H1⟩ := q
    refine ⟨hc, f1, ρ1, H1, h1, ?_⟩
    cases f1 with
    | next => exact .inl ⟨.inl rfl, he1⟩
    | cont => exact .inl ⟨.inr rfl, he1⟩
    | brk => cases he1; exact .inr (.inl ⟨rfl, rfl, rfl, rfl⟩)
    | ret v => cases he1; exact .inr (.inr ⟨v, rfl, rfl, rfl, rfl⟩)
  · cases h

/-- a for's turns -/
theorem for_turns {recS : RecS} (RS : RecSOK z prog w hT σ₀ b n κ ω recS) (room : Room A n) {t : Expr} {body : List Stmt} {it : Addr} {c : Option Nat} {all : List V} {fl : Fl} {ρ' : Rho} {H' : Hp} {hs : Heap} {σs : List Addr} {Q : Flow → Shared → Prop}
    (hitW : it ∉ W) (hitL : it ≠ env.locals) (hitC : ∀ x c, (κ x = some .cell ∨ κ x = some .free) → env.cells.lookup x = some c → it ≠ c) (hitT : hT.get? it = none) (hits : hs.get? it = none)
    (k : ∀ fw h' (tk : Tok1 z) σ', Good hT σ₀ κ ω ρ' W env b σ' H' h' → FR σ' h' fl fw → Ext W b σs hs σ' h' → Q fw { s with heap := h', toks := tk.n }) :
    ∀ {rest : List V} {ρ : Rho} {H : Hp} {σ : List Addr} {h : Heap} {tk : Tok1 z}, loopS c all (fun x ρ h => (bindT ω t x ρ).bind fun ρ' => exs recS body ρ' h) rest ρ H = some (fl, ρ', H') →
      Good hT σ₀ κ ω ρ W env b σ H h → It σ h it c all rest → Ext W b σs hs σ h →
      codeAny (model prog w) A (.forLoop t (.ref it) body [] env) (fun r s' => match r with | .ok f => Q f s' | .error e => cameBackBy (model prog w) A env E e s') { s with heap := h, toks := tk.n } := by
  intro rest ρ H σ h tk he G hi ex
  refine codeAny_loop' rfl (fun m s₁ => ∃ rest ρ H σ h, ∃ tk : Tok1 z, m = rest.length ∧ s₁ = { s with heap := h, toks := tk.n } ∧ loopS c all (fun x ρ h => (bindT ω t x ρ).bind fun ρ' => exs recS body ρ' h) rest ρ H = some (fl, ρ', H') ∧
      Good hT σ₀ κ ω ρ W env b σ H h ∧ It σ h it c all rest ∧ Ext W b σs hs σ h) ?_ rest.length ⟨rest, ρ, H, σ, h, tk, rfl, rfl, he, G, hi, ex⟩
  rintro m s₁ ⟨rest, ρ, H, σ, h, tk, rfl, rfl, he, G, hi, ex⟩
  show wpAny _ _ ((forTurn t (.ref it) body [] env).onRaise (fun x => do noteFrame x env; theTreesLotGoes x)) _ _ _
  refine wpAny_noted ?_
  simp only [forTurn]
  have hA : Around.under A (.forLoop t (.ref it) body [] env) = A := Around.under_of_weight rfl
  rw [hA]
  refine wpAny_bind (wpAny_standAt (wpAny_bind (wpAny_onRaise ?_)))
  obtain ⟨o, eo, hd⟩ := hi.obj
  cases rest with
  | nil =>
    unfold loopS at he
    split at he
    · rename_i hc
      cases he
      refine next_end (s := { s with heap := h, toks := tk.n }) room.hh hi hc G.wr fun h' hx => ?_
      refine wpAny_pure (.inr ⟨rfl, codeAny_block (wpAny_execs_nil ?_)⟩)
      -- what the frame knows stands
      have kk : ∀ a o, h.get? a = some o → a ≠ it → h'.get? a = some o := fun a o e q => hx a o q e
      have tu : Tups h h' := fun a o' e' _ d' => kk a o' e' fun q => by
        subst q
        rw [eo] at e'; cases e'
        obtain ⟨arr, n, d⟩ := d'
        exact hd arr n d
      have hwr : WR hT σ H' h' := ⟨G.wr.len, fun a xs r e1 e2 => by
          obtain ⟨arr, p, v, l⟩ := G.wr.obj a xs r e1 e2
          refine ⟨arr, p.at fun o' e' => kk _ _ e' fun q => ?_, v.mono (prefix_same _) tu, l⟩
          subst q
          exact G.wr.not_of_data eo hd (List.mem_of_getElem? e2), G.wr.nodup, fun a o' e' => kk _ _ (G.wr.top a o' e') fun q => by subst q; rw [hitT] at e'; cases e'⟩
      have hG : Good hT σ₀ κ ω ρ' W env b σ H' h' := by
        refine ⟨hwr, ⟨G.env.fn, G.env.kind, G.env.glob, G.env.blt, ?_, ?_, G.env.inj, G.env.own, G.env.loc, ?_⟩, G.base, G.above, G.wabove, G.tab⟩
        · obtain ⟨m, ⟨oL, es, ep, e1, e2⟩, hv⟩ := G.env.ns
          refine ⟨m, ⟨oL, es, ep, kk _ _ e1 (Ne.symm hitL), e2⟩, fun y v hk hy => ?_⟩
          obtain ⟨wv, f1, f2⟩ := hv y v hk hy
          exact ⟨wv, f1, f2.mono (prefix_same _) tu⟩
        · intro y hy
          obtain ⟨c', v₀, e1, ⟨oc, e2, e2'⟩, e3⟩ := G.env.cell y hy
          refine ⟨c', v₀, e1, ⟨oc, kk _ _ e2 (Ne.symm (hitC y c' hy e1)), e2'⟩, fun v hv => ?_⟩
          obtain ⟨wv, f4, f5⟩ := e3 v hv
          exact ⟨wv, f4, f5.mono (prefix_same _) tu⟩
        · intro a ha
          obtain ⟨oa, e1, e2⟩ := G.env.wobj a ha
          exact ⟨oa, kk _ _ e1 fun q => hitW (by rw [← q]; exact ha), e2⟩
      refine k .next h' tk σ hG .next ⟨ex.pre, fun a o' e' => ?_, fun a o' e' hw hdr => ?_⟩
      · obtain ⟨o2, e2⟩ := ex.there a o' e'
        exact ⟨o2, kk _ _ e2 fun q => by subst q; rw [hits] at e'; cases e'⟩
      · exact kk _ _ (ex.keep a o' e' hw hdr) fun q => by subst q; rw [hits] at e'; cases e'
    · cases he
  | cons x xs =>
    obtain ⟨hc, f1, ρ1, H1, h1, hcase⟩ := loopS_cons he
    obtain ⟨ρ2, hb, hb2⟩ := Option.bind_eq_some_iff.mp h1
    refine lift (Tok1.pos tk) (next_item (s := { s with heap := h, toks := tk.n }) hi hc G.wr fun wv h' tk' hv hi' hsb htk => ?_)
    obtain ⟨o', eo', hd'⟩ := hi'.obj
    have G' : Good hT σ₀ κ ω ρ W env b σ H h' := Good.iter (s := { s with heap := h, toks := tk.n }) G hsb eo hd ⟨o', eo'⟩ hitW hitL hitC hitT
    have ex' : Ext W b σs hs σ h' := ⟨ex.pre, fun a q e => by
        obtain ⟨o2, e2⟩ := ex.there a q e
        exact there_same hsb eo' a o2 e2, fun a q e hw hdr => (hsb.2 a fun q' => by subst q'; rw [hits] at e; cases e).trans (ex.keep a q e hw hdr)⟩
    refine wpAny_bind (owned_ok (s := { s with heap := h', toks := tk' }) hi' (wpAny_bind (lift htk (assign_ok (s := { s with heap := h', toks := tk' }) hb room.hh G' hv fun h2 tk2 G2 e2 ht2 => ?_))))
    have hi2 := wpAny_keepIt hi' G'.wr e2 G'.env.wobj hitW
    refine wpAny_bind (exs_ok (s := { s with heap := h2, toks := tk2 }) RS room hb2 G2 fun fw h3 tk3 σ3 G3 hf e3 => ?_)
    have hi3 := wpAny_keepIt hi2 G2.wr e3 G2.env.wobj hitW
    have ex3 := (ex'.trans e2).trans e3
    rcases hcase with ⟨hn, hl⟩ | ⟨rfl, rfl, rfl, rfl⟩ | ⟨v, rfl, rfl, rfl, rfl⟩
    · have again : wpAny (model prog w) A (again (.forLoop t (.ref it) body [] env)) (fun fin s' => match fin with
          | .done f => (match (Except.ok f : Result) with | .ok f => Q f s' | .error e => cameBackBy (model prog w) A env E e s')
          | .again c' => (c' = .forLoop t (.ref it) body [] env ∧ ∃ m, m < (x :: xs).length ∧ ∃ rest ρ H σ h, ∃ tk : Tok1 z, m = rest.length ∧ s' = { s with heap := h, toks := tk.n } ∧ loopS c all (fun x ρ h => (bindT ω t x ρ).bind fun ρ' => exs recS body ρ' h) rest ρ H = some (fl, ρ', H') ∧
            Good hT σ₀ κ ω ρ W env b σ H h ∧ It σ h it c all rest ∧ Ext W b σs hs σ h) ∨ (c'.quiet = true ∧ codeAny (model prog w) A c' (fun r s' => match r with | .ok f => Q f s' | .error e => cameBackBy (model prog w) A env E e s') s'))
          (notedBy (model prog w) A env fun e s' => cameBackBy (model prog w) A env E e s') { s with heap := h3, toks := tk3.n } :=
        wpAny_pure (.inl ⟨rfl, xs.length, by simp, xs, ρ1, H1, σ3, h3, tk3, rfl, rfl, hl, G3, hi3, ex3⟩)
      rcases hn with rfl | rfl
      · cases hf; exact again
      · cases hf; exact again
    · cases hf; exact wpAny_pure (k .next h3 tk3 σ3 G3 .next ex3)
    · cases hf with | ret hv => exact wpAny_pure (k _ h3 tk3 σ3 G3 (.ret hv) ex3)
end
end Mine
end

section
set_option autoImplicit false
set_option maxRecDepth 100000
namespace Mine
open PySem PyProof.Rows

theorem get_ge {h : Heap} {a : Addr} (ha : h.objs.size ≤ a) : h.get? a = none := by
  cases q : h.get? a with
  | none => rfl
  | some o => exact absurd (Heap.lt_size q) (Nat.not_lt.mpr ha)


/-! ### a comprehension's frame -/
noncomputable def closOf (cells : List (Str × Addr)) : List (Str × NameKind) → List (Str × Addr) → List (Str × Addr)
  | [], acc => acc
  | (x, k) :: r, acc => if k == .free then closOf cells r ((x, (cells.lookup x).getD 0) :: acc) else closOf cells r acc

theorem clos_mem {cells : List (Str × Addr)} : ∀ {names : List (Str × NameKind)} {acc : List (Str × Addr)} {x : Str} {c : Addr}, (x, c) ∈ closOf cells names acc → (x, c) ∈ acc ∨ ((x, NameKind.free) ∈ names ∧ c = (cells.lookup x).getD 0)
  | [], _, _, _, h => .inl h
  | (y, k) :: r, acc, x, c, h => by
    unfold closOf at h
    split at h
    · rename_i hk
      rcases clos_mem h with q | ⟨q1, q2⟩
      · rcases List.mem_cons.mp q with e | e
        · cases e; exact .inr ⟨by rw [beq_iff_eq.mp hk]; exact List.mem_cons_self, rfl⟩
        · exact .inl e
      · exact .inr ⟨List.mem_cons_of_mem _ q1, q2⟩
    · rcases clos_mem h with q | ⟨q1, q2⟩
      · exact .inl q
      · exact .inr ⟨List.mem_cons_of_mem _ q1, q2⟩
theorem clos_has {cells : List (Str × Addr)} {x : Str} : ∀ (names : List (Str × NameKind)) (acc : List (Str × Addr)), (acc.lookup x).isSome = true ∨ (x, NameKind.free) ∈ names → ((closOf cells names acc).lookup x).isSome = true
  | [], _, h => by
    rcases h with h | h
    · exact h
    · cases h
  | (y, k) :: r, acc, h => by
    unfold closOf
    split
    · refine clos_has r _ ?_
      rcases h with h | h
      · left
        rw [List.lookup_cons]
        split
        · rfl
        · exact h
      · rcases List.mem_cons.mp h with e | e
        · left
          cases e
          simp
        · exact .inr e
    · rename_i hk
      refine clos_has r _ ?_
      rcases h with h | h
      · exact .inl h
      · rcases List.mem_cons.mp h with e | e
        · cases e; exact (hk rfl).elim
        · exact .inr e

theorem cells_append : ∀ (names : List (Str × NameKind)) (n : Nat) (acc : List (Str × Addr)), cellsFrom n names acc = cellsFrom n names [] ++ acc
  | [], _, _ => by simp [cellsFrom]
  | (y, k) :: r, n, acc => by
    unfold cellsFrom
    split
    · rw [cells_append r (n + 1) ((y, n) :: acc), cells_append r (n + 1) [(y, n)]]; simp
    · exact cells_append r n acc
theorem cells_kind : ∀ {names : List (Str × NameKind)} {n : Nat} {acc : List (Str × Addr)} {x : Str} {c : Addr}, (x, c) ∈ cellsFrom n names acc → (x, c) ∈ acc ∨ (x, NameKind.cell) ∈ names
  | [], _, _, _, _, h => .inl h
  | (y, k) :: r, n, acc, x, c, h => by
    unfold cellsFrom at h
    split at h
    · rename_i hk
      rcases cells_kind h with q | q
      · rcases List.mem_cons.mp q with e | e
        · cases e; exact .inr (by rw [beq_iff_eq.mp hk]; exact List.mem_cons_self)
        · exact .inl e
      · exact .inr (List.mem_cons_of_mem _ q)
    · rcases cells_kind h with q | q
      · exact .inl q
      · exact .inr (List.mem_cons_of_mem _ q)
theorem cells_has {x : Str} : ∀ (names : List (Str × NameKind)) (n : Nat) (acc : List (Str × Addr)), (acc.lookup x).isSome = true ∨ (x, NameKind.cell) ∈ names → ((cellsFrom n names acc).lookup x).isSome = true
  | [], _, _, h => by
    rcases h with h | h
    · exact h
    · cases h
  | (y, k) :: r, n, acc, h => by
    unfold cellsFrom
    split
    · refine cells_has r _ _ ?_
      rcases h with h | h
      · left
        rw [List.lookup_cons]
        split
        · rfl
        · exact h
      · rcases List.mem_cons.mp h with e | e
        · left
          cases e
          simp
        · exact .inr e
    · rename_i hk
      refine cells_has r _ _ ?_
      rcases h with h | h
      · exact .inl h
      · rcases List.mem_cons.mp h with e | e
        · cases e; exact (hk rfl).elim
        · exact .inr e

theorem lookup_map_kind (f : Str → NameKind → NameKind) (x : Str) : ∀ (names : List (Str × NameKind)), (names.map fun p => (p.1, f p.1 p.2)).lookup x = (names.lookup x).map (f x)
  | [] => rfl
  | (y, k) :: r => by
    rw [List.map_cons, List.lookup_cons, List.lookup_cons, lookup_map_kind f x r]
    cases h : x == y with
    | true => rw [beq_iff_eq.mp h]; rfl
    | false => rfl

section
variable {M : Model} {A : Around} {E : Value → Shared → Prop} {s : Shared} {env : Env}

theorem clos_walk (f : Str × NameKind → List (Str × Addr) → Sem (ForInStep (List (Str × Addr))))
    (hf : ∀ name kind cs, f (name, kind) cs = if kind == .free then (do let c ← cellOf env name; pure (.yield ((name, c) :: cs))) else pure (.yield cs)) :
    ∀ (names : List (Str × NameKind)) (acc : List (Str × Addr)) (Q : List (Str × Addr) → Shared → Prop), (∀ p ∈ names, p.2 = .free → (env.cells.lookup p.1).isSome = true) → Q (closOf env.cells names acc) s → wpAny M A (forIn names acc f) Q E s
  | [], acc, Q, _, h => by rw [List.forIn_nil]; exact wpAny_pure h
  | (x, k) :: r, acc, Q, hall, h => by
    rw [List.forIn_cons, hf]
    unfold closOf at h
    split at h
    · rename_i hk
      rw [if_pos hk]
      obtain ⟨c, hc⟩ := Option.isSome_iff_exists.mp (hall (x, k) List.mem_cons_self (beq_iff_eq.mp hk))
      refine wpAny_bind (wpAny_bind (wpAny_cellOf hc (wpAny_pure ?_)))
      refine clos_walk f hf r _ Q (fun p hp => hall p (List.mem_cons_of_mem _ hp)) ?_
      rw [hc] at h
      exact h
    · rename_i hk
      rw [if_neg hk]
      exact wpAny_bind (wpAny_pure (clos_walk f hf r _ Q (fun p hp => hall p (List.mem_cons_of_mem _ hp)) h))

theorem closure_ok {scope : Scope} {Q : List (Str × Addr) → Shared → Prop} (hall : ∀ p ∈ scope.names, p.2 = .free → (env.cells.lookup p.1).isSome = true) (h : Q (closOf env.cells scope.names []) s) : wpAny M A (closureFor scope env) Q E s := by
  simp only [closureFor]
  refine wpAny_bind (clos_walk _ (fun name kind cs => by cases hk : kind == NameKind.free <;> simp [hk]) _ _ _ hall ?_)
  exact wpAny_pure h

theorem newEnv_ok {scope : Scope} {globals : Addr} {clo : List (Str × Addr)} {qual : Str} {Q : Env → Shared → Prop}
    (h : Q { scope, locals := s.heap.objs.size, globals, cells := cellsFrom (s.heap.objs.size + 1) scope.names clo, qual, func := none, code := env.code, frame := env.frame, builtins := env.builtins }
      { s with heap := pushCells (s.heap.push { cls := .type "dict", data := .dict #[] }) scope.names }) : wpAny M A (newFunctionEnv scope globals clo [] qual none .none (some env)) Q E s := by
  simp only [newFunctionEnv, Option.isSome_some, if_true]
  refine wpAny_bind (wpAny_alloc ?_)
  refine wpAny_bind (wpAny_layCells _ (fun name kind cells => by cases hkc : kind == NameKind.cell <;> simp [hkc]) _ _ _ _ ?_)
  rw [show ({ s with heap := s.heap.push { cls := .type "dict", data := .dict #[] } } : Shared).heap.objs.size = s.heap.objs.size + 1 from Heap.size_push ..]
  refine wpAny_bind ?_
  rw [List.forIn_nil]
  exact wpAny_pure (wpAny_pure h)

/-- the scope in which a comprehension's parts stand -/
noncomputable def compScope (scope : Scope) (env : Env) : Scope := { scope with names := scope.names.map fun (n, k) => if k == .free && env.scope.kind == .function && env.kindOf n == some .cell then (n, .cell) else (n, k) }

theorem comp_rule {e : Expr} {scope : Scope} {pos : Pos} {newAcc first : Sem Value} {g : Comprehension} {gs : List Comprehension} {Q : Value → Shared → Prop} {use : Option (Value → Sem Unit)}
    (hcl : clausesOf e = g :: gs) (hs : ∀ x, foldedSetIterable g.iter env x = pure x) (hkind : scope.kind = .function) (hnames : ∀ x ∈ scope.names, x.2 = .local → (compScope scope env).names.lookup x.1 = some .local)
    (h : wpAny M A first (fun x s₁ => wpAny M A (pyIter x) (fun it s₂ => wpAny M A newAcc (fun acc s₃ => wpAny M A (closureFor scope env) (fun clo s₄ =>
      wpAny M A (newFunctionEnv scope env.globals clo [] env.qual none .none (some env)) (fun cenv s₅ =>
        codeAny M A (.compStart e 0 it acc { cenv with scope := compScope scope env }) (fun r s' => ∃ m, s'.heap.Ns cenv.locals m ∧
          match r, use with
          | .ok _, none => ∀ h' m', h'.Ns cenv.locals m' → Heap.SameBut cenv.locals s'.heap h' → Q acc { s' with heap := h' }
          | .ok _, some u => wpAny M A (u acc) (fun _ s'' => ∃ m, s''.heap.Ns cenv.locals m ∧ ∀ h' m', h'.Ns cenv.locals m' → Heap.SameBut cenv.locals s''.heap h' → Q .none { s'' with heap := h' }) E s'
          | .error _, _ => False) s₅) E s₄) E s₃) E s₂) E s₁) E s) :
    wpAny M A (comprehension e scope env pos newAcc false first use) Q E s := by
  unfold comprehension
  rw [hcl]
  refine wpAny_bind (wpAny_mono h (fun x s₁ h₁ => wpAny_bind (wpAny_standAt (wpAny_bind (wpAny_of_eq (hs x) (wpAny_bind (wpAny_holding (wpAny_mono h₁ (fun it s₂ h₂ =>
    wpAny_standIf (wpAny_bind (wpAny_mono h₂ (fun acc s₃ h₃ => wpAny_bind (wpAny_mono h₃ (fun clo s₄ h₄ => wpAny_bind (wpAny_mono h₄ (fun cenv s₅ h₅ => ?_) fun _ _ h' => h')) fun _ _ h' => h')) fun _ _ h' => h')))
      fun _ _ h' => h'))))))) fun _ _ h' => h')
  dsimp only
  have hv : ∀ vs : List (Str × NameKind), (∀ x ∈ vs, x ∈ scope.names) → ∀ x ∈ vs, x.2 = .local → Env.kindOf { cenv with scope := compScope scope env } x.1 = some .local := fun vs hvs x hx hl => hnames x (hvs x hx) hl
  have hsub : ∀ x ∈ (scope.names.filter fun x => (x.2 == .local || x.2 == .cell) && x.1 != (".0" : Str)).reverse, x ∈ scope.names := fun x hx => (List.mem_filter.mp (List.mem_reverse.mp hx)).1
  refine wpAny_holding (wpAny_bind (wpAny_attempt (wpAny_holding (wpAny_run (codeAny_mono h₅ fun r s' hr => ?_)))))
  obtain ⟨m, hn, hr⟩ := hr
  cases r with
  | ok f =>
    cases use with
    | none => exact wpAny_bind (wpAny_holding (wpAny_comp_letGo (cenv := { cenv with scope := compScope scope env }) hkind _ s' m (hv _ hsub) hn fun h' m' hm' hs' => wpAny_pure (hr h' m' hm' hs')))
    | some u =>
      refine wpAny_bind (wpAny_rule (wpAny_bind (wpAny_holding (wpAny_mono hr (fun _ s'' h'' => ?_) fun _ _ h' => h'))))
      obtain ⟨m2, hn2, hq⟩ := h''
      refine wpAny_bind (wpAny_comp_letGo (cenv := { cenv with scope := compScope scope env }) hkind _ s'' m2 (hv _ fun x hx => ?_) hn2 fun h' m' hm' hs' => wpAny_pure (hq h' m' hm' hs'))
      rcases List.mem_append.mp hx with q | q
      · exact hsub x (List.mem_of_mem_drop q)
      · exact hsub x (List.mem_of_mem_take q)
  | error x => exact hr.elim
end
end Mine
end

section
set_option autoImplicit false
set_option maxRecDepth 100000
namespace Mine
open PySem PyProof.Rows
section
variable {z : Nat} {prog : Program} {w : World} {hT : Heap} {σ₀ : List Addr} {b n : Nat} {g : Glob} {A : Around} {E : Value → Shared → Prop} {s : Shared} {σ : List Addr} {H : Hp} {κ : Kap} {ω : Str → Bool} {ρ : Rho} {W : List Addr} {env : Env}

theorem ifs_false {M : Model} {Q : Bool → Shared → Prop} (f : Expr → Bool → Sem (ForInStep Bool)) (hf : ∀ c, f c false = pure (.yield false)) (h : Q false s) : ∀ es : List Expr, wpAny M A (forIn es false f) Q E s
  | [] => by rw [List.forIn_nil]; exact wpAny_pure h
  | e :: r => by
    rw [List.forIn_cons, hf]
    exact wpAny_bind (wpAny_pure (ifs_false f hf h r))
theorem ifs_ok {recT : RecT} (RT : RecTOK z prog w hT σ₀ b n recT) (room : Room A n) (f : Expr → Bool → Sem (ForInStep Bool)) (hf0 : ∀ c, f c false = pure (.yield false)) (hf1 : ∀ c, f c true = (isTrue c env (eval c env) >>= fun r => pure (.yield r))) :
    ∀ {es : List Expr} {t : Bool} {H H' : Hp} {σ : List Addr} {s : Shared} {Q : Bool → Shared → Prop}, tsts recT κ ρ es H = some (t, H') → Good hT σ₀ κ ω ρ W env b σ H s.heap → KontB z hT b σ t H' Q s → (ht : z ≤ s.toks := by first | assumption | exact Tok1.pos _ | exact Nat.zero_le _) → wpAny (model prog w) A (forIn es true f) Q E s
  | [], t, H, H', σ, s, Q, he, G, k, ht => by
    simp [tsts] at he
    obtain ⟨rfl, rfl⟩ := he
    rw [List.forIn_nil]
    exact wpAny_pure (k s.heap ⟨s.toks, ht⟩ σ G.wr (Ext.refl ..))
  | e :: r, t, H, H', σ, s, Q, he, G, k, ht => by
    unfold tsts at he
    obtain ⟨p, h1, he1⟩ := Option.bind_eq_some_iff.mp he
    rw [List.forIn_cons, hf1]
    refine wpAny_bind (wpAny_bind (RT.ok e κ ρ H p.1 p.2 h1 A ω W env σ s _ E room G fun h' tk σ' wr' ex => wpAny_pure ?_))
    obtain ⟨c, Hc⟩ := p
    cases c with
    | true => exact ifs_ok RT room f hf0 hf1 he1 (G.step wr' ex) (k.after (tk := tk) ex)
    | false => cases he1; exact ifs_false f hf0 (k h' tk σ' wr' ex) r

theorem compStart_ok {e : Expr} {depth : Nat} {it : Addr} {acc : Value} {c : Option Nat} {all rest : List V} {R : Result → Shared → Prop} (he : ∃ elt gens scope pos, e = .ListComp elt gens scope pos) (ha : ((clausesOf e)[depth]?).elim false (·.is_async != 0) = false) (hi : It σ s.heap it c all rest)
    (h : codeAny (model prog w) A (.compLoop e depth (.ref it) acc env) R s) : codeAny (model prog w) A (.compStart e depth (.ref it) acc env) R s := by
  obtain ⟨elt, gens, scope, pos, rfl⟩ := he
  refine codeAny_of_tree ?_
  show wpAny _ _ ((compStart (.ListComp elt gens scope pos) depth (.ref it) acc env).onRaise (fun x => do noteFrame x env; standAt theWindowsPlace)) _ _ s
  refine wpAny_notedAt ?_
  unfold compStart
  rw [ha]
  simp only [Bool.false_eq_true, if_false]
  refine wpAny_bind (wpAny_askSetting (wpAny_ite ?_))
  split
  · exact wpAny_pure (And.intro rfl h)
  · refine wpAny_bind (wpAny_rule ?_)
    split
    · exact wpAny_bind (wpAny_standAt (wpAny_bind (iter_self hi (wpAny_pure (And.intro rfl h)))))
    · exact wpAny_bind (iter_self hi (wpAny_pure (And.intro rfl h)))

theorem Good.weaken {ρ' : Rho} {h : Heap} (G : Good hT σ₀ κ ω ρ' W env b σ H h) (hsub : ∀ y v, ρ y = some v → ρ' y = some v) : Good hT σ₀ κ ω ρ W env b σ H h := by
  refine ⟨G.wr, ⟨G.env.fn, G.env.kind, G.env.glob, G.env.blt, ?_, ?_, G.env.inj, G.env.own, G.env.loc, G.env.wobj⟩, G.base, G.above, G.wabove, G.tab⟩
  · obtain ⟨m, hm, hv⟩ := G.env.ns
    exact ⟨m, hm, fun x v hx hy => hv x v hx (hsub x v hy)⟩
  · intro x hx
    obtain ⟨c, v₀, e1, e2, e3⟩ := G.env.cell x hx
    exact ⟨c, v₀, e1, e2, fun v hv => e3 v (hsub x v hv)⟩

theorem fresh_sub {t : Expr} {v : V} {ρ' : Rho} (hf : freshT t ρ = true) (hb : bindT ω t v ρ = some ρ') : ∀ y u, ρ y = some u → ρ' y = some u := by
  unfold freshT at hf
  split at hf
  · rename_i x p
    unfold bindT at hb
    dsimp only at hb
    split at hb
    · cases hb
      intro y u hy
      by_cases q : y = x
      · subst q; rw [Option.isNone_iff_eq_none.mp hf] at hy; cases hy
      · rw [upd_other _ _ q]; exact hy
    · cases hb
  · cases hf

theorem loopL_cons {c : Option Nat} {all xs : List V} {f : V → Hp → Option Hp} {x : V} {H H' : Hp} (h : loopL c all f (x :: xs) H = some H') : chk c all H = true ∧ ∃ H1, f x H = some H1 ∧ loopL c all f xs H1 = some H' := by
  unfold loopL at h
  split at h
  · rename_i hc
    obtain ⟨q, h1, he1⟩ := Option.bind_eq_some_iff.mp h
    exact ⟨hc, q, h1, he1⟩
  · cases h

theorem append_ok {acc : Nat} {r : Addr} {v : V} {wv : Value} {H' : Hp} {Q : Value → Shared → Prop} (he : appendTo acc v H = some H') (hb : b ≤ acc) (ha : σ[acc]? = some r) (hv : VR σ s.heap v wv) (wr : WR hT σ H s.heap) (habove : ∀ r ∈ σ.drop b, hT.get? r = none)
    (k : ∀ h', WR hT σ H' h' → Ext [] b σ s.heap σ h' → Q .none { s with heap := h' }) : wpAny (model prog w) A (call (.builtin "list.append") [.ref r, wv]) Q E s := by
  unfold appendTo at he
  obtain ⟨xs, h0, he1⟩ := Option.bind_eq_some_iff.mp he
  split at he1
  · rename_i hl0
    cases he1
    obtain ⟨arr, p, vx, hl⟩ := wr.obj acc xs _ h0 ha
    have hz := arr_of vx
    refine wpAny_list_append_plain p (fun h' p' hs' => ?_) (by rw [hz, sizeLine_val]; omega)
    have hvv : VRs σ s.heap (xs ++ [v]) (arr.push wv).toList := by rw [Array.toList_push]; exact vx.append (.cons hv .nil)
    exact k h' (wr.setL ha hs' p' hvv (by rw [List.length_append, sizeLine_val]; simp; omega) (habove _ (mem_drop_of ha hb))) (Ext.setL ha hb hs' p')
  · cases he1
end
end Mine
end

section
set_option autoImplicit false
set_option maxRecDepth 100000
namespace Mine
open PySem PyProof.Rows

/-- the small reading's turn of a comprehension -/
noncomputable def turnF (g : Glob) (rec : Rec) (recT : RecT) (ω : Str → Bool) (elt : Expr) (acc : Nat) (κ : Kap) (g1 : Comprehension) (rest : List Comprehension) (ρ : Rho) (x : V) (h : Hp) : Option Hp :=
  (bindT ω g1.target x ρ).bind fun ρ' => (tsts recT κ ρ' g1.ifs h).bind fun p => if p.1 then cgo g rec recT ω elt acc κ rest ρ' p.2 else some p.2

section
variable {z : Nat} {prog : Program} {w : World} {hT : Heap} {σ₀ : List Addr} {b n : Nat} {g : Glob} {A : Around} {κ : Kap} {ω : Str → Bool} {W : List Addr} {env : Env} {rec : Rec} {recT : RecT} {elt : Expr} {gens : List Comprehension} {scope : Scope} {pos : Pos} {acc : Nat} {r : Addr}

theorem drop_next {α : Type} {xs : List α} {i : Nat} {a : α} {rest : List α} (h : xs.drop i = a :: rest) : xs[i]? = some a ∧ xs[i + 1]? = rest.head? ∧ xs.drop (i + 1) = rest := by
  obtain ⟨h1, h2⟩ := drop_cons h
  refine ⟨h1, ?_, h2.symm⟩
  rw [h2, List.head?_drop]

/-- a loop's end: the iterator alone has changed -/
theorem loop_end {κ : Kap} {ω : Str → Bool} {W : List Addr} {env : Env} {ρ : Rho} {it : Addr} {H : Hp} {σ σs : List Addr} {h h' hs : Heap} {o : Obj} (G : Good hT σ₀ κ ω ρ W env b σ H h) (eo : h.get? it = some o) (hd : ∀ arr n, o.data ≠ .seq arr n) (hitW : it ∉ W) (hitL : it ≠ env.locals)
    (hitC : ∀ x c, (κ x = some .cell ∨ κ x = some .free) → env.cells.lookup x = some c → it ≠ c) (hitT : hT.get? it = none) (hits : hs.get? it = none) (ex : Ext W b σs hs σ h) (hx : Heap.ExtBut it h h') :
    Good hT σ₀ κ ω ρ W env b σ H h' ∧ Ext W b σs hs σ h' := by
  have kk : ∀ a o, h.get? a = some o → a ≠ it → h'.get? a = some o := fun a o e q => hx a o q e
  have tu : Tups h h' := fun a o' e' _ d' => kk a o' e' fun q => by
    subst q
    rw [eo] at e'; cases e'
    obtain ⟨arr, n, d⟩ := d'
    exact hd arr n d
  have hwr : WR hT σ H h' := ⟨G.wr.len, fun a xs r e1 e2 => by
      obtain ⟨arr, p, v, l⟩ := G.wr.obj a xs r e1 e2
      refine ⟨arr, p.at fun o' e' => kk _ _ e' fun q => ?_, v.mono (prefix_same _) tu, l⟩
      subst q
      exact G.wr.not_of_data eo hd (List.mem_of_getElem? e2), G.wr.nodup, fun a o' e' => kk _ _ (G.wr.top a o' e') fun q => by subst q; rw [hitT] at e'; cases e'⟩
  refine ⟨?_, ⟨ex.pre, fun a o' e' => ?_, fun a o' e' hw hdr => ?_⟩⟩
  · refine ⟨hwr, ⟨G.env.fn, G.env.kind, G.env.glob, G.env.blt, ?_, ?_, G.env.inj, G.env.own, G.env.loc, ?_⟩, G.base, G.above, G.wabove, G.tab⟩
    · obtain ⟨m, ⟨oL, es, ep, e1, e2⟩, hv⟩ := G.env.ns
      refine ⟨m, ⟨oL, es, ep, kk _ _ e1 (Ne.symm hitL), e2⟩, fun y v hk hy => ?_⟩
      obtain ⟨wv, f1, f2⟩ := hv y v hk hy
      exact ⟨wv, f1, f2.mono (prefix_same _) tu⟩
    · intro y hy
      obtain ⟨c', v₀, e1, ⟨oc, e2, e2'⟩, e3⟩ := G.env.cell y hy
      refine ⟨c', v₀, e1, ⟨oc, kk _ _ e2 (Ne.symm (hitC y c' hy e1)), e2'⟩, fun v hv => ?_⟩
      obtain ⟨wv, f4, f5⟩ := e3 v hv
      exact ⟨wv, f4, f5.mono (prefix_same _) tu⟩
    · intro a ha
      obtain ⟨oa, e1, e2⟩ := G.env.wobj a ha
      exact ⟨oa, kk _ _ e1 fun q => hitW (by rw [← q]; exact ha), e2⟩
  · obtain ⟨o2, e2⟩ := ex.there a o' e'
    exact ⟨o2, kk _ _ e2 fun q => by subst q; rw [hits] at e'; cases e'⟩
  · exact kk _ _ (ex.keep a o' e' hw hdr) fun q => by subst q; rw [hits] at e'; cases e'

/-- what a turn does behind its tests, and what follows -/
noncomputable def inner (elt : Expr) (gens : List Comprehension) (scope : Scope) (pos : Pos) (depth : Nat) (r : Addr) (env : Env) (kt : Sem Fin) (g' : Option Comprehension) : Sem Fin :=
  match g' with
  | some g' => do
    let x ← eval g'.iter env
    standAt g'.iter.pos
    if (g'.is_async != 0) = true then do
        let x ← foldedIterable g'.iter x
        let l ← holding [x] (if (g'.is_async != 0) = true then asyncIter x else pyIter x)
        let _ ← runOwn (Code.compStart (elt.ListComp gens scope pos) (depth + 1) l (Value.ref r) env) env
        kt
      else do
        let x ← foldedSetIterable g'.iter env x
        let l ← holding [x] (if (g'.is_async != 0) = true then asyncIter x else pyIter x)
        let _ ← runOwn (Code.compStart (elt.ListComp gens scope pos) (depth + 1) l (Value.ref r) env) env
        kt
  | none => (eval elt env >>= fun l => call (Value.builtin "list.append") [Value.ref r, l] >>= fun _ => pure ()) >>= fun _ => kt

theorem comp_level (B : Base prog w hT σ₀ n g) (R : RecOK z prog w hT σ₀ b n rec) (RT : RecTOK z prog w hT σ₀ b n recT) (room : Room A n) (rest : List Comprehension) {depth : Nat} {s : Shared}
    (hin : ∀ {ρ2 : Rho} {H2 H1 : Hp} {σ3 : List Addr} {h3 : Heap} {tk3 : Tok1 z} {Q : Fin → Shared → Prop} {E' : Value → Shared → Prop} {kt : Sem Fin}, cgo g rec recT ω elt acc κ rest ρ2 H2 = some H1 → Good hT σ₀ κ ω ρ2 W env b σ3 H2 h3 → σ3[acc]? = some r →
      (∀ h4 (tk4 : Tok1 z) σ4, Good hT σ₀ κ ω ρ2 W env b σ4 H1 h4 → Ext W b σ3 h3 σ4 h4 → wpAny (model prog w) A kt Q E' { s with heap := h4, toks := tk4.n }) → wpAny (model prog w) A (inner elt gens scope pos depth r env kt rest.head?) Q E' { s with heap := h3, toks := tk3.n })
    {g1 : Comprehension} {ρ : Rho} {it : Addr} {c : Option Nat} {all items : List V} {H H' : Hp} {σ σs : List Addr} {h hs : Heap} {tk : Tok1 z} {RR : Result → Shared → Prop}
    (hdrop : gens.drop depth = g1 :: rest) (has : g1.is_async = 0) (hfr : freshT g1.target ρ = true) (hitW : it ∉ W) (hitL : it ≠ env.locals) (hitC : ∀ x c, (κ x = some .cell ∨ κ x = some .free) → env.cells.lookup x = some c → it ≠ c) (hitT : hT.get? it = none) (hits : hs.get? it = none)
    (he : loopL c all (turnF g rec recT ω elt acc κ g1 rest ρ) items H = some H') (G : Good hT σ₀ κ ω ρ W env b σ H h) (hi : It σ h it c all items) (ex : Ext W b σs hs σ h) (hr : σ[acc]? = some r)
    (k : ∀ h' (tk : Tok1 z) σ', Good hT σ₀ κ ω ρ W env b σ' H' h' → Ext W b σs hs σ' h' → σ'[acc]? = some r → RR (.ok .next) { s with heap := h', toks := tk.n }) :
    codeAny (model prog w) A (.compLoop (.ListComp elt gens scope pos) depth (.ref it) (.ref r) env) RR { s with heap := h, toks := tk.n } := by
  obtain ⟨hg1, hg2, hg3⟩ := drop_next hdrop
  refine codeAny_loop' rfl (fun m s₁ => ∃ items H σ h, ∃ tk : Tok1 z, m = items.length ∧ s₁ = { s with heap := h, toks := tk.n } ∧ loopL c all (turnF g rec recT ω elt acc κ g1 rest ρ) items H = some H' ∧
    Good hT σ₀ κ ω ρ W env b σ H h ∧ It σ h it c all items ∧ Ext W b σs hs σ h ∧ σ[acc]? = some r) ?_ items.length ⟨items, H, σ, h, tk, rfl, rfl, he, G, hi, ex, hr⟩
  rintro m s₁ ⟨items, H, σ, h, tk, rfl, rfl, he, G, hi, ex, hr⟩
  show wpAny _ _ ((compTurn (.ListComp elt gens scope pos) depth (.ref it) (.ref r) env).onRaise (fun x => do noteFrame x env; theTreesLotGoes x)) _ _ _
  refine wpAny_noted ?_
  have hA : Around.under A (.compLoop (.ListComp elt gens scope pos) depth (.ref it) (.ref r) env) = A := Around.under_of_weight rfl
  rw [hA]
  unfold compTurn
  dsimp only
  rw [hg1]
  dsimp only
  have hb0 : (g1.is_async != 0) = false := by rw [has]; rfl
  rw [hb0]
  simp only [Bool.false_eq_true, if_false]
  obtain ⟨o, eo, hd⟩ := hi.obj
  refine wpAny_bind (wpAny_standAt (wpAny_bind ?_))
  cases items with
  | nil =>
    unfold loopL at he
    split at he
    · rename_i hc
      cases he
      refine next_end (s := { s with heap := h, toks := tk.n }) room.hh hi hc G.wr fun h' hx => ?_
      refine wpAny_pure ?_
      obtain ⟨hG, hE⟩ := loop_end G eo hd hitW hitL hitC hitT hits ex hx
      exact k h' tk σ hG hE hr
    · cases he
  | cons x xs =>
    obtain ⟨hc, H1, h1, h2⟩ := loopL_cons he
    unfold turnF at h1
    obtain ⟨ρ2, hb, hb2⟩ := Option.bind_eq_some_iff.mp h1
    obtain ⟨p, hp, hp2⟩ := Option.bind_eq_some_iff.mp hb2
    refine lift (Tok1.pos tk) (next_item (s := { s with heap := h, toks := tk.n }) hi hc G.wr fun wv h' tk' hv hi' hsb htk => ?_)
    obtain ⟨o', eo', hd'⟩ := hi'.obj
    have G' : Good hT σ₀ κ ω ρ W env b σ H h' := Good.iter (s := { s with heap := h, toks := tk.n }) G hsb eo hd ⟨o', eo'⟩ hitW hitL hitC hitT
    have ex' : Ext W b σs hs σ h' := ⟨ex.pre, fun a q e => by
        obtain ⟨o2, e2⟩ := ex.there a q e
        exact there_same hsb eo' a o2 e2, fun a q e hw hdr => (hsb.2 a fun q' => by subst q'; rw [hits] at e; cases e).trans (ex.keep a q e hw hdr)⟩
    dsimp only
    refine wpAny_bind (owned_ok (s := { s with heap := h', toks := tk' }) hi' (wpAny_bind (lift htk (assign_ok (s := { s with heap := h', toks := tk' }) hb room.hh G' hv fun h2' tk2 G2 e2 ht2 => ?_))))
    have hi2 := wpAny_keepIt hi' G'.wr e2 G'.env.wobj hitW
    refine wpAny_bind (ifs_ok (s := { s with heap := h2', toks := tk2 }) RT room _ (fun _ => rfl) (fun _ => rfl) hp G2 fun h3 tk3 σ3 wr3 e3 => ?_)
    have G3 := G2.step wr3 e3
    have hi3 := wpAny_keepIt hi2 G2.wr e3.nil G2.env.wobj hitW
    have hr3 : σ3[acc]? = some r := getElem?_prefix e3.prefix hr
    -- behind the turn
    have again : ∀ {h4 : Heap} {tk4 : Tok1 z} {σ4 : List Addr} {E' : Value → Shared → Prop}, Good hT σ₀ κ ω ρ2 W env b σ4 H1 h4 → Ext W b σ3 h3 σ4 h4 → wpAny (model prog w) A (again (.compLoop (.ListComp elt gens scope pos) depth (.ref it) (.ref r) env)) (fun fin s' => match fin with
        | .done f => RR (.ok f) s'
        | .again c' => (c' = .compLoop (.ListComp elt gens scope pos) depth (.ref it) (.ref r) env ∧ ∃ m, m < (x :: xs).length ∧ ∃ items H σ h, ∃ tk : Tok1 z, m = items.length ∧ s' = { s with heap := h, toks := tk.n } ∧ loopL c all (turnF g rec recT ω elt acc κ g1 rest ρ) items H = some H' ∧
          Good hT σ₀ κ ω ρ W env b σ H h ∧ It σ h it c all items ∧ Ext W b σs hs σ h ∧ σ[acc]? = some r) ∨ (c'.quiet = true ∧ codeAny (model prog w) A c' RR s')) E' { s with heap := h4, toks := tk4.n } := by
      intro h4 tk4 σ4 E' G4 e4
      have hi4 := wpAny_keepIt hi3 G3.wr e4 G3.env.wobj hitW
      exact wpAny_pure (.inl ⟨rfl, xs.length, by simp, xs, H1, σ4, h4, tk4, rfl, rfl, h2, G4.weaken (fresh_sub hfr hb), hi4, ((ex'.trans e2).trans e3.nil).trans e4, getElem?_prefix e4.prefix hr3⟩)
    cases hpt : p.1 with
    | false =>
      rw [hpt] at hp2
      simp only [Bool.false_eq_true, if_false] at hp2 ⊢
      cases hp2
      exact again G3 (Ext.refl ..)
    | true =>
      rw [hpt] at hp2
      simp only [if_true] at hp2 ⊢
      rw [hg2]
      have key := hin (tk3 := tk3) (E' := notedBy (model prog w) A env fun e s' => RR (.error e) s') hp2 G3 hr3 fun h4 tk4 σ4 G4 e4 => again G4 e4
      revert key
      unfold inner
      generalize rest.head? = q
      intro key
      cases q <;> exact key

theorem comp_loop (B : Base prog w hT σ₀ n g) (R : RecOK z prog w hT σ₀ b n rec) (RT : RecTOK z prog w hT σ₀ b n recT) (room : Room A n) (hacc : b ≤ acc) :
    ∀ (rest : List Comprehension) {depth : Nat} {g1 : Comprehension} {ρ : Rho} {it : Addr} {c : Option Nat} {all items : List V} {H H' : Hp} {σ σs : List Addr} {h hs : Heap} {s : Shared} {tk : Tok1 z} {RR : Result → Shared → Prop},
      gens.drop depth = g1 :: rest → g1.is_async = 0 → freshT g1.target ρ = true → it ∉ W → it ≠ env.locals → (∀ x c, (κ x = some .cell ∨ κ x = some .free) → env.cells.lookup x = some c → it ≠ c) → hT.get? it = none → hs.get? it = none →
      loopL c all (turnF g rec recT ω elt acc κ g1 rest ρ) items H = some H' → Good hT σ₀ κ ω ρ W env b σ H h → It σ h it c all items → Ext W b σs hs σ h → σ[acc]? = some r →
      (∀ h' (tk : Tok1 z) σ', Good hT σ₀ κ ω ρ W env b σ' H' h' → Ext W b σs hs σ' h' → σ'[acc]? = some r → RR (.ok .next) { s with heap := h', toks := tk.n }) →
      codeAny (model prog w) A (.compLoop (.ListComp elt gens scope pos) depth (.ref it) (.ref r) env) RR { s with heap := h, toks := tk.n } := by
  intro rest
  induction rest with
  | nil =>
    intro depth g1 ρ it c all items H H' σ σs h hs s tk RR hdrop has hfr hitW hitL hitC hitT hits he G hi ex hr k
    refine comp_level B R RT room [] ?_ hdrop has hfr hitW hitL hitC hitT hits he G hi ex hr k
    intro ρ2 H2 H1 σ3 h3 tk3 Q E' kt hcg G3 hr3 k3
    unfold cgo at hcg
    obtain ⟨p, h1, he1⟩ := Option.bind_eq_some_iff.mp hcg
    unfold inner
    simp only [List.head?_nil]
    refine wpAny_bind (wpAny_bind (R.ok elt κ ρ2 H2 p.1 p.2 h1 A ω W env σ3 _ _ _ room G3 fun w4 h4 tk4 σ4 wr4 v4 e4 => ?_))
    have G4 := G3.step wr4 e4
    refine wpAny_bind (append_ok (s := { s with heap := h4, toks := tk4.n }) he1 hacc (getElem?_prefix e4.prefix hr3) v4 wr4 G4.above fun h5 wr5 e5 => wpAny_pure ?_)
    exact k3 h5 tk4 σ4 (G4.step wr5 e5) (e4.trans e5).nil
  | cons g2 rest2 ih =>
    intro depth g1 ρ it c all items H H' σ σs h hs s tk RR hdrop has hfr hitW hitL hitC hitT hits he G hi ex hr k
    refine comp_level B R RT room (g2 :: rest2) ?_ hdrop has hfr hitW hitL hitC hitT hits he G hi ex hr k
    intro ρ2 H2 H1 σ3 h3 tk3 Q E' kt hcg G3 hr3 k3
    unfold cgo at hcg
    split at hcg
    · rename_i hc2
      obtain ⟨q, h1, he1⟩ := Option.bind_eq_some_iff.mp hcg
      obtain ⟨⟨items2, c2⟩, H4⟩ := q
      obtain ⟨hg1, hg2, hg3⟩ := drop_next hdrop
      have hns : notSet g2.iter = true := by
        unfold evIter at h1
        split at h1
        · rename_i q; exact q
        · cases h1
      have hb0 : (g2.is_async != 0) = false := by rw [hc2.1]; rfl
      unfold inner
      simp only [List.head?_cons]
      rw [hb0]
      simp only [Bool.false_eq_true, if_false]
      refine wpAny_bind (wpAny_mono (evIter_ok (s := { s with heap := h3, toks := tk3.n }) B R room h1 G3 fun it2 h4 tk4 σ4 wr4 hi4 e4 hf4 => ?_) (fun x s₁ hx => wpAny_bind (wpAny_standAt (wpAny_bind (wpAny_of_eq (notSet_folded hns x) (wpAny_bind (wpAny_holding hx)))))) fun _ _ q => q)
      have G4 := G3.step wr4 e4
      have hnew : ∀ a' o, h3.get? a' = some o → it2 ≠ a' := fun a' o e q => by
        have hf4' : h3.get? it2 = none := hf4
        rw [← q, hf4'] at e; cases e
      refine wpAny_bind (wpAny_runOwn (compStart_ok ⟨_, _, _, _, rfl⟩ ?_ hi4 ?_))
      · show ((gens)[depth + 1]?).elim false (·.is_async != 0) = false
        rw [hg2]; exact hb0
      · refine ih hg3 hc2.1 hc2.2 ?_ ?_ ?_ ?_ (hs := h3) (σs := σ3) hf4 he1 G4 hi4 e4.nil (getElem?_prefix e4.prefix hr3) fun h5 tk5 σ5 G5 e5 _ => ?_
        · intro hw
          obtain ⟨o, e, _⟩ := G3.env.wobj it2 hw
          have hf4' : h3.get? it2 = none := hf4
          rw [hf4'] at e; cases e
        · obtain ⟨m, ⟨o, _, _, e, _⟩, _⟩ := G3.env.ns
          exact hnew _ o e
        · intro x c' hk hx
          obtain ⟨c3, v₀, e1, ⟨o, e2, _⟩, _⟩ := G3.env.cell x hk
          rw [hx] at e1; cases e1
          exact hnew _ o e2
        · exact none_top G3.wr.top hf4
        · exact k3 h5 tk5 σ5 G5 e5
    · cases hcg
end
end Mine
end

section
set_option autoImplicit false
set_option maxRecDepth 100000
namespace Mine
open PySem PyProof.Rows
section
variable {z : Nat} {prog : Program} {w : World} {hT : Heap} {σ₀ : List Addr} {b n : Nat} {g : Glob} {A : Around} {E : Value → Shared → Prop} {s : Shared} {σ : List Addr} {H : Hp} {κ : Kap} {ω : Str → Bool} {ρ : Rho} {W : List Addr} {env : Env}

theorem freeOk_kind {scope : Scope} (h : freeOk scope κ = true) : scope.kind = .function := by
  unfold freeOk at h
  simp only [Bool.and_eq_true, beq_iff_eq] at h
  exact h.1
theorem freeOk_mem {scope : Scope} (h : freeOk scope κ = true) {x : Str} {k : NameKind} (hm : (x, k) ∈ scope.names) : scope.names.lookup x = some k ∧ (k = .free → κ x = some .cell ∨ κ x = some .free) := by
  unfold freeOk at h
  simp only [Bool.and_eq_true] at h
  have := List.all_eq_true.mp h.2 _ hm
  simp only [Bool.and_eq_true, beq_iff_eq, Bool.or_eq_true, bne_iff_ne, ne_eq] at this
  exact ⟨this.1, fun e => by rcases this.2 with q | q; exact (q e).elim; exact q⟩

theorem compScope_kind {scope : Scope} (hfn : env.scope.kind = .function) (hk : ∀ x, env.kindOf x = κ x) (x : Str) : (compScope scope env).names.lookup x = compKap scope κ x := by
  have e : (compScope scope env).names = scope.names.map fun p => (p.1, if p.2 == .free && env.scope.kind == .function && env.kindOf p.1 == some .cell then NameKind.cell else p.2) := by
    unfold compScope
    dsimp only
    congr 1
    funext p
    obtain ⟨y, k⟩ := p
    dsimp only
    split <;> rfl
  rw [e, lookup_map_kind (fun y k => if k == .free && env.scope.kind == .function && env.kindOf y == some .cell then NameKind.cell else k), hfn]
  unfold compKap
  cases hl : scope.names.lookup x with
  | none => rfl
  | some k =>
    cases k <;> simp [hk]
    split <;> rfl

/-- the frame of a comprehension, new-made -/
theorem comp_frame {scope : Scope} {h : Heap} (G : Good hT σ₀ κ ω ρ W env b σ H h) (hf : freeOk scope κ = true) :
    Good hT σ₀ (compKap scope κ) (ownName scope) (fun y => if ownName scope y then none else ρ y) (h.objs.size :: (cellsFrom (h.objs.size + 1) scope.names []).map (·.2))
      { scope := compScope scope env, locals := h.objs.size, globals := env.globals, cells := cellsFrom (h.objs.size + 1) scope.names (closOf env.cells scope.names []), qual := env.qual, func := none, code := env.code, frame := env.frame, builtins := env.builtins }
      b σ H (pushCells (h.push { cls := .type "dict", data := .dict #[] }) scope.names) := by
  have hfn := freeOk_kind hf
  have hk : ∀ a o, h.get? a = some o → (pushCells (h.push { cls := .type "dict", data := .dict #[] }) scope.names).get? a = some o := fun a o e => pushCells_keeps _ _ _ _ (Heap.get?_push_of_some _ e)
  have tu : Tups h (pushCells (h.push { cls := .type "dict", data := .dict #[] }) scope.names) := Tups.keeps hk
  have ok := cellsFrom_ok scope.names (h.push { cls := .type "dict", data := .dict #[] }) (h.objs.size + 1) [] ⟨fun _ _ hm => (nomatch hm), List.Pairwise.nil⟩ (by rw [Heap.size_push]; exact Nat.le_refl _)
  rw [Heap.size_push] at ok
  rw [cells_append scope.names (h.objs.size + 1) (closOf env.cells scope.names [])]
  generalize hown : cellsFrom (h.objs.size + 1) scope.names [] = own at ok
  have hNs : (pushCells (h.push { cls := .type "dict", data := .dict #[] }) scope.names).Ns h.objs.size fun _ => none := (Heap.Ns.new h (.type "dict")).keeps (pushCells_keeps _ _)
  have hclo : ∀ x c, (x, c) ∈ closOf env.cells scope.names [] → scope.names.lookup x = some .free ∧ env.cells.lookup x = some c ∧ ∃ v₀, h.IsCell c v₀ ∧ ∀ v, ρ x = some v → ∃ wv, v₀ = some wv ∧ VR σ h v wv := fun x c hm => by
    rcases clos_mem hm with q | ⟨q1, q2⟩
    · cases q
    · obtain ⟨e1, e2⟩ := freeOk_mem hf q1
      obtain ⟨c', v₀, f1, f2, f3⟩ := G.env.cell x (e2 rfl)
      rw [f1] at q2
      cases q2
      exact ⟨e1, f1, v₀, f2, f3⟩
  have hownk : ∀ x c, (x, c) ∈ own → scope.names.lookup x = some .cell := fun x c hm => by
    rw [← hown] at hm
    rcases cells_kind hm with q | q
    · cases q
    · exact (freeOk_mem hf q).1
  have hcells : ∀ x c, (own ++ closOf env.cells scope.names []).lookup x = some c → (x, c) ∈ own ∨ (own.lookup x = none ∧ (x, c) ∈ closOf env.cells scope.names []) := fun x c e => by
    rw [List.lookup_append] at e
    cases q : own.lookup x with
    | some c' => rw [q] at e; cases e; exact .inl (mem_of_lookup q)
    | none => rw [q] at e; exact .inr ⟨rfl, mem_of_lookup e⟩
  refine ⟨⟨G.wr.len, fun a xs r e1 e2 => let ⟨arr, p, q, l⟩ := G.wr.obj a xs r e1 e2; ⟨arr, p.at fun o e => hk _ _ e, q.mono (prefix_same _) tu, l⟩, G.wr.nodup, fun a o e => hk _ _ (G.wr.top a o e)⟩,
    ⟨hfn, fun x => compScope_kind G.env.fn G.env.kind x, G.env.glob, G.env.blt, ⟨_, hNs, fun x v hx hv => ?_⟩, fun x hx => ?_, fun x y c h1 h2 => ?_, fun x hx => ?_, List.mem_cons_self, fun a ha => ?_⟩, G.base, G.above, fun a ha => ?_, G.tab⟩
  · -- a local of its own is not bound yet
    have hl : scope.names.lookup x = some .local := by
      unfold compKap at hx
      split at hx
      · split at hx <;> cases hx
      · exact hx
    have : ownName scope x = true := by unfold ownName; rw [hl]; rfl
    rw [if_pos this] at hv; cases hv
  · cases hl : scope.names.lookup x with
    | none => unfold compKap at hx; rw [hl] at hx; rcases hx with q | q <;> cases q
    | some k =>
      by_cases hc : k = .cell
      · subst hc
        have hs := cells_has scope.names (h.objs.size + 1) [] (x := x) (.inr (mem_of_lookup hl))
        rw [hown] at hs
        obtain ⟨c, e⟩ := Option.isSome_iff_exists.mp hs
        refine ⟨c, none, by show (own ++ _).lookup x = _; rw [List.lookup_append, e]; rfl, (ok.empty x c (mem_of_lookup e)).1, fun v hv => ?_⟩
        have : ownName scope x = true := by unfold ownName; rw [hl]; rfl
        rw [if_pos this] at hv; cases hv
      · by_cases hfr : k = .free
        · subst hfr
          have hs := clos_has (cells := env.cells) scope.names [] (x := x) (.inr (mem_of_lookup hl))
          obtain ⟨c, e⟩ := Option.isSome_iff_exists.mp hs
          have hno : own.lookup x = none := by
            cases q : own.lookup x with
            | none => rfl
            | some c' => have := hownk x c' (mem_of_lookup q); rw [hl] at this; cases this
          obtain ⟨_, f1, v₀, f2, f3⟩ := hclo x c (mem_of_lookup e)
          refine ⟨c, v₀, by show (own ++ _).lookup x = _; rw [List.lookup_append, hno]; exact e, f2.keeps hk, fun v hv => ?_⟩
          have : ownName scope x = false := by unfold ownName; rw [hl]; rfl
          rw [this] at hv
          obtain ⟨wv, g1, g2⟩ := f3 v hv
          exact ⟨wv, g1, g2.mono (prefix_same _) tu⟩
        · unfold compKap at hx
          rw [hl] at hx
          cases k <;> simp at hx hc hfr
  · rcases hcells x c h1 with q1 | ⟨_, q1⟩ <;> rcases hcells y c h2 with q2 | ⟨_, q2⟩
    · exact name_of_addr ok.apart q1 q2
    · obtain ⟨_, _, v₀, f2, _⟩ := hclo y c q2
      have := f2.lt
      have := (ok.empty x c q1).2
      exact absurd f2.lt (Nat.not_lt.mpr (Nat.le_of_succ_le this))
    · obtain ⟨_, _, v₀, f2, _⟩ := hclo x c q1
      have := (ok.empty y c q2).2
      exact absurd f2.lt (Nat.not_lt.mpr (Nat.le_of_succ_le this))
    · obtain ⟨_, f1, _⟩ := hclo x c q1
      obtain ⟨_, f2, _⟩ := hclo y c q2
      exact G.env.inj x y c f1 f2
  · unfold ownName at hx
    simp only [Bool.or_eq_true, beq_iff_eq] at hx
    rcases hx with q | q
    · exact .inl (by unfold compKap; rw [q])
    · refine .inr ⟨by unfold compKap; rw [q], fun c e => List.mem_cons_of_mem _ ?_⟩
      rcases hcells x c e with q1 | ⟨q0, q1⟩
      · exact List.mem_map.mpr ⟨_, q1, rfl⟩
      · obtain ⟨f0, _⟩ := hclo x c q1
        rw [q] at f0; cases f0
  · rcases List.mem_cons.mp ha with q | q
    · obtain ⟨o, es, ep, e1, e2, _⟩ := hNs
      exact ⟨o, by rw [q]; exact e1, by rw [e2]; intro _ _ e; cases e⟩
    · obtain ⟨p, hp, rfl⟩ := List.mem_map.mp q
      obtain ⟨o, e1, e2⟩ := (ok.empty p.1 p.2 hp).1
      exact ⟨o, e1, by rw [e2]; intro _ _ e; cases e⟩
  · refine none_top G.wr.top (get_ge ?_)
    rcases List.mem_cons.mp ha with q | q
    · rw [q]; exact Nat.le_refl _
    · obtain ⟨p, hp, rfl⟩ := List.mem_map.mp q
      exact Nat.le_of_succ_le (ok.empty p.1 p.2 hp).2

theorem it_no_cell {it : Addr} {c : Option Nat} {all rest : List V} {h : Heap} {o : Obj} {v₀ : Option Value} (x : It σ h it c all rest) (e : h.get? it = some o) (hd : o.data = .cell v₀) : False := by
  cases x with
  | list _ q => obtain ⟨o', a, _, d⟩ := q; rw [e] at a; cases a; rw [hd] at d; cases d
  | tuple _ _ q => obtain ⟨o', a, _, d⟩ := q; rw [e] at a; cases a; rw [hd] at d; cases d
  | str _ q => obtain ⟨o', a, _, d⟩ := q; rw [e] at a; cases a; rw [hd] at d; cases d
  | range q =>
    have q' : h.get? it = some _ := q
    rw [e] at q'; cases q'; cases hd

theorem comp_gen {rec : Rec} {recT : RecT} (B : Base prog w hT σ₀ n g) (R : RecOK z prog w hT σ₀ b n rec) (RT : RecTOK z prog w hT σ₀ b n recT) (room : Room A n) {elt : Expr} {gens : List Comprehension} {scope : Scope} {pos p0 : Pos} {v : V} {H' : Hp} {Q : Value → Shared → Prop} {use : Option (Value → Sem Unit)}
    (he : evComp g rec recT elt gens scope κ ρ H = some (v, H')) (G : Good hT σ₀ κ ω ρ W env b σ H s.heap)
    (hend : ∀ r h' (tk : Tok1 z) σ' L m, WR hT σ' H' h' → VR σ' h' v (.ref r) → Ext [] b σ s.heap σ' h' → s.heap.get? L = none → h'.Ns L m →
      match use with
      | none => ∀ h3 m3, h3.Ns L m3 → Heap.SameBut L h' h3 → Q (.ref r) { s with heap := h3, toks := tk.n }
      | some u => wpAny (model prog w) A (u (.ref r)) (fun _ s2 => ∃ m2, s2.heap.Ns L m2 ∧ ∀ h3 m3, h3.Ns L m3 → Heap.SameBut L s2.heap h3 → Q .none { s2 with heap := h3 }) E { s with heap := h', toks := tk.n }) (ht : z ≤ s.toks := by first | assumption | exact Tok1.pos _ | exact Nat.zero_le _) :
    wpAny (model prog w) A (comprehension (.ListComp elt gens scope pos) scope env p0 (newList []) (firstAsync gens) (firstIter gens env) use) Q E s := by
  unfold evComp at he
  split at he
  · cases he
  · rename_i g1 rest
    split at he
    · rename_i hc
      obtain ⟨hc1, hc2, hc3⟩ := hc
      obtain ⟨q, h1, he1⟩ := Option.bind_eq_some_iff.mp he
      obtain ⟨Hl, h2, he2⟩ := Option.map_eq_some_iff.mp he1
      obtain ⟨⟨items, c⟩, H1⟩ := q
      cases he2
      obtain ⟨t, iter, ifs, a⟩ := g1
      simp only at hc1 hc3 h1 h2
      subst hc1
      have hns : notSet iter = true := by
        unfold evIter at h1
        split at h1
        · rename_i q; exact q
        · cases h1
      have hfn := freeOk_kind hc2
      show wpAny _ _ (comprehension (.ListComp elt (⟨t, iter, ifs, 0⟩ :: rest) scope pos) scope env p0 (newList []) false (eval iter env) use) _ _ _
      refine comp_rule rfl (notSet_folded hns) hfn (fun x hx hl => ?_) ?_
      · rw [compScope_kind G.env.fn G.env.kind]
        have := (freeOk_mem hc2 (x := x.1) (k := x.2) hx).1
        unfold compKap
        rw [this, hl]
      refine evIter_ok B R room h1 G fun it h' tk σ1 wr1 hi e1 hfr => ?_
      have G1 := G.step wr1 e1
      refine wpAny_newList (items := []) ?_
      have wr2 := wr1.pushL (xs := []) (arr := #[]) 0 .nil (by simp)
      have e2 : Ext [] b σ1 h' (σ1 ++ [h'.objs.size]) (h'.push { cls := .type "list", data := .seq #[] 0 }) := Ext.pushL ..
      have G2 := G1.step wr2 e2
      have e12 := e1.trans e2
      generalize hh2 : h'.push { cls := .type "list", data := .seq #[] 0 } = h2' at wr2 e2 G2 e12
      show wpAny _ _ (closureFor scope env) _ _ { s with heap := h2', toks := tk.n }
      refine closure_ok (s := { s with heap := h2', toks := tk.n }) (fun p hp hfree => ?_) ?_
      · obtain ⟨_, f⟩ := freeOk_mem hc2 (x := p.1) (k := p.2) hp
        obtain ⟨c', _, f1, _⟩ := G.env.cell p.1 (f hfree)
        rw [f1]; rfl
      refine newEnv_ok (s := { s with heap := h2', toks := tk.n }) ?_
      have GI := comp_frame G2 hc2
      dsimp only at GI ⊢
      generalize hown : cellsFrom (h2'.objs.size + 1) scope.names [] = own at GI
      generalize hcenv : cellsFrom (h2'.objs.size + 1) scope.names (closOf env.cells scope.names []) = cs at GI ⊢
      generalize hh3 : pushCells (h2'.push { cls := .type "dict", data := .dict #[] }) scope.names = h3 at GI ⊢
      have hk23 : ∀ a o, h2'.get? a = some o → h3.get? a = some o := fun a o e => by rw [← hh3]; exact pushCells_keeps _ _ _ _ (Heap.get?_push_of_some _ e)
      have e3 : Ext [] b (σ1 ++ [h'.objs.size]) h2' (σ1 ++ [h'.objs.size]) h3 := ⟨⟨[], by simp, by simp⟩, fun a o e => ⟨o, hk23 a o e⟩, fun a o e _ _ => hk23 a o e⟩
      have e13 := e12.trans e3
      have hWnew : ∀ a ∈ h2'.objs.size :: own.map (·.2), h2'.get? a = none := fun a ha => get_ge (by
        rcases List.mem_cons.mp ha with q | q
        · rw [q]; exact Nat.le_refl _
        · obtain ⟨p, hp, rfl⟩ := List.mem_map.mp q
          have ok := cellsFrom_ok scope.names (h2'.push { cls := .type "dict", data := .dict #[] }) (h2'.objs.size + 1) [] ⟨fun _ _ hm => (nomatch hm), List.Pairwise.nil⟩ (by rw [Heap.size_push]; exact Nat.le_refl _)
          rw [Heap.size_push, hown] at ok
          exact Nat.le_of_succ_le (ok.empty p.1 p.2 hp).2)
      have hi3 : It (σ1 ++ [h'.objs.size]) h3 it c items items := hi.keep (List.prefix_append _ _) ((e2.tups wr1).trans (e3.tups wr2)) fun o e => hk23 _ _ (by rw [← hh2]; exact Heap.get?_push_of_some _ e)
      obtain ⟨oi, eoi, hdi⟩ := hi.obj
      have eoi2 : h2'.get? it = some oi := by rw [← hh2]; exact Heap.get?_push_of_some _ eoi
      have hitW : it ∉ h2'.objs.size :: own.map (·.2) := fun q => by have := hWnew it q; rw [eoi2] at this; cases this
      have hacc : b ≤ H1.length := G1.base
      refine compStart_ok (s := { s with heap := h3, toks := tk.n }) ⟨_, _, _, _, rfl⟩ rfl hi3 ?_
      refine comp_loop (env := { scope := compScope scope env, locals := h2'.objs.size, globals := env.globals, cells := cs, qual := env.qual, func := none, code := env.code, frame := env.frame, builtins := env.builtins })
        (W := h2'.objs.size :: own.map (·.2)) (κ := compKap scope κ) (ω := ownName scope) (acc := H1.length) (r := h'.objs.size) B R RT room hacc rest (depth := 0) (g1 := ⟨t, iter, ifs, 0⟩) (hs := s.heap) (σs := σ) rfl rfl hc3 hitW ?_ ?_ (none_top G.wr.top hfr) hfr h2 GI hi3 e13.nil ?_ ?_
      · exact fun q => hitW (by rw [q]; exact List.mem_cons_self)
      · intro x c' hx hl q
        obtain ⟨c2, v₀, f1, f2, _⟩ := GI.env.cell x hx
        rw [hl] at f1
        cases f1
        obtain ⟨oc, g1, g2⟩ := f2
        rw [← q, hk23 _ _ eoi2] at g1
        cases g1
        -- the iterator is no cell
        exact it_no_cell hi eoi g2
      · rw [← wr1.len]; simp
      · intro h4 tk4 σ4 G4 e4 hr4
        obtain ⟨m, hm, _⟩ := G4.env.ns
        refine ⟨m, hm, ?_⟩
        have hsn : ∀ a ∈ h2'.objs.size :: own.map (·.2), s.heap.get? a = none := fun a ha => fresh_of e12 (hWnew a ha)
        have e4' : Ext [] b σ s.heap σ4 h4 := e4.weaken fun a o e q => by rw [hsn a q] at e; cases e
        have hv4 : VR σ4 h4 (.ref H1.length) (.ref h'.objs.size) := .ref hr4
        have := hend h'.objs.size h4 tk4 σ4 h2'.objs.size m G4.wr hv4 e4' (hsn _ List.mem_cons_self) hm
        cases use with
        | none => exact this
        | some u => exact this
    · cases he

theorem comp_ok {rec : Rec} {recT : RecT} (B : Base prog w hT σ₀ n g) (R : RecOK z prog w hT σ₀ b n rec) (RT : RecTOK z prog w hT σ₀ b n recT) (room : Room A n) {elt : Expr} {gens : List Comprehension} {scope : Scope} {pos : Pos} {v : V} {H' : Hp} {Q : Value → Shared → Prop}
    (he : evComp g rec recT elt gens scope κ ρ H = some (v, H')) (G : Good hT σ₀ κ ω ρ W env b σ H s.heap) (k : KontT z hT b σ v H' Q s) (ht : z ≤ s.toks := by first | assumption | exact Tok1.pos _ | exact Nat.zero_le _) : wpAny (model prog w) A (eval (.ListComp elt gens scope pos) env) Q E s := by
  rw [eval_ListComp]
  refine comp_gen B R RT room he G fun r h' tk σ' L m wr' hv ex hL hm => ?_
  intro h3 m3 hm3 hs
  obtain ⟨o, es, ep, e1, e2, _⟩ := hm
  have hds : ∀ arr n, o.data ≠ .seq arr n := by rw [e2]; intro _ _ e; cases e
  obtain ⟨o3, es3, ep3, f1, _⟩ := hm3
  have tu := tups_same hs e1 hds
  refine k _ h3 tk σ' (wr'.other hs e1 hds (none_top G.wr.top hL)) (hv.mono (prefix_same _) tu) ⟨ex.pre, fun a oa e => ?_, fun a oa e hw hdr => ?_⟩
  · obtain ⟨o2, g2⟩ := ex.there a oa e
    exact there_same hs f1 a o2 g2
  · exact (hs.2 a fun q => by subst q; rw [hL] at e; cases e).trans (ex.keep a oa e hw hdr)

theorem comp_use {rec : Rec} {recT : RecT} (B : Base prog w hT σ₀ n g) (R : RecOK z prog w hT σ₀ b n rec) (RT : RecTOK z prog w hT σ₀ b n recT) (room : Room A n) {elt : Expr} {gens : List Comprehension} {scope : Scope} {pos : Pos} {v : V} {H' : Hp} {x : Str} {xp : Pos} {Q : Unit → Shared → Prop}
    (he : evComp g rec recT elt gens scope κ ρ H = some (v, H')) (hω : ω x = true) (G : Good hT σ₀ κ ω ρ W env b σ H s.heap)
    (k : ∀ h' (tk : Tok1 z) σ', Good hT σ₀ κ ω (upd ρ x v) W env b σ' H' h' → Ext W b σ s.heap σ' h' → Q () { s with heap := h', toks := tk.n }) (ht : z ≤ s.toks := by first | assumption | exact Tok1.pos _ | exact Nat.zero_le _) :
    wpAny (model prog w) A (evalThenUse (.ListComp elt gens scope pos) env fun v => assignAll v ((assignEach [.Name x xp] env).map (·.2))) Q E s := by
  show wpAny _ _ (comprehension (.ListComp elt gens scope pos) scope env (firstIterPos gens pos) (newList []) (firstAsync gens) (firstIter gens env) (some fun v => assign (.Name x xp) env v) >>= fun _ => pure ()) _ _ _
  refine wpAny_bind (comp_gen B R RT room he G fun r h' tk σ' L m wr' hv ex hL hm => ?_)
  dsimp only
  have G' := G.step wr' ex
  refine wpAny_assign_Name (lift (Tok1.pos tk) (store_ok (s := { s with heap := h', toks := tk.n }) hω G' hv fun h4 tk4 G4 e4 ht4 => ?_))
  have hLW : L ∉ W := fun q => by
    obtain ⟨o, e, _⟩ := G.env.wobj L q
    rw [hL] at e; cases e
  obtain ⟨o, es, ep, e1, e2, e3⟩ := hm
  have hds : ∀ arr n, o.data ≠ .seq arr n := by rw [e2]; intro _ _ e; cases e
  have hL4 : h4.get? L = some o := e4.keep L o e1 hLW fun q => wr'.not_of_data e1 hds (List.mem_of_mem_drop q)
  refine ⟨m, ⟨o, es, ep, hL4, e2, e3⟩, fun h5 m5 hm5 hs5 => wpAny_pure ?_⟩
  obtain ⟨o5, es5, ep5, f1, _⟩ := hm5
  have hnew : ∀ a' o, s.heap.get? a' = some o → L ≠ a' := fun a' o e q => by rw [← q, hL] at e; cases e
  refine k h5 ⟨tk4, ht4⟩ σ' (Good.iter (s := { s with heap := h4, toks := tk4 }) G4 hs5 hL4 hds ⟨o5, f1⟩ hLW ?_ ?_ (none_top G.wr.top hL)) ⟨?_, fun a oa e => ?_, fun a oa e hw hdr => ?_⟩
  · obtain ⟨m', ⟨oL, _, _, q, _⟩, _⟩ := G.env.ns
    exact hnew _ oL q
  · intro y c hk hy
    obtain ⟨c2, v₀, f1, ⟨oc, f2, _⟩, _⟩ := G.env.cell y hk
    rw [hy] at f1; cases f1
    exact hnew _ oc f2
  · exact (ex.nil.trans e4).pre
  · obtain ⟨o2, g2⟩ := (ex.nil.trans e4).there a oa e
    exact there_same hs5 f1 a o2 g2
  · exact (hs5.2 a fun q => by subst q; rw [hL] at e; cases e).trans ((ex.nil.trans e4).keep a oa e hw hdr)
end
end Mine
end

section
set_option autoImplicit false
set_option maxRecDepth 100000
namespace Mine
open PySem PyProof.Rows
section
variable {z : Nat} {prog : Program} {w : World} {hT : Heap} {σ₀ : List Addr} {b n : Nat} {g : Glob}

theorem const_ok {A : Around} {E : Value → Shared → Prop} {s : Shared} {σ : List Addr} {H : Hp} {env : Env} {c : Const} {v : V} {Q : Value → Shared → Prop} (he : cval c = some v) (wr : WR hT σ H s.heap) (k : Kont hT b σ v H Q s) : wpAny (model prog w) A (constValue env c) Q E s := by
  cases c <;> simp [cval] at he
  · subst he; exact wpAny_pure (k.same' wr .none)
  · subst he; exact wpAny_pure (k.same' wr (.bool _))
  · subst he; exact wpAny_mkInt (k.same wr (.int _ _) _)
  · obtain ⟨h1, rfl⟩ := he; exact wpAny_mkText (k.same wr (.str _ _ h1) _)

theorem callB_bval {f : Str} {as : List V} {H : Hp} {p : V × Hp} (he : callB f as H = some p) : ∃ fv, bval f = some fv := by
  unfold callB at he
  unfold bval
  split at he
  · rename_i h; exact ⟨_, if_pos h⟩
  rename_i n1; rw [if_neg n1]
  split at he
  · rename_i h; exact ⟨_, if_pos h⟩
  rename_i n1; rw [if_neg n1]
  split at he
  · rename_i h; exact ⟨_, if_pos h⟩
  rename_i n1; rw [if_neg n1]
  split at he
  · rename_i h; exact ⟨_, if_pos h⟩
  rename_i n1; rw [if_neg n1]
  split at he
  · rename_i h; exact ⟨_, if_pos h⟩
  rename_i n1; rw [if_neg n1]
  split at he
  · rename_i h; exact ⟨_, if_pos h⟩
  rename_i n1; rw [if_neg n1]
  split at he
  · rename_i h; exact ⟨_, if_pos h⟩
  · cases he

theorem sliceOf_eq {i : Expr} {l u st : Option Expr} (h : sliceOf i = some (l, u, st)) : ∃ p, i = .Slice l u st p := by
  unfold sliceOf at h
  split at h
  · cases h; exact ⟨_, rfl⟩
  · cases h
theorem zOf_le (f : Str) : zOf f ≤ 1 := by
  unfold zOf; split <;> decide
theorem starts_fresh {e : Expr} {env : Env} {pos : Pos} {fv : Value} (h : startsConst e = true) : ∃ k, evalArgs fv true (backTo pos (starEach [e] env)) [] = Sem.fresh k := by
  unfold startsConst at h
  split at h
  · exact ⟨_, rfl⟩
  · cases h

theorem evF_ok {rec : Rec} {recT : RecT} (B : Base prog w hT σ₀ n g) (R : RecOK g.z prog w hT σ₀ b n rec) (RT : RecTOK g.z prog w hT σ₀ b n recT) : RecOK g.z prog w hT σ₀ b n (evF g b rec recT) := by
  refine ⟨?_⟩
  intro e κ ρ H v H' he A ω W env σ s Q E room G k ht
  unfold evF at he
  split at he
  · -- a constant
    obtain ⟨u, h1, h2⟩ := Option.map_eq_some_iff.mp he
    cases h2
    exact lift ht (const_ok h1 G.wr k.toK)
  · obtain ⟨u, h1, h2⟩ := Option.map_eq_some_iff.mp he
    cases h2
    exact name_ok h1 B G k
  · exact evBool_ok R room he G k
  · obtain ⟨p, h1, he1⟩ := Option.bind_eq_some_iff.mp he
    obtain ⟨q, h2, he2⟩ := Option.bind_eq_some_iff.mp he1
    refine wpAny_BinOp (R.ok _ κ ρ H p.1 p.2 h1 A ω W env σ s _ E room G fun w1 h1' tk1 σ1 wr1 v1 e1 => ?_)
    refine R.ok _ κ ρ p.2 q.1 q.2 h2 A ω W env σ1 _ _ E room (G.step wr1 e1) fun w2 h2' tk2 σ2 wr2 v2 e2 => ?_
    exact lift (Tok1.pos tk2) (binop_ok he2 (v1.after wr1 e2) v2 wr2 ((k.after (tk := tk1) e1).after (tk := tk2) e2).toK)
  · rename_i op x pos
    obtain ⟨p, h1, he1⟩ := Option.bind_eq_some_iff.mp he
    obtain ⟨u, h2, he2⟩ := Option.map_eq_some_iff.mp he1
    cases he2
    show wpAny _ _ (eval x env >>= fun v => standAt pos >>= fun _ => holding [v] (unaryOp op v)) _ _ _
    refine wpAny_bind (R.ok _ κ ρ H p.1 p.2 h1 A ω W env σ s _ E room G fun w1 h1' tk1 σ1 wr1 v1 e1 => ?_)
    exact wpAny_bind (wpAny_standAt (wpAny_holding (lift (Tok1.pos tk1) (unop_ok h2 v1 wr1 (k.after (tk := tk1) e1).toK))))
  · rename_i l ops cs pos
    obtain ⟨p, h1, he1⟩ := Option.bind_eq_some_iff.mp he
    obtain ⟨q, h2, he2⟩ := Option.map_eq_some_iff.mp he1
    cases he2
    show wpAny _ _ (eval l env >>= fun v => compareChain pos v ops (markedEach ops cs (evalEach cs env))) _ _ _
    refine wpAny_bind (R.ok _ κ ρ H p.1 p.2 h1 A ω W env σ s _ E room G fun w1 h1' tk1 σ1 wr1 v1 e1 => ?_)
    exact cmpChain_ok R room h2 v1 (G.step wr1 e1) (k.after (tk := tk1) e1)
  · -- a call
    rename_i f args kws pos
    split at he
    · split at he
      · rename_i o m ap
        split at he
        · rename_i hc
          obtain ⟨p, h1, he1⟩ := Option.bind_eq_some_iff.mp he
          split at he1
          · rename_i hm
            split at he1
            · rename_i hz
              exact replace_ok R room hz hc.1 hc.2.1 hm h1 he1 G k
            · cases he1
          · obtain ⟨q, h2, he2⟩ := Option.bind_eq_some_iff.mp he1
            exact method_ok R room hc.1 hc.2.1 hc.2.2 h1 h2 he2 G k
        · cases he
      · rename_i f p
        split at he
        · rename_i hc
          show wpAny _ _ (eval (.Name f p) env >>= fun fv => callWith pos fv [] (backTo pos (starEach args env)) []) _ _ _
          split at he
          · rename_i hfn
            split at he
            · rename_i hval
              obtain ⟨q, h1, he1⟩ := Option.bind_eq_some_iff.mp he
              obtain ⟨mg, hg, _, _, h3, _⟩ := B.gns
              obtain ⟨fa, o, fd, e1, e2, e3, FS⟩ := h3 f hfn
              have hk' : env.kindOf f = some .globalImplicit := by rw [G.env.kind]; exact hc.1
              have hd' : (f == ("__debug__" : Str)) = false := by simpa using hc.2.1
              have hg' : s.heap.Ns env.globals mg := by rw [G.env.glob]; exact hg.keeps G.wr.top
              refine wpAny_bind (Calls.Name_function_global G.env.fn hk' (Calls.loadGlobal_global hg' e1 ?_) hd')
              have fin : ∀ ws h' (tk : Tok1 g.z) σ', zOf f ≤ tk.n → WR hT σ' q.2 h' → VRs σ' h' q.1 ws → Ext [] b σ s.heap σ' h' → wpAny (model prog w) A (call (.ref fa) ws) Q E { s with heap := h', toks := tk.n } := fun ws h' tk σ' hz wr' vs' ex => by
                have G' := G.step wr' ex
                refine lift (Tok1.pos tk) (FS q.1 q.2 v H' he1 A σ' _ _ _ ws room wr' G'.tab vs' (fun w2 h2' tk2 σ2 wr2 v2 ex2 hz2 => ?_) hz)
                exact k w2 h2' ⟨tk2.n, hz2⟩ σ2 wr2 v2 (ex.trans (ex2.base G'.base))
              have hval2 := hval.2
              unfold tokOk at hval2
              simp only [Bool.or_eq_true, decide_eq_true_eq] at hval2
              rcases hval2 with hz | hz
              · refine Calls.callWith_function (o := o) (fd := fd) (args_ok R room h1 G fun ws h' tk σ' wr' vs' ex => ?_)
                exact ⟨⟨wr'.top _ _ e2, e3⟩, fin ws h' tk σ' (Nat.le_trans hz tk.pos) wr' vs' ex⟩
              · split at hz
                · rename_i e
                  refine Calls.callWith_function (o := o) (fd := fd) ?_
                  obtain ⟨kk, hkk⟩ := starts_fresh (env := env) (pos := pos) (fv := .ref fa) hz
                  refine fresh_toks hkk (args_ok R room h1 G fun ws h' tk σ' wr' vs' ex hz1 => ?_)
                  exact ⟨⟨wr'.top _ _ e2, e3⟩, fin ws h' tk σ' (Nat.le_trans (zOf_le f) hz1) wr' vs' ex⟩
                · cases hz
            · cases he
          · split at he
            · rename_i hnf hg
              obtain ⟨q, h1, he1⟩ := Option.bind_eq_some_iff.mp he
              simp only [isGlobalB, Bool.and_eq_true, beq_iff_eq, Option.isNone_iff_eq_none, Bool.not_eq_true'] at hg
              obtain ⟨fv, hb⟩ := callB_bval he1
              refine wpAny_bind (global_ok B G hc.1 hc.2.1 (.inr ⟨hg.1.2, hg.2, fv, hb, ?_⟩))
              refine callVal_ok R room (bval_kind hb) h1 G fun ws h' tk σ' wr' vs' ex => ?_
              exact lift (Tok1.pos tk) (callB_ok he1 hb room.hh vs' wr' (k.after (tk := tk) ex).toK)
            · cases he
        · cases he
      · cases he
    · cases he
  · -- a subscript
    rename_i val i pos
    split at he
    · rename_i x hsl
      obtain ⟨l, u, st⟩ := x
      obtain ⟨sp, rfl⟩ := sliceOf_eq hsl
      obtain ⟨p, h1, he1⟩ := Option.bind_eq_some_iff.mp he
      obtain ⟨q, h2, he2⟩ := Option.bind_eq_some_iff.mp he1
      obtain ⟨r, h3, he3⟩ := Option.bind_eq_some_iff.mp he2
      obtain ⟨t, h4, he4⟩ := Option.bind_eq_some_iff.mp he3
      refine Subscript_ (R.ok _ κ ρ H p.1 p.2 h1 A ω W env σ s _ E room G fun w1 h1' tk1 σ1 wr1 v1 e1 => ?_)
      have G1 := G.step wr1 e1
      refine wpAny_Slice (evOpt_ok (s := { s with heap := h1', toks := tk1.n }) R room h2 G1 fun w2 h2' tk2 σ2 wr2 v2 e2 => ?_)
      have G2 := G1.step wr2 e2
      refine evOpt_ok (s := { s with heap := h2', toks := tk2.n }) R room h3 G2 fun w3 h3' tk3 σ3 wr3 v3 e3 => ?_
      have G3 := G2.step wr3 e3
      refine evOpt_ok (s := { s with heap := h3', toks := tk3.n }) R room h4 G3 fun w4 h4' tk4 σ4 wr4 v4 e4 => ?_
      refine lift (Tok1.pos tk4) (slice_ok (b := b) (s := { s with heap := h4', toks := tk4.n }) he4 (((v1.after wr1 e2).after wr2 e3).after wr3 e4) ((v2.after wr2 e3).after wr3 e4) (v3.after wr3 e4) v4 wr4 ?_)
      exact ((((k.after (tk := tk1) e1).after (tk := tk2) e2).after (tk := tk3) e3).after (tk := tk4) e4).toK
    · rename_i hns
      · obtain ⟨p, h1, he1⟩ := Option.bind_eq_some_iff.mp he
        obtain ⟨q, h2, he2⟩ := Option.bind_eq_some_iff.mp he1
        obtain ⟨u, h3, he3⟩ := Option.map_eq_some_iff.mp he2
        cases he3
        refine Subscript_ (R.ok _ κ ρ H p.1 p.2 h1 A ω W env σ s _ E room G fun w1 h1' tk1 σ1 wr1 v1 e1 => ?_)
        refine R.ok _ κ ρ p.2 q.1 q.2 h2 A ω W env σ1 _ _ E room (G.step wr1 e1) fun w2 h2' tk2 σ2 wr2 v2 e2 => ?_
        exact lift (Tok1.pos tk2) (idx_ok h3 (v1.after wr1 e2) v2 wr2 ((k.after (tk := tk1) e1).after (tk := tk2) e2).toK)
  · obtain ⟨q, h1, he1⟩ := Option.bind_eq_some_iff.mp he
    split at he1
    · rename_i hl
      cases he1
      refine List_ (evs_ok R room h1 G fun ws h' tk σ' wr' vs' ex => ?_)
      refine wpAny_newList ?_ (by rw [← vs'.length]; exact hl)
      exact (k.after (tk := tk) ex) _ _ tk _ (wr'.pushL 0 (by simpa using vs') hl) (.ref (by rw [← wr'.len]; simp)) (Ext.pushL ..)
    · cases he1
  · obtain ⟨q, h1, he1⟩ := Option.bind_eq_some_iff.mp he
    split at he1
    · rename_i hl
      cases he1
      refine Tuple_ (evs_ok R room h1 G fun ws h' tk σ' wr' vs' ex => ?_)
      refine wpAny_newTuple ?_ (by rw [← vs'.length]; exact hl)
      have kk : ∀ a o', h'.get? a = some o' → (h'.push { cls := .type "tuple", data := .seq ws.toArray }).get? a = some o' := fun _ _ e => Heap.get?_push_of_some _ e
      refine (k.after (tk := tk) ex) _ _ tk _ (wr'.push _) (.tup (Heap.get?_push_size _ rfl) rfl rfl ?_ hl) (Ext.push ..)
      exact VRs.mono (prefix_same _) (Tups.keeps kk) (by simpa using vs')
    · cases he1
  · exact comp_ok B R RT room he G k
  · cases he
end
end Mine
end

section
set_option autoImplicit false
set_option maxRecDepth 100000
namespace Mine
open PySem PyProof.Rows
section
variable {z : Nat} {prog : Program} {w : World} {hT : Heap} {σ₀ : List Addr} {b n : Nat} {g : Glob}

theorem tstAll_ok {A : Around} {E : Value → Shared → Prop} {κ : Kap} {ω : Str → Bool} {ρ : Rho} {W : List Addr} {env : Env} {recT : RecT} (RT : RecTOK z prog w hT σ₀ b n recT) (room : Room A n) {op : BoolOp} : ∀ {es : List Expr} {t : Bool} {H H' : Hp} {σ : List Addr} {s : Shared} {Q : Bool → Shared → Prop}, tstAll recT op κ ρ es H = some (t, H') →
    Good hT σ₀ κ ω ρ W env b σ H s.heap → KontB z hT b σ t H' Q s → (ht : z ≤ s.toks := by first | assumption | exact Tok1.pos _ | exact Nat.zero_le _) → wpAny (model prog w) A (allTrue op es env) Q E s
  | [], t, H, H', σ, s, Q, he, G, k, ht => by
    simp [tstAll] at he
    obtain ⟨rfl, rfl⟩ := he
    exact wpAny_pure (k s.heap ⟨s.toks, ht⟩ σ G.wr (Ext.refl ..))
  | e :: r, t, H, H', σ, s, Q, he, G, k, ht => by
    unfold tstAll at he
    obtain ⟨p, h1, he1⟩ := Option.bind_eq_some_iff.mp he
    show wpAny _ _ (isTrue e env (eval e env) >>= fun c => match op, c with
      | .And, false => pure false
      | .Or, true => pure true
      | _, _ => allTrue op r env) _ _ _
    refine wpAny_bind (RT.ok e κ ρ H p.1 p.2 h1 A ω W env σ s _ E room G fun h' tk σ' wr' ex => ?_)
    have ih : ∀ {t}, tstAll recT op κ ρ r p.2 = some (t, H') → KontB z hT b σ t H' Q s → wpAny (model prog w) A (allTrue op r env) Q E { s with heap := h', toks := tk.n } := fun q k' => tstAll_ok RT room q (G.step wr' ex) (k'.after (tk := tk) ex)
    obtain ⟨c, Hc⟩ := p
    cases op <;> cases c <;> dsimp only at he1 ⊢
    · cases he1; exact wpAny_pure (k h' tk σ' wr' ex)
    · exact ih he1 k
    · exact ih he1 k
    · cases he1; exact wpAny_pure (k h' tk σ' wr' ex)

theorem tstF_ok {rec : Rec} {recT : RecT} (R : RecOK z prog w hT σ₀ b n rec) (RT : RecTOK z prog w hT σ₀ b n recT) : RecTOK z prog w hT σ₀ b n (tstF rec recT) := by
  refine ⟨?_⟩
  intro e κ ρ H t H' he A ω W env σ s Q E room G k ht
  unfold tstF at he
  split at he
  · rename_i op x pos
    split at he
    · rename_i ho
      obtain ⟨p, h1, he1⟩ := Option.map_eq_some_iff.mp he
      cases he1
      cases op <;> simp [isNotOp] at ho
      refine PyProof.Rows.isTrue_not (RT.ok x κ ρ H p.1 p.2 h1 A ω W env σ s _ E room G fun h' tk σ' wr' ex => ?_)
      exact k h' tk σ' wr' ex
    · cases he
  · exact tstAll_ok RT room he G k
  · rename_i l ops cs pos
    obtain ⟨p, h1, he1⟩ := Option.bind_eq_some_iff.mp he
    show wpAny _ _ (eval l env >>= fun v => testChain pos v ops (markedEach ops cs (evalEach cs env))) _ _ _
    refine wpAny_bind (R.ok _ κ ρ H p.1 p.2 h1 A ω W env σ s _ E room G fun w1 h1' tk1 σ1 wr1 v1 e1 => ?_)
    exact testChain_ok R room he1 v1 (G.step wr1 e1) (k.after (tk := tk1) e1)
  · cases he
  · rename_i n1 n2 n3 n4
    obtain ⟨p, h1, he1⟩ := Option.bind_eq_some_iff.mp he
    obtain ⟨c, h2, he2⟩ := Option.map_eq_some_iff.mp he1
    cases he2
    refine PyProof.Rows.isTrue_plain (R.ok e κ ρ H p.1 p.2 h1 A ω W env σ s _ E room G fun w1 h1' tk1 σ1 wr1 v1 e1 => truthV_ok h2 v1 (k _ _ _ wr1 e1)) ?_
    cases e <;> first | rfl | (exact (n1 _ _ _ rfl).elim) | (exact (n2 _ _ _ rfl).elim) | (exact (n3 _ _ _ _ rfl).elim) | (exact (n4 _ _ _ _ rfl).elim)

theorem evT_ok (B : Base prog w hT σ₀ n g) : ∀ m : Nat, RecOK g.z prog w hT σ₀ b n (evT g b m).1 ∧ RecTOK g.z prog w hT σ₀ b n (evT g b m).2
  | 0 => ⟨⟨fun e κ ρ H v H' he => by simp [evT] at he⟩, ⟨fun e κ ρ H v H' he => by simp [evT] at he⟩⟩
  | m + 1 => ⟨evF_ok B (evT_ok B m).1 (evT_ok B m).2, tstF_ok (evT_ok B m).1 (evT_ok B m).2⟩

theorem swaps_not {e : Expr} {t : Option Expr} {l : Nat} {env : Env} (h : notComp e = true) : swapsWith e t l env = pure false := by
  cases e <;> first | rfl | (simp [notComp] at h)

theorem not_interactive {env : Env} (h : env.scope.kind = .function) : interactive env = false := by
  unfold interactive; rw [h]; rfl

theorem isComp {e : Expr} (h : notComp e = false) {rec : Rec} {recT : RecT} {κ : Kap} {ρ : Rho} {H : Hp} {p : V × Hp} (he : evF g b rec recT e κ ρ H = some p) : ∃ elt gens scope pos, e = .ListComp elt gens scope pos := by
  cases e <;> simp [notComp] at h <;> first | exact ⟨_, _, _, _, rfl⟩ | (simp [evF] at he)

theorem exec_Assign1 {env : Env} (t e : Expr) (pos : Pos) : exec (.Assign [t] e pos) env = (do
    standAt pos
    if ← swapsWith e (some t) pos.line env then do
      evalThenUse e env fun v => assignAll v ((assignEach [t] env).map (·.2))
      pure .next
    else do
      let v ← eval e env
      assignStores env v (← swappedStores [t] e env) ((assignEach [t] env).map (·.2))) := rfl
theorem swapped_name {env : Env} (x : Str) (p : Pos) (e : Expr) : swappedStores [.Name x p] e env = pure none := rfl
theorem swapped_sub {env : Env} (o i : Expr) (p : Pos) (e : Expr) : swappedStores [.Subscript o i p] e env = pure none := rfl
theorem stores_name {env : Env} (x : Str) (p : Pos) (v : Value) : assignStores env v none ((assignEach [.Name x p] env).map (·.2)) = (do assign (.Name x p) env v; pure .next) := rfl
theorem stores_sub {env : Env} (o i : Expr) (p : Pos) (v : Value) : assignStores env v none ((assignEach [.Subscript o i p] env).map (·.2)) = (do assign (.Subscript o i p) env v; pure .next) := rfl
theorem assign_sub {env : Env} (o i : Expr) (p : Pos) (v : Value) : assign (.Subscript o i p) env v = (do
    let ov ← holding [v] (eval o env)
    let iv ← holding [v, ov] (eval i env)
    standAt p
    holding [v, ov, iv] (setItem ov iv v)
    release (match i with | .Slice _ _ none _ => [iv, v, ov] | _ => [v, ov, iv]) []) := rfl
theorem exec_Del1 {env : Env} (o i : Expr) (sp pos : Pos) : exec (.Delete [.Subscript o i sp] pos) env = (do
    standAt pos
    (do
      (do
        let ov ← eval o env
        let iv ← holding [ov] (eval i env)
        standAt sp
        holding [ov, iv] (delItem ov iv)
        release [ov, iv] [])
      pure ())
    pure .next) := rfl
theorem swaps_some {env : Env} (elt : Expr) (gens : List Comprehension) (scope : Scope) (cp : Pos) (x : Str) (xp : Pos) (l : Nat) : ∃ c, swapsWith (.ListComp elt gens scope cp) (some (.Name x xp)) l env = pure c := ⟨_, rfl⟩

section
variable {A : Around} {E : Value → Shared → Prop} {s : Shared} {σ : List Addr} {H H' : Hp} {κ : Kap} {ω : Str → Bool} {ρ ρ' : Rho} {W : List Addr} {env : Env} {rec : Rec} {recT : RecT} {recS : RecS} {fl : Fl} {Q : Flow → Shared → Prop}

theorem stExpr_ok {e : Expr} {pos : Pos} {p : V × Hp} (R : RecOK z prog w hT σ₀ b n rec) (room : Room A n) (hnc : notComp e = true) (h1 : rec e κ ρ H = some p) (hn : isNoneV p.1 = true) (G : Good hT σ₀ κ ω ρ W env b σ H s.heap)
    (k : KontS z hT σ₀ b κ ω W env σ .next ρ p.2 Q s) (ht : z ≤ s.toks := by first | assumption | exact Tok1.pos _ | exact Nat.zero_le _) : wpAny (model prog w) A (exec (.Expr e pos) env) Q E s := by
  refine wpAny_Expr (R.ok e κ ρ H p.1 p.2 h1 A ω W env σ s _ E room G fun w1 h1' tk1 σ1 wr1 v1 e1 => ?_) (not_interactive G.env.fn) (swaps_not hnc)
  obtain ⟨pv, pH⟩ := p
  cases pv <;> simp [isNoneV] at hn
  cases v1
  exact k .next h1' tk1 σ1 (G.step wr1 e1) .next e1.nil

theorem stName_ok {e : Expr} {x : Str} {xp pos : Pos} {p : V × Hp} (R : RecOK z prog w hT σ₀ b n rec) (room : Room A n) (hω : ω x = true) (hnc : notComp e = true) (h1 : rec e κ ρ H = some p) (G : Good hT σ₀ κ ω ρ W env b σ H s.heap)
    (k : KontS z hT σ₀ b κ ω W env σ .next (upd ρ x p.1) p.2 Q s) (ht : z ≤ s.toks := by first | assumption | exact Tok1.pos _ | exact Nat.zero_le _) : wpAny (model prog w) A (exec (.Assign [.Name x xp] e pos) env) Q E s := by
  refine wpAny_Assign_Name (R.ok e κ ρ H p.1 p.2 h1 A ω W env σ s _ E room G fun w1 h1' tk1 σ1 wr1 v1 e1 => ?_) (swaps_not hnc)
  refine lift (Tok1.pos tk1) (store_ok (s := { s with heap := h1', toks := tk1.n }) hω (G.step wr1 e1) v1 fun h2 tk2 G2 e2 ht2 => ?_)
  exact k .next h2 ⟨tk2, ht2⟩ σ1 G2 .next (e1.nil.trans e2)

theorem stComp_ok {elt : Expr} {gens : List Comprehension} {scope : Scope} {cp : Pos} {x : Str} {xp pos : Pos} {p : V × Hp} (B : Base prog w hT σ₀ n g) (R : RecOK z prog w hT σ₀ b n rec) (RT : RecTOK z prog w hT σ₀ b n recT) (room : Room A n) (hω : ω x = true)
    (hev : evComp g rec recT elt gens scope κ ρ H = some p) (G : Good hT σ₀ κ ω ρ W env b σ H s.heap)
    (k : KontS z hT σ₀ b κ ω W env σ .next (upd ρ x p.1) p.2 Q s) (ht : z ≤ s.toks := by first | assumption | exact Tok1.pos _ | exact Nat.zero_le _) : wpAny (model prog w) A (exec (.Assign [.Name x xp] (.ListComp elt gens scope cp) pos) env) Q E s := by
  rw [exec_Assign1]
  obtain ⟨c, hsw⟩ := swaps_some (env := env) elt gens scope cp x xp pos.line
  rw [hsw, swapped_name]
  refine wpAny_bind (wpAny_standAt (wpAny_bind (wpAny_pure ?_)))
  cases c with
  | true =>
    refine wpAny_bind (comp_use B R RT room hev hω G fun h' tk σ' G' e' => wpAny_pure ?_)
    exact k .next h' tk σ' G' .next e'
  | false =>
    refine wpAny_bind (comp_ok B R RT room hev G fun w1 h1' tk1 σ1 wr1 v1 e1 => wpAny_bind (wpAny_pure ?_))
    rw [stores_name]
    refine wpAny_bind (wpAny_assign_Name (lift (Tok1.pos tk1) (store_ok (s := { s with heap := h1', toks := tk1.n }) hω (G.step wr1 e1) v1 fun h2 tk2 G2 e2 ht2 => wpAny_pure ?_)))
    exact k .next h2 ⟨tk2, ht2⟩ σ1 G2 .next (e1.nil.trans e2)

theorem stSub_ok {o i e : Expr} {sp pos : Pos} {p q r : V × Hp} (R : RecOK z prog w hT σ₀ b n rec) (room : Room A n) (hnc : notComp e = true) (h1 : rec e κ ρ H = some p) (h2 : rec o κ ρ p.2 = some q) (h3 : rec i κ ρ q.2 = some r)
    (h4 : setIdx b q.1 r.1 p.1 r.2 = some H') (G : Good hT σ₀ κ ω ρ W env b σ H s.heap)
    (k : KontS z hT σ₀ b κ ω W env σ .next ρ H' Q s) (ht : z ≤ s.toks := by first | assumption | exact Tok1.pos _ | exact Nat.zero_le _) : wpAny (model prog w) A (exec (.Assign [.Subscript o i sp] e pos) env) Q E s := by
  rw [exec_Assign1, swaps_not hnc, swapped_sub]
  refine wpAny_bind (wpAny_standAt (wpAny_bind (wpAny_pure ?_)))
  refine wpAny_bind (R.ok e κ ρ H p.1 p.2 h1 A ω W env σ s _ E room G fun w1 h1' tk1 σ1 wr1 v1 e1 => wpAny_bind (wpAny_pure ?_))
  rw [stores_sub, assign_sub]
  have G1 := G.step wr1 e1
  refine wpAny_bind ?_
  refine wpAny_bind (wpAny_holding (R.ok o κ ρ p.2 q.1 q.2 h2 A ω W env σ1 _ _ E room G1 fun w2 h2' tk2 σ2 wr2 v2 e2 => ?_))
  have G2 := G1.step wr2 e2
  refine wpAny_bind (wpAny_holding (R.ok i κ ρ q.2 r.1 r.2 h3 A ω W env σ2 _ _ E room G2 fun w3 h3' tk3 σ3 wr3 v3 e3 => ?_))
  have G3 := G2.step wr3 e3
  refine wpAny_bind (wpAny_standAt (wpAny_bind (wpAny_holding (setIdx_ok (s := { s with heap := h3', toks := tk3.n }) h4 (v2.after wr2 e3) v3 ((v1.after wr1 e2).after wr2 e3) wr3 G3.above fun h4' wr4 e4 => ?_))))
  refine release_ok (wpAny_pure ?_)
  exact k .next h4' tk3 σ3 (G3.step wr4 e4) .next (((e1.trans e2).trans e3).trans e4).nil

theorem stDel_ok {o i : Expr} {sp pos : Pos} {q r : V × Hp} (R : RecOK z prog w hT σ₀ b n rec) (room : Room A n) (h2 : rec o κ ρ H = some q) (h3 : rec i κ ρ q.2 = some r)
    (h4 : delIdx b q.1 r.1 r.2 = some H') (G : Good hT σ₀ κ ω ρ W env b σ H s.heap)
    (k : KontS z hT σ₀ b κ ω W env σ .next ρ H' Q s) (ht : z ≤ s.toks := by first | assumption | exact Tok1.pos _ | exact Nat.zero_le _) : wpAny (model prog w) A (exec (.Delete [.Subscript o i sp] pos) env) Q E s := by
  rw [exec_Del1]
  refine wpAny_bind (wpAny_standAt (wpAny_bind (wpAny_bind ?_)))
  refine wpAny_bind (R.ok o κ ρ H q.1 q.2 h2 A ω W env σ _ _ E room G fun w2 h2' tk2 σ2 wr2 v2 e2 => ?_)
  have G2 := G.step wr2 e2
  refine wpAny_bind (wpAny_holding (R.ok i κ ρ q.2 r.1 r.2 h3 A ω W env σ2 _ _ E room G2 fun w3 h3' tk3 σ3 wr3 v3 e3 => ?_))
  have G3 := G2.step wr3 e3
  refine wpAny_bind (wpAny_standAt (wpAny_bind (wpAny_holding (delIdx_ok (s := { s with heap := h3', toks := tk3.n }) h4 (v2.after wr2 e3) v3 wr3 G3.above fun h4' wr4 e4 => ?_))))
  refine release_ok (wpAny_pure (wpAny_pure ?_))
  exact k .next h4' tk3 σ3 (G3.step wr4 e4) .next ((e2.trans e3).trans e4).nil

theorem stIf_ok {t : Expr} {body orelse : List Stmt} {pos : Pos} {p : Bool × Hp} (RT : RecTOK z prog w hT σ₀ b n recT) (RS : RecSOK z prog w hT σ₀ b n κ ω recS) (room : Room A n) (h1 : recT t κ ρ H = some p)
    (h2 : (if p.1 then exs recS body ρ p.2 else exs recS orelse ρ p.2) = some (fl, ρ', H')) (G : Good hT σ₀ κ ω ρ W env b σ H s.heap)
    (k : KontS z hT σ₀ b κ ω W env σ fl ρ' H' Q s) (ht : z ≤ s.toks := by first | assumption | exact Tok1.pos _ | exact Nat.zero_le _) : wpAny (model prog w) A (exec (.If t body orelse pos) env) Q E s := by
  refine wpAny_If (RT.ok t κ ρ H p.1 p.2 h1 A ω W env σ s _ E room G fun h' tk σ' wr' ex => ?_)
  have G' := G.step wr' ex
  split at h2
  · rename_i hp
    rw [if_pos hp]
    exact exs_ok RS room h2 G' (k.after (tk := tk) ex.nil)
  · rename_i hp
    rw [if_neg hp]
    exact exs_ok RS room h2 G' (k.after (tk := tk) ex.nil)

theorem stFor_ok {t it : Expr} {body : List Stmt} {pos : Pos} {items : List V} {c : Option Nat} {H1 : Hp} (B : Base prog w hT σ₀ n g) (R : RecOK z prog w hT σ₀ b n rec) (RS : RecSOK z prog w hT σ₀ b n κ ω recS) (room : Room A n) (h1 : evIter g rec κ ρ it H = some ((items, c), H1))
    (h2 : loopS c items (fun x ρ h => (bindT ω t x ρ).bind fun ρ' => exs recS body ρ' h) items ρ H1 = some (fl, ρ', H')) (G : Good hT σ₀ κ ω ρ W env b σ H s.heap)
    (k : KontS z hT σ₀ b κ ω W env σ fl ρ' H' Q s) (ht : z ≤ s.toks := by first | assumption | exact Tok1.pos _ | exact Nat.zero_le _) : wpAny (model prog w) A (exec (.For t it body [] pos) env) Q E s := by
  have hns : notSet it = true := by
    unfold evIter at h1
    split at h1
    · rename_i q; exact q
    · cases h1
  refine wpAny_For (evIter_ok B R room h1 G fun a h' tk σ' wr' hi ex hfr => ?_) (notSet_folded hns)
  have G' := G.step wr' ex
  have hnew : ∀ a' o, s.heap.get? a' = some o → a ≠ a' := fun a' o e q => by rw [← q, hfr] at e; cases e
  refine for_turns RS room (hs := s.heap) (σs := σ) ?_ ?_ ?_ ?_ hfr k h2 G' hi ex.nil
  · intro hw
    obtain ⟨o, e, _⟩ := G.env.wobj a hw
    rw [hfr] at e; cases e
  · obtain ⟨m, ⟨o, _, _, e, _⟩, _⟩ := G.env.ns
    exact hnew _ o e
  · intro x c' hk hx
    obtain ⟨c2, v₀, e1, ⟨o, e2, _⟩, _⟩ := G.env.cell x hk
    rw [hx] at e1; cases e1
    exact hnew _ o e2
  · exact none_top G.wr.top hfr
end

theorem exF_ok {κ : Kap} {ω : Str → Bool} {rec : Rec} {recT : RecT} {recS : RecS} (B : Base prog w hT σ₀ n g) (R : RecOK z prog w hT σ₀ b n rec) (RT : RecTOK z prog w hT σ₀ b n recT) (RS : RecSOK z prog w hT σ₀ b n κ ω recS)
    (hcomp : ∀ e κ ρ H p, rec e κ ρ H = some p → notComp e = false → ∃ elt gens scope pos rec' recT', e = .ListComp elt gens scope pos ∧ RecOK z prog w hT σ₀ b n rec' ∧ RecTOK z prog w hT σ₀ b n recT' ∧ evComp g rec' recT' elt gens scope κ ρ H = some p) :
    RecSOK z prog w hT σ₀ b n κ ω (exF g b ω κ rec recT recS) := by
  refine ⟨?_⟩
  intro st ρ H fl ρ' H' he A W env σ s Q E room G k ht
  unfold exF at he
  split at he
  · split at he
    · rename_i hnc
      obtain ⟨p, h1, he1⟩ := Option.bind_eq_some_iff.mp he
      split at he1
      · rename_i hn
        cases he1
        exact stExpr_ok R room hnc h1 hn G k
      · cases he1
    · cases he
  · cases he; exact wpAny_bind (wpAny_standAt (wpAny_pure (k .brk s.heap ⟨s.toks, ht⟩ σ G .brk (Ext.refl ..))))
  · cases he; exact wpAny_bind (wpAny_standAt (wpAny_pure (k .cont s.heap ⟨s.toks, ht⟩ σ G .cont (Ext.refl ..))))
  · obtain ⟨p, h1, he1⟩ := Option.map_eq_some_iff.mp he
    cases he1
    refine wpAny_Return_some (R.ok _ κ ρ H p.1 p.2 h1 A ω W env σ s _ E room G fun w1 h1' tk1 σ1 wr1 v1 e1 => ?_)
    exact k _ h1' tk1 σ1 (G.step wr1 e1) (.ret v1) e1.nil
  · rename_i ts e pos
    split at he
    · split at he
      · rename_i hω
        obtain ⟨p, h1, he1⟩ := Option.map_eq_some_iff.mp he
        cases he1
        cases hnc : notComp e with
        | true => exact stName_ok R room hω hnc h1 G k
        | false =>
          obtain ⟨elt, gens, scope, cp, rec', recT', rfl, R', RT', hev⟩ := hcomp e κ ρ H p h1 hnc
          exact stComp_ok B R' RT' room hω hev G k
      · cases he
    · split at he
      · rename_i hnc
        simp only [Bool.and_eq_true] at hnc
        obtain ⟨p, h1, he1⟩ := Option.bind_eq_some_iff.mp he
        obtain ⟨q, h2, he2⟩ := Option.bind_eq_some_iff.mp he1
        obtain ⟨r, h3, he3⟩ := Option.bind_eq_some_iff.mp he2
        obtain ⟨Hn, h4, he4⟩ := Option.map_eq_some_iff.mp he3
        cases he4
        exact stSub_ok R room hnc.1 h1 h2 h3 h4 G k
      · cases he
    · cases he
  · split at he
    · split at he
      · obtain ⟨q, h2, he2⟩ := Option.bind_eq_some_iff.mp he
        obtain ⟨r, h3, he3⟩ := Option.bind_eq_some_iff.mp he2
        obtain ⟨Hn, h4, he4⟩ := Option.map_eq_some_iff.mp he3
        cases he4
        exact stDel_ok R room h2 h3 h4 G k
      · cases he
    · cases he
  · obtain ⟨p, h1, he1⟩ := Option.bind_eq_some_iff.mp he
    exact stIf_ok RT RS room h1 he1 G k
  · split at he
    · obtain ⟨q, h1, he1⟩ := Option.bind_eq_some_iff.mp he
      obtain ⟨⟨items, c⟩, H1⟩ := q
      exact stFor_ok B R RS room h1 he1 G k
    · cases he
  · cases he

theorem exT_ok {κ : Kap} {ω : Str → Bool} (B : Base prog w hT σ₀ n g) : ∀ m : Nat, RecSOK g.z prog w hT σ₀ b n κ ω (exT g b ω κ m)
  | 0 => ⟨fun st ρ H fl ρ' H' he => by simp [exT] at he⟩
  | m + 1 => by
    refine exF_ok B (evT_ok B m).1 (evT_ok B m).2 (exT_ok B m) fun e κ' ρ H p he hnc => ?_
    cases m with
    | zero => simp [evT] at he
    | succ m =>
      obtain ⟨elt, gens, scope, pos, rfl⟩ := isComp hnc he
      exact ⟨elt, gens, scope, pos, _, _, rfl, (evT_ok B m).1, (evT_ok B m).2, he⟩
end
end Mine
end

section
set_option autoImplicit false
set_option maxRecDepth 100000
namespace Mine
open PySem PyProof.Rows

structure FdOK (hT : Heap) (fd : FuncData) (f : FnD) : Prop where
  body : fd.body = .stmts f.body
  scope : fd.scope = f.scope
  clo : fd.closure = []
  glob : fd.globals = mainGlobals
  blt : fd.builtins = builtinsNs
  kind : f.scope.kind = .function
  gen : f.scope.isGenerator = false
  co : f.scope.isCoroutine = false
  bind : ∀ vals : List Value, vals.length = f.params.length → bindArgs fd ⟨vals, []⟩ = pure (f.params.zip vals)
  own : ∀ x ∈ f.params, ownName f.scope x = true
  nofree : ∀ p ∈ f.scope.names, p.2 ≠ .free
  code : hT.CodeRec fd.code fd.qualname

theorem cellsFrom_has {x : Str} : ∀ (names : List (Str × NameKind)) (n : Nat) (acc : List (Str × Addr)), (acc.lookup x).isSome = true ∨ (x, NameKind.cell) ∈ names → ((cellsFrom n names acc).lookup x).isSome = true
  | [], _, _, h => by
    rcases h with h | h
    · exact h
    · cases h
  | (y, k) :: r, n, acc, h => by
    unfold cellsFrom
    split
    · rename_i hk
      refine cellsFrom_has r _ _ ?_
      rcases h with h | h
      · left
        rw [List.lookup_cons]
        split
        · rfl
        · exact h
      · rcases List.mem_cons.mp h with e | e
        · left
          cases e
          simp
        · exact .inr e
    · rename_i hk
      refine cellsFrom_has r _ _ ?_
      rcases h with h | h
      · exact .inl h
      · rcases List.mem_cons.mp h with e | e
        · cases e; exact (hk rfl).elim
        · exact .inr e

theorem bindL_eq {kindOf : Str → Option NameKind} {x : Str} (hx : kindOf x = some .local) : ∀ (binds : List (Str × Value)) (m : Str → Option Value), bindL kindOf binds m x = (binds.reverse.lookup x).or (m x)
  | [], m => by simp [bindL]
  | (y, v) :: r, m => by
    unfold bindL
    rw [bindL_eq hx r, List.reverse_cons, List.lookup_append]
    by_cases h : y = x
    · subst h
      rw [if_pos hx]
      simp [List.lookup_cons, Option.or_assoc]
    · have e : (if kindOf y = some .local then (fun z => if z = y then some v else m z) else m) x = m x := by
        split
        · simp [Ne.symm h]
        · rfl
      rw [e]
      have : (x == y) = false := by simpa using Ne.symm h
      simp [List.lookup_cons, this]
theorem bindC_eq {kindOf : Str → Option NameKind} {x : Str} (hx : kindOf x ≠ some .local) : ∀ (binds : List (Str × Value)) (m : Str → Option Value), bindC kindOf binds m x = (binds.reverse.lookup x).or (m x)
  | [], m => by simp [bindC]
  | (y, v) :: r, m => by
    unfold bindC
    rw [bindC_eq hx r, List.reverse_cons, List.lookup_append]
    by_cases h : y = x
    · subst h
      rw [if_neg hx]
      simp [List.lookup_cons, Option.or_assoc]
    · have e : (if kindOf y = some .local then m else (fun z => if z = y then some v else m z)) x = m x := by
        split
        · rfl
        · simp [Ne.symm h]
      rw [e]
      have : (x == y) = false := by simpa using Ne.symm h
      simp [List.lookup_cons, this]

inductive OptR (σ : List Addr) (h : Heap) : Option V → Option Value → Prop
  | none : OptR σ h none none
  | some {v wv} : VR σ h v wv → OptR σ h (some v) (some wv)
theorem OptR.or {σ : List Addr} {h : Heap} {a c : Option V} {b d : Option Value} (x : OptR σ h a b) (y : OptR σ h c d) : OptR σ h (a.or c) (b.or d) := by
  cases x with
  | none => exact y
  | some q => exact .some q
theorem zip_lookup {σ : List Addr} {h : Heap} {x : Str} : ∀ {ps : List Str} {vs : List V} {ws : List Value}, VRs σ h vs ws → OptR σ h ((ps.zip vs).reverse.lookup x) ((ps.zip ws).reverse.lookup x)
  | [], _, _, _ => .none
  | p :: ps, _, _, .nil => .none
  | p :: ps, _, _, .cons (v := v1) (vs := vs) (w := w1) (ws := ws) hx hr => by
    rw [List.zip_cons_cons, List.zip_cons_cons, List.reverse_cons, List.reverse_cons, List.lookup_append, List.lookup_append]
    refine (zip_lookup hr).or ?_
    simp only [List.lookup_cons, List.lookup_nil]
    cases (x == p) with
    | true => exact .some hx
    | false => exact .none

section
variable {z : Nat} {prog : Program} {w : World} {hT : Heap} {σ₀ : List Addr} {n : Nat} {g : Glob}

theorem call_cells {A : Around} {s : Shared} {R : Result → Shared → Prop} {a : Addr} {o : Obj} {fd : FuncData} {body : List Stmt} {vals : List Value} {binds : List (Str × Value)}
    (hroom : A.depth < recursionLimit) (ho : s.heap.get? a = some o) (hdata : o.data = .func fd) (hlim : s.heap.NoLimit) (hcd : s.heap.CodeRec fd.code fd.qualname)
    (hbody : fd.body = .stmts body) (hbind : bindArgs fd ⟨vals, []⟩ = pure binds) (hclo : fd.closure = [])
    (hkind : ∀ x ∈ binds, fd.scope.names.lookup x.1 = some .local ∨ (fd.scope.names.lookup x.1 = some .cell ∧ ((cellsFrom (s.heap.objs.size + 1) fd.scope.names []).lookup x.1).isSome = true))
    (ht : z ≤ s.toks) (hco : fd.scope.isCoroutine = false) (hgen : fd.scope.isGenerator = false) (hk : fd.scope.kind = .function)
    (h : ∀ s₁, InCallC s (callEnvC fd s.heap.objs.size a).locals (bindL (callEnvC fd s.heap.objs.size a).kindOf binds fun _ => none) (callEnvC fd s.heap.objs.size a).cells
        (bindC (callEnvC fd s.heap.objs.size a).kindOf binds fun _ => none) s₁ → z ≤ s₁.toks →
      wpAny (model prog w) (A.deeper (callEnvC fd s.heap.objs.size a)) (execs body (callEnvC fd s.heap.objs.size a)) (fun f s' => R (.ok (.ret (match f with | .ret v => v | _ => .none))) s')
        (fun e s' => wpAny (model prog w) (A.deeper (callEnvC fd s.heap.objs.size a)) (leaving (callEnvC fd s.heap.objs.size a) e) (fun _ s'' => R (.error e) s'') (fun e' s'' => R (.error e') s'') s') s₁) :
    codeAny (model prog w) A (.call (.ref a) ⟨vals, []⟩) R s := by
  refine codeAny_call_function hroom ho hdata hco hgen hbody hcd ?_
  rw [hbind, hclo]
  refine wpAny_pure (lift ht (wpAny_newFunctionEnv_cells hk hkind fun env he s' x ht' => ?_))
  subst he
  exact ⟨hlim.keeps x.toInCall.keep, codeAny_func (h s' x ht')⟩

theorem runFn_ok {fd : FuncData} {f : FnD} {fa : Addr} {o : Obj} (B : Base prog w hT σ₀ n g) (hlim : hT.NoLimit) (ho : hT.get? fa = some o) (hd : o.data = .func fd) (F : FdOK hT fd f) : FnSound g.z prog w hT σ₀ (n + 1) (runFn g f) fa := by
  intro args H v H' he A σ s Q E ws room wr tab hvs k ht
  unfold runFn at he
  split at he
  · rename_i hlen
    have hl2 : ws.length = f.params.length := by rw [← hvs.length]; exact hlen
    have hd9 := room.hd
    refine wpAny_call (call_cells (body := f.body) (binds := f.params.zip ws) (by show A.depth < 1000; omega) (wr.top _ _ ho) hd (hlim.keeps wr.top) (F.code.keeps wr.top) F.body (F.bind ws hl2) F.clo ?_ ht
      (by rw [F.scope]; exact F.co) (by rw [F.scope]; exact F.gen) (by rw [F.scope]; exact F.kind) ?_)
    · intro x hx
      rw [F.scope]
      have hm : x.1 ∈ f.params := (List.of_mem_zip hx).1
      have := F.own _ hm
      unfold ownName at this
      simp only [Bool.or_eq_true, beq_iff_eq] at this
      rcases this with q | q
      · exact .inl q
      · exact .inr ⟨q, cellsFrom_has _ _ _ (.inr (mem_of_lookup q))⟩
    · intro s₁ hI ht₁
      have hk : ∀ x, (callEnvC fd s.heap.objs.size fa).kindOf x = f.scope.names.lookup x := fun x => by
        show fd.scope.names.lookup x = _
        rw [F.scope]
      have hcs : (callEnvC fd s.heap.objs.size fa).cells = cellsFrom (s.heap.objs.size + 1) f.scope.names [] := by
        show cellsFrom (s.heap.objs.size + 1) fd.scope.names [] = _
        rw [F.scope]
      have hL : (callEnvC fd s.heap.objs.size fa).locals = s.heap.objs.size := rfl
      generalize henv : callEnvC fd s.heap.objs.size fa = env at hI hk hcs hL
      have hfn : env.scope.kind = .function := by rw [← henv]; show fd.scope.kind = _; rw [F.scope]; exact F.kind
      have hgl : env.globals = mainGlobals := by rw [← henv]; exact F.glob
      have hbl : env.builtins = builtinsNs := by rw [← henv]; exact F.blt
      obtain ⟨h₁, tk₁, rfl⟩ := hI.toInCall.same
      have hkeep : ∀ a o, s.heap.get? a = some o → h₁.get? a = some o := hI.toInCall.keep
      have wr₁ : WR hT σ H h₁ := ⟨wr.len, fun a xs r e1 e2 => let ⟨arr, p, q, l⟩ := wr.obj a xs r e1 e2; ⟨arr, p.at fun o e => hkeep _ _ e, q.mono (prefix_same _) (Tups.keeps hkeep), l⟩, wr.nodup, fun a o e => hkeep _ _ (wr.top a o e)⟩
      have hvs₁ : VRs σ h₁ args ws := hvs.mono (prefix_same _) (Tups.keeps hkeep)
      have hcellW : ∀ x c, env.cells.lookup x = some c → s.heap.get? c = none := fun x c e => get_ge (Nat.le_of_lt (by have := hI.above x c (mem_of_lookup e); rw [hL] at this; exact this))
      let W := env.locals :: (f.scope.names.filterMap fun p => env.cells.lookup p.1)
      have hW : ∀ a ∈ W, s.heap.get? a = none := fun a ha => by
        rcases List.mem_cons.mp ha with q | q
        · rw [q, hL]; exact get_size _
        · obtain ⟨p, _, e⟩ := List.mem_filterMap.mp q
          exact hcellW _ _ e
      have G : Good hT σ₀ (fun x => f.scope.names.lookup x) (fun x => ownName f.scope x) (fun x => (f.params.zip args).reverse.lookup x) W env H.length σ H h₁ := by
        refine ⟨wr₁, ⟨hfn, hk, hgl, hbl, ⟨_, hI.toInCall.ns, fun x v hx hv => ?_⟩, fun x hx => ?_, fun x y c h1 h2 => name_of_addr hI.apart (mem_of_lookup h1) (mem_of_lookup h2), fun x hx => ?_, List.mem_cons_self, fun a ha => ?_⟩, Nat.le_refl _, ?_, ?_, tab⟩
        · have z := zip_lookup (x := x) (ps := f.params) hvs₁
          rw [hv] at z
          cases hz : (f.params.zip ws).reverse.lookup x with
          | none => rw [hz] at z; cases z
          | some wv =>
            rw [hz] at z
            cases z with | some q =>
            refine ⟨wv, ?_, q⟩
            rw [bindL_eq (by rw [hk]; exact hx), hz]; rfl
        · have hc : f.scope.names.lookup x = some .cell := by
            rcases hx with q | q
            · exact q
            · exact (F.nofree _ (mem_of_lookup q) rfl).elim
          have hs := cellsFrom_has f.scope.names (s.heap.objs.size + 1) [] (.inr (mem_of_lookup hc))
          rw [← hcs] at hs
          obtain ⟨c, e⟩ := Option.isSome_iff_exists.mp hs
          refine ⟨c, _, e, hI.cell x c e, fun v hv => ?_⟩
          have z := zip_lookup (x := x) (ps := f.params) hvs₁
          rw [hv] at z
          cases hz : (f.params.zip ws).reverse.lookup x with
          | none => rw [hz] at z; cases z
          | some wv =>
            rw [hz] at z
            cases z with | some q =>
            refine ⟨wv, ?_, q⟩
            rw [bindC_eq (by rw [hk]; simp only [hc]; decide), hz]; rfl
        · have : ownName f.scope x = true := hx
          unfold ownName at this
          simp only [Bool.or_eq_true, beq_iff_eq] at this
          rcases this with q | q
          · exact .inl q
          · exact .inr ⟨q, fun c e => List.mem_cons_of_mem _ (List.mem_filterMap.mpr ⟨(x, .cell), mem_of_lookup q, e⟩)⟩
        · rcases List.mem_cons.mp ha with q | q
          · obtain ⟨oL, es, ep, e1, e2, _⟩ := hI.toInCall.ns
            exact ⟨oL, by rw [q]; exact e1, by rw [e2]; intro _ _ e; cases e⟩
          · obtain ⟨p, _, e⟩ := List.mem_filterMap.mp q
            obtain ⟨oc, e1, e2⟩ := hI.cell _ _ e
            exact ⟨oc, e1, by rw [e2]; intro _ _ e; cases e⟩
        · intro r hr
          rw [List.drop_eq_nil_of_le (by rw [wr.len]; exact Nat.le_refl _)] at hr
          cases hr
        · exact fun a ha => none_top wr.top (hW a ha)
      have room' : Room (A.deeper env) n := ⟨room.hh, by show A.depth + 1 + n < 900; omega, by have := room.hu; show A.units + 3 + 10 * n + 300 < cLine; omega⟩
      -- the end of the call
      have fin : ∀ fl (ρ' : Rho), exs (exT g H.length (fun x => ownName f.scope x) (fun x => f.scope.names.lookup x) fuel) f.body (fun x => (f.params.zip args).reverse.lookup x) H = some (fl, ρ', H') → (fl = .ret v ∨ (fl = .next ∧ v = .none)) →
          wpAny (model prog w) (A.deeper env) (execs f.body env) (fun fw s' => (match (Except.ok (Flow.ret (match fw with | .ret v => v | _ => .none)) : Result) with | .ok (.ret v) => Q v s' | .ok _ => False | .error e => E e s'))
            (fun e s' => wpAny (model prog w) (A.deeper env) (leaving env e) (fun _ s'' => E e s'') (fun e' s'' => E e' s'') s') { s with heap := h₁, toks := tk₁ } := by
        intro fl ρ' hev hfl
        refine exs_ok (exT_ok B fuel) room' hev G fun fw h' tk σ' G' hf ex => ?_
        have exE : Ext [] H.length σ s.heap σ' h' := by
          obtain ⟨δ, e1, e2⟩ := ex.pre
          refine ⟨⟨δ, e1, fun r hr => ?_⟩, fun a o e => ex.there a o (hkeep a o e), fun a o e _ hdr => ex.keep a o (hkeep a o e) (fun q => by rw [hW a q] at e; cases e) hdr⟩
          cases q : s.heap.get? r with
          | none => rfl
          | some o => have := e2 r hr; rw [hkeep r o q] at this; cases this
        rcases hfl with rfl | ⟨rfl, rfl⟩
        · cases hf with | ret hv => exact k _ h' tk σ' G'.wr hv exE
        · cases hf; exact k _ h' tk σ' G'.wr .none exE
      split at he
      · rename_i v' ρ' H'' hev
        cases he
        exact fin _ _ hev (.inl rfl)
      · rename_i ρ' H'' hev
        cases he
        exact fin _ _ hev (.inr ⟨rfl, rfl⟩)
      · cases he
  · cases he
end
end Mine
end

section
set_option autoImplicit false
set_option maxRecDepth 100000
namespace Mine
open PySem PyProof.Rows PySem.W

mutual
noncomputable def vchk (K : Frag) (σ₀ : List Addr) : V → Value → Bool
  | .none, .none => true
  | .bool a, .bool b => a == b
  | .int a, .int b _ => a == b
  | .str a, .str b _ => a == b && decide (a.length ≤ sizeLine)
  | .tup vs, .ref r => match K.lookup r with
    | some o => (match o.cls with | .type t => t == "tuple" | _ => false) && (match o.data with | .seq arr _ => vchks K σ₀ vs arr.toList | _ => false) && decide (vs.length ≤ sizeLine)
    | none => false
  | .ref a, .ref r => σ₀[a]? == some r
  | _, _ => false
noncomputable def vchks (K : Frag) (σ₀ : List Addr) : List V → List Value → Bool
  | [], [] => true
  | v :: vs, w :: ws => vchk K σ₀ v w && vchks K σ₀ vs ws
  | _, _ => false
end

mutual
theorem vchk_ok {K : Frag} {σ₀ : List Addr} {h : Heap} (X : K.In h) : ∀ {v : V} {w : Value}, vchk K σ₀ v w = true → VR σ₀ h v w
  | .none, w, e => by cases w <;> simp [vchk] at e; exact .none
  | .bool a, w, e => by cases w <;> simp [vchk] at e; subst e; exact .bool _
  | .int a, w, e => by cases w <;> simp [vchk] at e; subst e; exact .int _ _
  | .str a, w, e => by cases w <;> simp [vchk] at e; obtain ⟨rfl, e⟩ := e; exact .str _ _ e
  | .type _, w, e => by cases w <;> simp [vchk] at e
  | .ref a, w, e => by cases w <;> simp [vchk] at e; exact .ref e
  | .tup vs, w, e => by
    cases w <;> simp only [vchk] at e <;> try cases e
    rename_i r
    split at e
    · rename_i o ho
      simp only [Bool.and_eq_true, decide_eq_true_eq] at e
      obtain ⟨⟨e1, e2⟩, e3⟩ := e
      have hc : o.cls = .type "tuple" := by
        split at e1
        · rename_i t ht; rw [ht, beq_iff_eq.mp e1]
        · cases e1
      split at e2
      · rename_i arr n hd
        exact .tup (X _ _ ho) hc hd (vchks_ok X e2) e3
      · cases e2
    · cases e
theorem vchks_ok {K : Frag} {σ₀ : List Addr} {h : Heap} (X : K.In h) : ∀ {vs : List V} {ws : List Value}, vchks K σ₀ vs ws = true → VRs σ₀ h vs ws
  | [], ws, e => by cases ws <;> simp [vchks] at e; exact .nil
  | v :: vs, ws, e => by
    cases ws with
    | nil => simp [vchks] at e
    | cons w ws =>
      simp only [vchks, Bool.and_eq_true] at e
      exact .cons (vchk_ok X e.1) (vchks_ok X e.2)
end

structure FdS (fd : FuncData) (f : FnD) : Prop where
  body : fd.body = .stmts f.body
  scope : fd.scope = f.scope
  clo : fd.closure = []
  glob : fd.globals = mainGlobals
  blt : fd.builtins = builtinsNs
  kind : f.scope.kind = .function
  gen : f.scope.isGenerator = false
  co : f.scope.isCoroutine = false
  bind : ∀ vals : List Value, vals.length = f.params.length → bindArgs fd ⟨vals, []⟩ = pure (f.params.zip vals)
  own : (f.params.all fun x => ownName f.scope x) = true
  nofree : (f.scope.names.all fun p => p.2 != .free) = true

noncomputable def FnAtK (K : Frag) (es : Array DictEntry) (p : Str × FnD) : Prop :=
  ∃ fa o fd c oc vs t, nsFind es p.1 = some (.ref fa) ∧ K.lookup fa = some o ∧ o.data = .func fd ∧ FdS fd p.2 ∧ fd.code = .ref c ∧ K.lookup c = some oc ∧ oc.data = .fields vs ∧ vs[1]? = some (.str fd.qualname t)

theorem fnIn_mem {x : Str} {f : FnD} : ∀ {body : List Stmt}, fnIn x body = some f → (x, f) ∈ fnList body
  | [], h => by simp [fnIn] at h
  | st :: r, h => by
    unfold fnIn at h
    unfold fnList
    split at h
    · rename_i heq; cases heq
    · rename_i heq
      injection heq with h1 h2
      subst h1 h2
      split at h
      · rename_i hx
        cases h
        subst hx
        exact List.mem_cons_self
      · exact List.mem_cons_of_mem _ (fnIn_mem h)
    · rename_i n1 heq
      injection heq with h1 h2
      subst h1 h2
      exact fnIn_mem h

noncomputable def bnames : List Str := ["len", "ord", "chr", "isinstance", "type", "sorted", "any", "range", "list", "tuple", "str", "bool"]
theorem bval_mem {x : Str} {fv : Value} (h : bval x = some fv) : x ∈ bnames := by
  unfold bval at h
  unfold bnames
  by_cases h1 : x = "len"
  · rw [h1]; simp
  rw [if_neg h1] at h
  by_cases h1 : x = "ord"
  · rw [h1]; simp
  rw [if_neg h1] at h
  by_cases h1 : x = "chr"
  · rw [h1]; simp
  rw [if_neg h1] at h
  by_cases h1 : x = "isinstance"
  · rw [h1]; simp
  rw [if_neg h1] at h
  by_cases h1 : x = "type"
  · rw [h1]; simp
  rw [if_neg h1] at h
  by_cases h1 : x = "sorted"
  · rw [h1]; simp
  rw [if_neg h1] at h
  by_cases h1 : x = "any"
  · rw [h1]; simp
  rw [if_neg h1] at h
  by_cases h1 : x = "range"
  · rw [h1]; simp
  rw [if_neg h1] at h
  by_cases h1 : x = "list"
  · rw [h1]; simp
  rw [if_neg h1] at h
  by_cases h1 : x = "tuple"
  · rw [h1]; simp
  rw [if_neg h1] at h
  by_cases h1 : x = "str"
  · rw [h1]; simp
  rw [if_neg h1] at h
  by_cases h1 : x = "bool"
  · rw [h1]; simp
  rw [if_neg h1] at h
  cases h
theorem boot_bval : (bnames.all fun x => decide (bootBuiltins x = bval x) && decide (x ≠ "__name__")) = true := by decide +kernel

/-- what the top of a law leaves, as far as the small reading needs it -/
structure TopK (prog : Program) (K : Frag) (es : Array DictEntry) (tv : List (Str × V)) (σ₀ : List Addr) : Prop where
  glob : ∃ o ep, K.lookup mainGlobals = some o ∧ o.data = .dict es ep
  vals : (tv.all fun p => match tv.lookup p.1, nsFind es p.1 with | some v, some wv => vchk K σ₀ v wv | _, _ => false) = true
  miss : (bnames.all fun x => (nsFind es x).isNone) = true
  fns : ∀ p ∈ fnList prog.main.body, FnAtK K es p

theorem base_ok_K {prog : Program} {w : World} {K : Frag} {es : Array DictEntry} {tv : List (Str × V)} {σ₀ : List Addr} {hT : Heap} {mg mb : Str → Option Value} (T : TopK prog K es tv σ₀) (X : K.In hT) (hg : hT.Ns mainGlobals mg) (hb : hT.Ns builtinsNs mb)
    (hbb : ∀ x : Str, x ≠ "__name__" → mb x = bootBuiltins x) (hlim : hT.NoLimit) (u : Bool) : ∀ d, Base prog w hT σ₀ d (globs prog (fun x => tv.lookup x) u d) := by
  obtain ⟨o3, ep3, k3, d3⟩ := T.glob
  have hg' : hT.Ns mainGlobals (fun x => nsFind es x) := by
    obtain ⟨o, es', ep, h1, h2, h3, h4⟩ := hg
    rw [X _ _ k3] at h1
    cases h1
    rw [d3] at h2
    cases h2
    exact ⟨o3, es, ep3, X _ _ k3, d3, h3, fun _ => rfl⟩
  have hv : ∀ x v, tv.lookup x = some v → ∃ wv, nsFind es x = some wv ∧ VR σ₀ hT v wv := fun x v hx => by
    have := List.all_eq_true.mp T.vals _ (mem_of_lookup hx)
    dsimp only at this
    rw [hx] at this
    split at this
    · rename_i v' wv e1 e2
      cases e1
      exact ⟨wv, e2, vchk_ok X this⟩
    · cases this
  have hm : ∀ x fv, bval x = some fv → nsFind es x = none := fun x fv h => by
    have := List.all_eq_true.mp T.miss _ (bval_mem h)
    simpa using this
  have hbt : ∀ x fv, bval x = some fv → mb x = some fv := fun x fv h => by
    have := List.all_eq_true.mp boot_bval _ (bval_mem h)
    simp only [Bool.and_eq_true, decide_eq_true_eq] at this
    rw [hbb x this.2, this.1, h]
  intro d
  induction d with
  | zero =>
    refine ⟨⟨_, hg', hv, fun x fv _ _ h => hm x fv h, fun x hx => ?_, trivial⟩, ⟨mb, hb, hbt⟩⟩
    · obtain ⟨f, hf⟩ := Option.isSome_iff_exists.mp hx
      obtain ⟨fa, o, fd, c, oc, vs, t, e1, e2, e3, _⟩ := T.fns _ (fnIn_mem hf)
      exact ⟨fa, o, fd, e1, X _ _ e2, e3, fun args H v H' he => by cases he⟩
  | succ d ih =>
    refine ⟨⟨_, hg', hv, fun x fv _ _ h => hm x fv h, fun x hx => ?_, trivial⟩, ⟨mb, hb, hbt⟩⟩
    · obtain ⟨f, hf⟩ := Option.isSome_iff_exists.mp hx
      obtain ⟨fa, o, fd, c, oc, vs, t, e1, e2, e3, S, e5, e6, e7, e8⟩ := T.fns _ (fnIn_mem hf)
      refine ⟨fa, o, fd, e1, X _ _ e2, e3, ?_⟩
      have key := runFn_ok (f := f) (g := { globs prog (fun x => tv.lookup x) u d with z := zOf x }) ⟨ih.gns, ih.bns⟩ hlim (X _ _ e2) e3 ⟨S.body, S.scope, S.clo, S.glob, S.blt, S.kind, S.gen, S.co, S.bind, fun x hx => List.all_eq_true.mp S.own x hx, fun p hp => by have := List.all_eq_true.mp S.nofree p hp; simpa using this,
        ⟨c, oc, vs, t, e5, X _ _ e6, e7, e8⟩⟩
      intro args H v H' he
      refine key args H v H' ?_
      have he' : ((fnOf prog x).bind fun f => runFn { globs prog (fun x => tv.lookup x) u d with z := zOf x } f args H) = some (v, H') := he
      rw [hf] at he'
      exact he'
end Mine
end

section
set_option autoImplicit false
set_option maxRecDepth 100000
namespace Mine
open PySem PyProof.Rows PySem.W

theorem ints_vrs {σ : List Addr} {h : Heap} : ∀ {vs : List Value} {ns : List Int}, IntsAre vs ns → VRs σ h (ns.map V.int) vs
  | _, _, .nil => .nil
  | _, _, .cons n t r => .cons (.int n t) (ints_vrs r)

/-- the lists that the text's top leaves -/
noncomputable def TopL (K : Frag) (σ₀ : List Addr) (p : List V × Addr) : Prop :=
  ∃ arr n, K.lookup p.2 = some { cls := .type "list", data := .seq arr n } ∧ vchks K σ₀ p.1 arr.toList = true ∧ p.1.length ≤ 1000 ∧ ∃ x r, p.1 = .str x :: r

theorem zip_get {α β : Type} : ∀ {l : List α} {m : List β} {i : Nat} {x : α} {y : β}, l[i]? = some x → m[i]? = some y → (x, y) ∈ l.zip m
  | [], _, i, _, _, h, _ => by simp at h
  | _ :: _, [], i, _, _, _, h => by simp at h
  | a :: l, b :: m, 0, x, y, h1, h2 => by simp at h1 h2; subst h1 h2; simp
  | a :: l, b :: m, i + 1, x, y, h1, h2 => by
    simp at h1 h2
    rw [List.zip_cons_cons]
    exact List.mem_cons_of_mem _ (zip_get h1 h2)

/-- the law's call -/
theorem law_glue {prog : Program} {w : World} {K : Frag} {es : Array DictEntry} {tv : List (Str × V)} {s₁ : Shared} {mg mb : Str → Option Value} {fa a : Addr} {vs : List Value} {ns : List Int} {d : Nat} {H' : Hp} {u : Bool} {Q E : Value → Shared → Prop} {σ₀ : List Addr} {H₀ : Hp}
    (T : TopK prog K es tv σ₀) (hlen0 : σ₀.length = H₀.length) (hnd : σ₀.Nodup) (hobj : ∀ p ∈ H₀.zip σ₀, TopL K σ₀ p)
    (X : K.In s₁.heap) (hg : s₁.heap.Ns mainGlobals mg) (hb : s₁.heap.Ns builtinsNs mb) (hbb : ∀ x : Str, x ≠ "__name__" → mb x = bootBuiltins x) (hlim : s₁.heap.NoLimit) (hfa : mg "law" = some (.ref fa)) (hfn : (fnOf prog "law").isSome = true)
    (hl : s₁.heap.get? a = some { cls := .type "list", data := .seq vs.toArray }) (hI : IntsAre vs ns) (hlen : ns.length ≤ 63) (hd : d ≤ 100)
    (hrun : (globs prog (fun x => tv.lookup x) u d).fn "law" [.ref H₀.length] (H₀ ++ [ns.map V.int]) = some (.bool true, H'))
    (hQ : ∀ h' tk, (∀ b o, s₁.heap.get? b = some o → h'.get? b = some o) → Q (.bool true) { s₁ with heap := h', toks := tk }) : wpAny (model prog w) callerA (call (.ref fa) [.ref a]) Q E s₁ := by
  have B := base_ok_K (w := w) T X hg hb hbb hlim u d
  obtain ⟨o3, ep3, k3, d3⟩ := T.glob
  have hmg : nsFind es "law" = some (.ref fa) := by
    obtain ⟨o, es', ep, h1, h2, h3, h4⟩ := hg
    rw [X _ _ k3] at h1
    cases h1
    rw [d3] at h2
    cases h2
    rw [h4, hfa]
  obtain ⟨mg', hg', _, _, h3, _⟩ := B.gns
  obtain ⟨fa', o, fd, e1, e2, e3, FS⟩ := h3 "law" (by cases d <;> exact hfn)
  have hmg2 : mg' "law" = some (.ref fa) := by
    obtain ⟨o', es', ep, h1, h2, h3, h4⟩ := hg'
    rw [X _ _ k3] at h1
    cases h1
    rw [d3] at h2
    cases h2
    rw [← h4, hmg]
  rw [hmg2] at e1
  cases e1
  have hat : ∀ i xs r, H₀[i]? = some xs → σ₀[i]? = some r → ∃ arr, s₁.heap.PlainList r arr ∧ VRs σ₀ s₁.heap xs arr.toList ∧ xs.length ≤ sizeLine ∧ ∃ x q, xs = .str x :: q := fun i xs r h1 h2 => by
    obtain ⟨arr, n, f1, f2, f3, f4⟩ := hobj _ (zip_get h1 h2)
    exact ⟨arr, ⟨n, X _ _ f1⟩, vchks_ok X f2, Nat.le_trans f3 (by rw [sizeLine_val]; decide), f4⟩
  have hna : a ∉ σ₀ := fun hm => by
    obtain ⟨i, hi, e⟩ := List.getElem_of_mem hm
    have hH : i < H₀.length := by rw [← hlen0]; exact hi
    obtain ⟨arr, ⟨n, p⟩, v, _, x, q, f⟩ := hat i H₀[i] a (by simp [hH]) (by rw [List.getElem?_eq_getElem hi, e])
    rw [hl] at p
    have p2 := congrArg Obj.data (Option.some.inj p)
    have p3 : vs.toArray = arr := by injection p2
    subst p3
    rw [f] at v
    simp only [List.toList_toArray] at v
    cases hI with
    | nil => cases v
    | cons nn tt rr => cases v with | cons v1 v2 => cases v1
  have wr : WR s₁.heap (σ₀ ++ [a]) (H₀ ++ [ns.map V.int]) s₁.heap := by
    refine ⟨by simp [hlen0], fun i xs r h1 h2 => ?_, ?_, fun _ _ e => e⟩
    · by_cases hi : i < H₀.length
      · rw [List.getElem?_append_left hi] at h1
        rw [List.getElem?_append_left (by rw [hlen0]; exact hi)] at h2
        obtain ⟨arr, f1, f2, f3, _⟩ := hat i xs r h1 h2
        exact ⟨arr, f1, f2.mono (List.prefix_append _ _) (Tups.refl _), f3⟩
      · have hi' : i = H₀.length := by
          have := (List.getElem?_eq_some_iff.mp h1).1
          simp at this; omega
        subst hi'
        rw [List.getElem?_append_right (Nat.le_refl _)] at h1
        rw [List.getElem?_append_right (by rw [hlen0]; exact Nat.le_refl _)] at h2
        simp [hlen0] at h1 h2
        subst h1 h2
        refine ⟨vs.toArray, ⟨0, hl⟩, ints_vrs hI, ?_⟩
        rw [List.length_map, sizeLine_val]; omega
    · rw [List.nodup_append]
      refine ⟨hnd, by simp, fun x hx y hy e => ?_⟩
      simp at hy
      subst hy e
      exact hna hx
  refine FS [.ref H₀.length] _ _ _ hrun callerA (σ₀ ++ [a]) s₁ Q E [.ref a] ⟨rfl, ?_, ?_⟩ wr ⟨[a], rfl⟩ (.cons (.ref (by rw [← hlen0]; simp)) .nil) (fun wv h' tk σ' wr' hv ex => ?_) (Nat.zero_le _)
  · show callerA.depth + d < 900
    have : callerA.depth ≤ 500 := by decide
    omega
  · show callerA.units + 10 * d + 300 < cLine
    have : callerA.units ≤ 500 := by decide
    have : cLine = 9900 := rfl
    omega
  · cases hv
    refine hQ h' tk.n fun b o e => ex.keep b o e (by simp) ?_
    rw [List.drop_eq_nil_of_le (by simp [hlen0])]
    simp
end Mine
end

section
set_option autoImplicit false
set_option maxRecDepth 100000
namespace Mine
open PySem PyProof.Rows PySem.W

theorem bind_0 {fd : FuncData} {ps : List Str} (hl : ps.length = 0) (h : bindArgs fd ⟨[], []⟩ = pure (ps.zip [])) : ∀ vals : List Value, vals.length = ps.length → bindArgs fd ⟨vals, []⟩ = pure (ps.zip vals)
  | [], _ => h
  | _ :: _, e => by rw [hl] at e; cases e
theorem bind_1 {fd : FuncData} {ps : List Str} (hl : ps.length = 1) (h : ∀ a, bindArgs fd ⟨[a], []⟩ = pure (ps.zip [a])) : ∀ vals : List Value, vals.length = ps.length → bindArgs fd ⟨vals, []⟩ = pure (ps.zip vals)
  | [a], _ => h a
  | [], e => by rw [hl] at e; cases e
  | _ :: _ :: _, e => by rw [hl] at e; simp at e
theorem bind_2 {fd : FuncData} {ps : List Str} (hl : ps.length = 2) (h : ∀ a b, bindArgs fd ⟨[a, b], []⟩ = pure (ps.zip [a, b])) : ∀ vals : List Value, vals.length = ps.length → bindArgs fd ⟨vals, []⟩ = pure (ps.zip vals)
  | [a, b], _ => h a b
  | [], e => by rw [hl] at e; cases e
  | [_], e => by rw [hl] at e; cases e
  | _ :: _ :: _ :: _, e => by rw [hl] at e; simp at e
theorem bind_3 {fd : FuncData} {ps : List Str} (hl : ps.length = 3) (h : ∀ a b c, bindArgs fd ⟨[a, b, c], []⟩ = pure (ps.zip [a, b, c])) : ∀ vals : List Value, vals.length = ps.length → bindArgs fd ⟨vals, []⟩ = pure (ps.zip vals)
  | [a, b, c], _ => h a b c
  | [], e => by rw [hl] at e; cases e
  | [_], e => by rw [hl] at e; cases e
  | [_, _], e => by rw [hl] at e; cases e
  | _ :: _ :: _ :: _ :: _, e => by rw [hl] at e; simp at e
theorem bind_4 {fd : FuncData} {ps : List Str} (hl : ps.length = 4) (h : ∀ a b c d, bindArgs fd ⟨[a, b, c, d], []⟩ = pure (ps.zip [a, b, c, d])) : ∀ vals : List Value, vals.length = ps.length → bindArgs fd ⟨vals, []⟩ = pure (ps.zip vals)
  | [a, b, c, d], _ => h a b c d
  | [], e => by rw [hl] at e; cases e
  | [_], e => by rw [hl] at e; cases e
  | [_, _], e => by rw [hl] at e; cases e
  | [_, _, _], e => by rw [hl] at e; cases e
  | _ :: _ :: _ :: _ :: _ :: _, e => by rw [hl] at e; simp at e

noncomputable def AllP {α : Type} (P : α → Prop) : List α → Prop
  | [] => True
  | x :: r => P x ∧ AllP P r
theorem AllP.all {α : Type} {P : α → Prop} : ∀ {l : List α}, AllP P l → ∀ p ∈ l, P p
  | _ :: _, h, _, .head _ => h.1
  | _ :: _, h, _, .tail _ m => AllP.all h.2 _ m

noncomputable def esOf (K : Frag) : Array DictEntry := match K.lookup mainGlobals with
  | some o => (match o.data with | .dict es _ => es | _ => #[])
  | none => #[]
end Mine
namespace Mine
open PySem PyProof.Rows PySem.W
theorem plain_of {P : Params} {h : Heap} {a : Addr} {vs : List Value} {xs : List PyData} (hw : Well P h (.ref a) (ofPy (.list xs))) (hL : h.IsList a vs.toArray) : h.get? a = some { cls := .type "list", data := .seq vs.toArray } := by
  have hw' : Well P h (.ref a) (.list (ofPys xs)) := hw
  cases hw' with
  | list h1 h2 =>
    obtain ⟨o, e1, e2, n, e3⟩ := hL
    rw [h1] at e1
    cases e1
    cases e3
    exact h1
theorem good_end {c : ClaimW} {cl : Str → Option Addr} {mean : ExcName → Option Value} {args : List WData} {s₁ : Shared} {h' : Heap} {tk : Nat} (hr : ∀ cls, c.raises args cls = false) (hp : c.post args (.bool true) args = true) (hk : ∀ b o, s₁.heap.get? b = some o → h'.get? b = some o) (hg : s₁.gens = #[]) :
    GoodWG c cl mean args s₁ (.ok (.ret (.bool true))) { s₁ with heap := h', toks := tk } :=
  ⟨.inl ⟨_, _, [], rfl, hr, ReadsW.bool true, hp, fun _ => ⟨List.nodup_nil, fun _ hm => (nomatch hm)⟩⟩, OldK.of_keep hk, rfl, by show AllBare s₁.gens; rw [hg]; exact AllBare.empty⟩
end Mine
end

section
set_option autoImplicit false
set_option maxRecDepth 100000
namespace Mine
open PySem

/-! ### the small reading with what follows handed on: its value on a written text is read off by computation -/
/- a bind under a name of its own: the kernel then unfolds it instead of comparing what follows -/
noncomputable def ob1 {α R : Type} (o : Option α) (k : α → Option R) : Option R := match o with | some v => k v | none => none
noncomputable def ob2 {α R : Type} (o : Option α) (k : α → Option R) : Option R := ob1 o k
noncomputable def ob3 {α R : Type} (o : Option α) (k : α → Option R) : Option R := ob2 o k
noncomputable def ob4 {α R : Type} (o : Option α) (k : α → Option R) : Option R := ob3 o k
noncomputable def ob {α R : Type} (o : Option α) (k : α → Option R) : Option R := ob4 o k
theorem ob_eq {α R : Type} (o : Option α) (k : α → Option R) : ob o k = o.bind k := by cases o <;> rfl
abbrev EvC := (R : Type) → Expr → Kap → Rho → Hp → (V → Hp → Option R) → Option R
abbrev TsC := (R : Type) → Expr → Kap → Rho → Hp → (Bool → Hp → Option R) → Option R

noncomputable def evsC (rec : EvC) (R : Type) (κ : Kap) (ρ : Rho) : List Expr → Hp → (List V → Hp → Option R) → Option R
  | [], h, k => k [] h
  | e :: r, h, k => if notStar e then rec R e κ ρ h fun v h => evsC rec R κ ρ r h fun vs h => k (v :: vs) h else none

noncomputable def evBoolC (rec : EvC) (R : Type) (op : BoolOp) (κ : Kap) (ρ : Rho) : List Expr → Hp → (V → Hp → Option R) → Option R
  | [], _, _ => none
  | [e], h, k => rec R e κ ρ h k
  | e :: r, h, k => rec R e κ ρ h fun v h => (truthV v).bind fun t =>
    match op with
    | .And => if t then evBoolC rec R op κ ρ r h k else k v h
    | .Or => if t then k v h else evBoolC rec R op κ ρ r h k

noncomputable def cmpChainC (rec : EvC) (R : Type) (κ : Kap) (ρ : Rho) : V → List CmpOp → List Expr → Hp → (Bool → Hp → Option R) → Option R
  | x, [op], [e], h, k => if notSet e then rec R e κ ρ h fun y h => (cmpop op x y h).bind fun c => k c h else none
  | _, _, _, _, _ => none

noncomputable def evOptC (rec : EvC) (R : Type) (κ : Kap) (ρ : Rho) : Option Expr → Hp → (V → Hp → Option R) → Option R
  | none, h, k => k .none h
  | some e, h, k => rec R e κ ρ h k

noncomputable def evIterC (g : Glob) (rec : EvC) (R : Type) (κ : Kap) (ρ : Rho) (e : Expr) (h : Hp) (k : List V → Option Nat → Hp → Option R) : Option R :=
  if notSet e then
    match rangeCall e with
    | some (f, args) => if isGlobalB g κ f then evsC rec R κ ρ args h fun vs h => (rangeArgs vs).bind fun r => k (rangeV r.1 r.2) none h else none
    | none => rec R e κ ρ h fun v h => (itemsOf v h).bind fun q => k q.1 q.2 h
  else none

noncomputable def tstsC (recT : TsC) (R : Type) (κ : Kap) (ρ : Rho) : List Expr → Hp → (Bool → Hp → Option R) → Option R
  | [], h, k => k true h
  | e :: r, h, k => recT R e κ ρ h fun t h => if t then tstsC recT R κ ρ r h k else k false h

noncomputable def cgoC (g : Glob) (rec : EvC) (recT : TsC) (ω : Str → Bool) (elt : Expr) (acc : Nat) (κ : Kap) : List Comprehension → Rho → Hp → Option Hp
  | [], ρ, h => rec Hp elt κ ρ h fun v h => appendTo acc v h
  | g1 :: rest, ρ, h =>
    if g1.is_async = 0 ∧ freshT g1.target ρ = true then
    evIterC g rec Hp κ ρ g1.iter h fun items c h => loopL c items (fun x h => ob (bindT ω g1.target x ρ) fun ρ' =>
      tstsC recT Hp κ ρ' g1.ifs h fun t h => if t then cgoC g rec recT ω elt acc κ rest ρ' h else some h) items h
    else none

noncomputable def evCompC (g : Glob) (rec : EvC) (recT : TsC) (R : Type) (elt : Expr) (gens : List Comprehension) (scope : Scope) (κ : Kap) (ρ : Rho) (h : Hp) (k : V → Hp → Option R) : Option R :=
  match gens with
  | [] => none
  | g1 :: rest =>
    if g1.is_async = 0 ∧ freeOk scope κ = true ∧ freshT g1.target (fun y => if ownName scope y then none else ρ y) = true then
    evIterC g rec R κ ρ g1.iter h fun items c h =>
      (loopL c items (fun x h' => ob (bindT (ownName scope) g1.target x (fun y => if ownName scope y then none else ρ y)) fun ρ' =>
        tstsC recT Hp (compKap scope κ) ρ' g1.ifs h' fun t h' => if t then cgoC g rec recT (ownName scope) elt h.length (compKap scope κ) rest ρ' h' else some h')
        items (h ++ [[]])).bind fun h' => k (.ref h.length) h'
    else none

noncomputable def evFC (g : Glob) (b : Nat) (rec : EvC) (recT : TsC) (R : Type) (e : Expr) (κ : Kap) (ρ : Rho) (h : Hp) (k : V → Hp → Option R) : Option R :=
  match e with
  | .Constant c _ _ => ob (cval c) fun v => k v h
  | .Name x _ => ob (nameV g κ ρ x) fun v => k v h
  | .BoolOp op vs _ => evBoolC rec R op κ ρ vs h k
  | .BinOp l op r _ => rec R l κ ρ h fun x h => rec R r κ ρ h fun y h => (binop op x y h).bind fun p => k p.1 p.2
  | .UnaryOp op x _ => rec R x κ ρ h fun v h => (unop op v).bind fun u => k u h
  | .Compare l ops cs _ => rec R l κ ρ h fun x h => cmpChainC rec R κ ρ x ops cs h fun t h => k (.bool t) h
  | .Call f args kws pos => match kws with
    | [] => (match f with
      | .Attribute o m ap => if okBase o ∧ ap.endLine = pos.line ∧ args.length < 30 then
          rec R o κ ρ h fun x h => if m = "replace" then (if g.z = 1 then (repl x args h).bind fun p => k p.1 p.2 else none) else evsC rec R κ ρ args h fun vs h => (callM b m x vs h).bind fun p => k p.1 p.2 else none
      | .Name f _ => if κ f = some .globalImplicit ∧ f ≠ "__debug__" ∧ args.length < 30 then
          (if g.isFn f then (if g.val f = none ∧ tokOk g.z f args = true then evsC rec R κ ρ args h fun vs h => (g.fn f vs h).bind fun p => k p.1 p.2 else none)
          else if isGlobalB g κ f then evsC rec R κ ρ args h fun vs h => (callB f vs h).bind fun p => k p.1 p.2 else none) else none
      | _ => none)
    | _ => none
  | .Subscript v i _ => (match sliceOf i with
    | some y => rec R v κ ρ h fun x h => evOptC rec R κ ρ y.1 h fun a h => evOptC rec R κ ρ y.2.1 h fun c h => evOptC rec R κ ρ y.2.2 h fun d h => (slice x a c d h).bind fun p => k p.1 p.2
    | none => rec R v κ ρ h fun x h => rec R i κ ρ h fun y h => (idx x y h).bind fun v => k v h)
  | .List es _ => evsC rec R κ ρ es h fun vs h => if vs.length ≤ sizeLine then k (.ref h.length) (h ++ [vs]) else none
  | .Tuple es _ _ => evsC rec R κ ρ es h fun vs h => if vs.length ≤ sizeLine then k (.tup vs) h else none
  | .ListComp elt gens scope _ => evCompC g rec recT R elt gens scope κ ρ h k
  | _ => none

noncomputable def tstAllC (recT : TsC) (R : Type) (op : BoolOp) (κ : Kap) (ρ : Rho) : List Expr → Hp → (Bool → Hp → Option R) → Option R
  | [], h, k => k (op == .And) h
  | e :: r, h, k => recT R e κ ρ h fun t h =>
    match op with
    | .And => if t then tstAllC recT R op κ ρ r h k else k false h
    | .Or => if t then k true h else tstAllC recT R op κ ρ r h k

noncomputable def tstFC (rec : EvC) (recT : TsC) (R : Type) (e : Expr) (κ : Kap) (ρ : Rho) (h : Hp) (k : Bool → Hp → Option R) : Option R :=
  match e with
  | .UnaryOp op x _ => if isNotOp op then recT R x κ ρ h fun t h => k (!t) h else none
  | .BoolOp op vs _ => tstAllC recT R op κ ρ vs h k
  | .Compare l ops cs _ => rec R l κ ρ h fun x h => cmpChainC rec R κ ρ x ops cs h k
  | .IfExp .. => none
  | e => rec R e κ ρ h fun v h => (truthV v).bind fun t => k t h

noncomputable def evTC (g : Glob) (b : Nat) : Nat → EvC × TsC
  | 0 => (fun _ _ _ _ _ _ => none, fun _ _ _ _ _ _ => none)
  | n + 1 => (evFC g b (evTC g b n).1 (evTC g b n).2, tstFC (evTC g b n).1 (evTC g b n).2)

abbrev ExC := (R : Type) → Stmt → Rho → Hp → (Fl → Rho → Hp → Option R) → Option R
noncomputable def exsC (rec : ExC) (R : Type) : List Stmt → Rho → Hp → (Fl → Rho → Hp → Option R) → Option R
  | [], ρ, h, k => k .next ρ h
  | s :: r, ρ, h, k => rec R s ρ h fun f ρ h => match f with
    | .next => exsC rec R r ρ h k
    | f => k f ρ h

noncomputable def exFC (g : Glob) (b : Nat) (ω : Str → Bool) (κ : Kap) (rec : EvC) (recT : TsC) (recS : ExC) (R : Type) (st : Stmt) (ρ : Rho) (h : Hp) (k : Fl → Rho → Hp → Option R) : Option R :=
  match st with
  | .Expr e _ => if notComp e then rec R e κ ρ h fun v h => if isNoneV v then k .next ρ h else none else none
  | .Break _ => k .brk ρ h
  | .Continue _ => k .cont ρ h
  | .Return (some e) _ => rec R e κ ρ h fun v h => k (.ret v) ρ h
  | .Assign ts e _ => (match ts with
    | [.Name x _] => if ω x then rec R e κ ρ h fun v h => k .next (upd ρ x v) h else none
    | [.Subscript o i _] => if notComp e && notSlice i then rec R e κ ρ h fun v h => rec R o κ ρ h fun x h => rec R i κ ρ h fun y h => (setIdx b x y v h).bind fun h' => k .next ρ h' else none
    | _ => none)
  | .Delete ts _ => (match ts with
    | [.Subscript o i _] => if notSlice i then rec R o κ ρ h fun x h => rec R i κ ρ h fun y h => (delIdx b x y h).bind fun h' => k .next ρ h' else none
    | _ => none)
  | .If t body orelse _ => recT R t κ ρ h fun c h => if c then exsC recS R body ρ h k else exsC recS R orelse ρ h k
  | .For t it body orelse _ => match orelse with
    | [] => evIterC g rec R κ ρ it h fun items c h => (loopS c items (fun x ρ h => ob (bindT ω t x ρ) fun ρ' => exsC recS (Fl × Rho × Hp) body ρ' h fun f ρ h => some (f, ρ, h)) items ρ h).bind fun q => k q.1 q.2.1 q.2.2
    | _ => none
  | _ => none

noncomputable def exTC (g : Glob) (b : Nat) (ω : Str → Bool) (κ : Kap) : Nat → ExC
  | 0 => fun _ _ _ _ _ => none
  | n + 1 => exFC g b ω κ (evTC g b n).1 (evTC g b n).2 (exTC g b ω κ n)

noncomputable def runFnC (g : Glob) (f : FnD) (args : List V) (h : Hp) : Option (V × Hp) :=
  if args.length = f.params.length then
    exsC (exTC g h.length (fun x => ownName f.scope x) (fun x => f.scope.names.lookup x) fuel) (V × Hp) f.body (fun x => (f.params.zip args).reverse.lookup x) h fun fl _ h => match fl with
      | .ret v => some (v, h)
      | .next => some (.none, h)
      | _ => none
  else none

/-! the two readings agree -/
noncomputable def RC (rec : Rec) (recC : EvC) : Prop := ∀ R e κ ρ h k, recC R e κ ρ h k = (rec e κ ρ h).bind fun p => k p.1 p.2
noncomputable def TC (rec : RecT) (recC : TsC) : Prop := ∀ R e κ ρ h k, recC R e κ ρ h k = (rec e κ ρ h).bind fun p => k p.1 p.2

section
variable {g : Glob} {b : Nat} {rec : Rec} {recC : EvC} {recT : RecT} {recTC : TsC} {R : Type} {κ : Kap} {ρ : Rho}

theorem evsC_eq (hr : RC rec recC) : ∀ (es : List Expr) (h : Hp) (k : List V → Hp → Option R), evsC recC R κ ρ es h k = (evs rec κ ρ es h).bind fun p => k p.1 p.2
  | [], h, k => rfl
  | e :: r, h, k => by
    unfold evsC evs
    split
    · rw [hr, Option.bind_assoc]
      congr 1
      funext p
      rw [evsC_eq hr r]
      cases evs rec κ ρ r p.2 <;> rfl
    · rfl

theorem evBoolC_eq (hr : RC rec recC) {op : BoolOp} : ∀ (es : List Expr) (h : Hp) (k : V → Hp → Option R), evBoolC recC R op κ ρ es h k = (evBool rec op κ ρ es h).bind fun p => k p.1 p.2
  | [], h, k => rfl
  | [e], h, k => hr ..
  | e :: e' :: r, h, k => by
    unfold evBoolC evBool
    rw [hr, Option.bind_assoc]
    congr 1
    funext p
    cases truthV p.1 with
    | none => rfl
    | some t =>
      simp only [Option.bind_some]
      cases op <;> cases t <;> simp only [if_true, if_false, Bool.false_eq_true] <;> first | rfl | exact evBoolC_eq hr (e' :: r) p.2 k

theorem cmpChainC_eq (hr : RC rec recC) : ∀ (ops : List CmpOp) (x : V) (es : List Expr) (h : Hp) (k : Bool → Hp → Option R), cmpChainC recC R κ ρ x ops es h k = (cmpChain rec κ ρ x ops es h).bind fun p => k p.1 p.2
  | [], x, es, h, k => by cases es <;> rfl
  | [op], x, [], h, k => rfl
  | op :: o2 :: ops, x, [], h, k => rfl
  | [op], x, [e], h, k => by
    dsimp only [cmpChainC, cmpChain]
    split
    · rw [hr, Option.bind_assoc]
      congr 1
      funext p
      cases cmpop op x p.1 p.2 <;> rfl
    · rfl
  | [op], x, e :: e2 :: es, h, k => rfl
  | op :: o2 :: ops, x, e :: es, h, k => rfl

theorem evOptC_eq (hr : RC rec recC) (e : Option Expr) (h : Hp) (k : V → Hp → Option R) : evOptC recC R κ ρ e h k = (evOpt rec κ ρ e h).bind fun p => k p.1 p.2 := by
  cases e with
  | none => rfl
  | some e => exact hr ..

theorem evIterC_eq (hr : RC rec recC) (e : Expr) (h : Hp) (k : List V → Option Nat → Hp → Option R) : evIterC g recC R κ ρ e h k = (evIter g rec κ ρ e h).bind fun q => k q.1.1 q.1.2 q.2 := by
  unfold evIterC evIter
  split
  · cases rangeCall e with
    | some fa =>
      obtain ⟨f, args⟩ := fa
      simp only
      split
      · rw [evsC_eq hr, Option.bind_assoc]
        congr 1
        funext p
        cases rangeArgs p.1 <;> rfl
      · rfl
    | none =>
      simp only
      rw [hr, Option.bind_assoc]
      congr 1
      funext p
      cases itemsOf p.1 p.2 <;> rfl
  · rfl

theorem tstsC_eq (ht : TC recT recTC) : ∀ (es : List Expr) (ρ : Rho) (h : Hp) (k : Bool → Hp → Option R), tstsC recTC R κ ρ es h k = (tsts recT κ ρ es h).bind fun p => k p.1 p.2
  | [], ρ, h, k => rfl
  | e :: r, ρ, h, k => by
    unfold tstsC tsts
    rw [ht, Option.bind_assoc]
    congr 1
    funext p
    cases p.1
    · rfl
    · simp only [if_true]; exact tstsC_eq ht r ρ p.2 k

theorem cgoC_eq (hr : RC rec recC) (ht : TC recT recTC) {ω : Str → Bool} {elt : Expr} {acc : Nat} : ∀ (gens : List Comprehension) (ρ : Rho) (h : Hp), cgoC g recC recTC ω elt acc κ gens ρ h = cgo g rec recT ω elt acc κ gens ρ h
  | [], ρ, h => by unfold cgoC cgo; rw [hr]
  | g1 :: rest, ρ, h => by
    unfold cgoC cgo
    split
    · rw [evIterC_eq hr]
      congr 1
      funext q
      congr 1
      funext x h
      rw [ob_eq]
      congr 1
      funext ρ'
      rw [tstsC_eq ht]
      congr 1
      funext p
      split
      · exact cgoC_eq hr ht rest ρ' p.2
      · rfl
    · rfl

theorem evCompC_eq (hr : RC rec recC) (ht : TC recT recTC) (elt : Expr) (gens : List Comprehension) (scope : Scope) (h : Hp) (k : V → Hp → Option R) : evCompC g recC recTC R elt gens scope κ ρ h k = (evComp g rec recT elt gens scope κ ρ h).bind fun p => k p.1 p.2 := by
  cases gens with
  | nil => rfl
  | cons g1 rest =>
    unfold evCompC evComp
    simp only
    split
    · rw [evIterC_eq hr, Option.bind_assoc]
      congr 1
      funext q
      rw [Option.bind_map]
      have e : (fun x h' => ob (bindT (ownName scope) g1.target x (fun y => if ownName scope y then none else ρ y)) fun ρ' =>
        tstsC recTC Hp (compKap scope κ) ρ' g1.ifs h' fun t h' => if t then cgoC g recC recTC (ownName scope) elt q.2.length (compKap scope κ) rest ρ' h' else some h') = (fun x h' => (bindT (ownName scope) g1.target x (fun y => if ownName scope y then none else ρ y)).bind fun ρ' =>
        (tsts recT (compKap scope κ) ρ' g1.ifs h').bind fun p => if p.1 then cgo g rec recT (ownName scope) elt q.2.length (compKap scope κ) rest ρ' p.2 else some p.2) := by
        funext x h'
        rw [ob_eq]
        congr 1
        funext ρ'
        rw [tstsC_eq ht]
        congr 1
        funext p
        split
        · exact cgoC_eq hr ht _ ρ' p.2
        · rfl
      rw [e]
      rfl
    · rfl

theorem evFC_eq (hr : RC rec recC) (ht : TC recT recTC) : RC (evF g b rec recT) (evFC g b recC recTC) := by
  intro R e κ ρ h k
  cases e
  case Constant c _ _ => dsimp only [evFC, evF]; cases cval c <;> rfl
  case Name x _ => dsimp only [evFC, evF]; cases nameV g κ ρ x <;> rfl
  case BoolOp => exact evBoolC_eq hr ..
  case BinOp l op r _ =>
    dsimp only [evFC, evF]
    rw [hr, Option.bind_assoc]; congr 1; funext p; rw [hr, Option.bind_assoc]
  case UnaryOp op x _ =>
    dsimp only [evFC, evF]
    rw [hr, Option.bind_assoc]; congr 1; funext p; cases unop op p.1 <;> rfl
  case Compare l ops cs _ =>
    dsimp only [evFC, evF]
    rw [hr, Option.bind_assoc]; congr 1; funext p; rw [cmpChainC_eq hr, Option.bind_map]; rfl
  case Call f args kws pos =>
    cases kws
    case cons => rfl
    case nil =>
    cases f
    case Attribute o m ap =>
      dsimp only [evFC, evF]
      split
      · rw [hr, Option.bind_assoc]; congr 1; funext p
        by_cases hm : m = "replace"
        · rw [if_pos hm, if_pos hm]; split <;> rfl
        · rw [if_neg hm, if_neg hm, evsC_eq hr, Option.bind_assoc]
      · rfl
    case Name f _ =>
      dsimp only [evFC, evF]
      split
      · split
        · split
          · rw [evsC_eq hr, Option.bind_assoc]
          · rfl
        · split
          · rw [evsC_eq hr, Option.bind_assoc]
          · rfl
      · rfl
    all_goals rfl
  case Subscript v i _ =>
    dsimp only [evFC, evF]
    cases sliceOf i with
    | some y =>
      simp only
      rw [hr, Option.bind_assoc]; congr 1; funext p; rw [evOptC_eq hr, Option.bind_assoc]; congr 1; funext p; rw [evOptC_eq hr, Option.bind_assoc]; congr 1; funext p; rw [evOptC_eq hr, Option.bind_assoc]
    | none =>
      simp only
      rw [hr, Option.bind_assoc]; congr 1; funext p; rw [hr, Option.bind_assoc]; congr 1; funext q; rw [Option.bind_map]; rfl
  case List es _ =>
    dsimp only [evFC, evF]
    rw [evsC_eq hr, Option.bind_assoc]; congr 1; funext p; split <;> rfl
  case Tuple es _ _ =>
    dsimp only [evFC, evF]
    rw [evsC_eq hr, Option.bind_assoc]; congr 1; funext p; split <;> rfl
  case ListComp => exact evCompC_eq hr ht ..
  all_goals rfl

theorem tstAllC_eq (ht : TC recT recTC) {op : BoolOp} : ∀ (es : List Expr) (h : Hp) (k : Bool → Hp → Option R), tstAllC recTC R op κ ρ es h k = (tstAll recT op κ ρ es h).bind fun p => k p.1 p.2
  | [], h, k => rfl
  | e :: r, h, k => by
    unfold tstAllC tstAll
    rw [ht, Option.bind_assoc]
    congr 1
    funext p
    obtain ⟨t, h'⟩ := p
    cases op <;> cases t <;> simp only [if_true, if_false, Bool.false_eq_true] <;> first | rfl | exact tstAllC_eq ht r h' k

theorem tstFC_eq (hr : RC rec recC) (ht : TC recT recTC) : TC (tstF rec recT) (tstFC recC recTC) := by
  intro R e κ ρ h k
  cases e
  case UnaryOp op x _ =>
    dsimp only [tstFC, tstF]
    split
    · rw [ht, Option.bind_map]; rfl
    · rfl
  case BoolOp => exact tstAllC_eq ht ..
  case Compare =>
    dsimp only [tstFC, tstF]
    rw [hr, Option.bind_assoc]; congr 1; funext p; rw [cmpChainC_eq hr]
  case IfExp => rfl
  all_goals
    dsimp only [tstFC, tstF]
    rw [hr, Option.bind_assoc]; congr 1; funext p; cases truthV p.1 <;> rfl

theorem evTC_eq : ∀ n, RC (evT g b n).1 (evTC g b n).1 ∧ TC (evT g b n).2 (evTC g b n).2
  | 0 => ⟨fun _ _ _ _ _ _ => rfl, fun _ _ _ _ _ _ => rfl⟩
  | n + 1 => ⟨evFC_eq (evTC_eq n).1 (evTC_eq n).2, tstFC_eq (evTC_eq n).1 (evTC_eq n).2⟩

noncomputable def SC' (rec : RecS) (recC : ExC) : Prop := ∀ R st ρ h k, recC R st ρ h k = (rec st ρ h).bind fun q => k q.1 q.2.1 q.2.2
theorem exsC_eq {recS : RecS} {recSC : ExC} (hs : SC' recS recSC) : ∀ (body : List Stmt) (R : Type) (ρ : Rho) (h : Hp) (k : Fl → Rho → Hp → Option R), exsC recSC R body ρ h k = (exs recS body ρ h).bind fun q => k q.1 q.2.1 q.2.2
  | [], R, ρ, h, k => rfl
  | s :: r, R, ρ, h, k => by
    unfold exsC exs
    rw [hs, Option.bind_assoc]
    congr 1
    funext q
    obtain ⟨f, ρ', h'⟩ := q
    cases f
    · exact exsC_eq hs r R ρ' h' k
    · rfl
    · rfl
    · rfl

theorem exFC_eq {ω : Str → Bool} {recS : RecS} {recSC : ExC} (hr : RC rec recC) (ht : TC recT recTC) (hs : SC' recS recSC) : SC' (exF g b ω κ rec recT recS) (exFC g b ω κ recC recTC recSC) := by
  intro R st ρ h k
  cases st
  case Expr e _ =>
    dsimp only [exFC, exF]
    split
    · rw [hr, Option.bind_assoc]; congr 1; funext p; split <;> rfl
    · rfl
  case Return e _ =>
    cases e
    · rfl
    · dsimp only [exFC, exF]
      rw [hr, Option.bind_map]; rfl
  case Assign ts e _ =>
    rcases ts with _ | ⟨t, _ | ⟨t2, ts⟩⟩
    · rfl
    · cases t
      case Name x _ =>
        dsimp only [exFC, exF]
        split
        · rw [hr, Option.bind_map]; rfl
        · rfl
      case Subscript o i _ =>
        dsimp only [exFC, exF]
        split
        · rw [hr, Option.bind_assoc]; congr 1; funext p; rw [hr, Option.bind_assoc]; congr 1; funext q; rw [hr, Option.bind_assoc]; congr 1; funext r; rw [Option.bind_map]; rfl
        · rfl
      all_goals rfl
    · cases t <;> rfl
  case Delete ts _ =>
    rcases ts with _ | ⟨t, _ | ⟨t2, ts⟩⟩
    · rfl
    · cases t
      case Subscript o i _ =>
        dsimp only [exFC, exF]
        split
        · rw [hr, Option.bind_assoc]; congr 1; funext p; rw [hr, Option.bind_assoc]; congr 1; funext q; rw [Option.bind_map]; rfl
        · rfl
      all_goals rfl
    · cases t <;> rfl
  case If t body orelse _ =>
    dsimp only [exFC, exF]
    rw [ht, Option.bind_assoc]; congr 1; funext p; split <;> exact exsC_eq hs ..
  case For t it body orelse _ =>
    cases orelse
    · dsimp only [exFC, exF]
      rw [evIterC_eq hr, Option.bind_assoc]; congr 1; funext q
      congr 1
      congr 1
      funext x ρ h
      rw [ob_eq]
      congr 1
      funext ρ'
      rw [exsC_eq hs]
      cases exs recS _ ρ' h with
      | none => rfl
      | some q => rfl
    · rfl
  all_goals rfl

theorem exTC_eq {ω : Str → Bool} : ∀ n, SC' (exT g b ω κ n) (exTC g b ω κ n)
  | 0 => fun _ _ _ _ _ => rfl
  | n + 1 => exFC_eq (evTC_eq n).1 (evTC_eq n).2 (exTC_eq n)
end

theorem runFn_eq (g : Glob) (f : FnD) (args : List V) (h : Hp) : runFn g f args h = runFnC g f args h := by
  unfold runFn runFnC
  split
  · rw [exsC_eq (exTC_eq fuel)]
    split
    · rename_i e; rw [e]; rfl
    · rename_i e; rw [e]; rfl
    · rename_i n1 n2
      cases e : exs (exT g (List.length h) (fun x => ownName f.scope x) (fun x => List.lookup x f.scope.names) fuel) f.body (fun x => List.lookup x (f.params.zip args).reverse) h with
      | none => rfl
      | some q =>
        obtain ⟨fl, ρ, h'⟩ := q
        cases fl
        · exact (n2 _ _ e).elim
        · rfl
        · rfl
        · exact (n1 _ _ _ e).elim
  · rfl
end Mine
end

section
set_option autoImplicit false
namespace Mine
open PySem

theorem fn_eq (p : Program) (val : Str → Option V) (u : Bool) (d : Nat) (x : Str) (args : List V) (h : Hp) : (globs p val u (d + 1)).fn x args h = (fnOf p x).bind fun f => runFnC { globs p val u d with z := zOf x } f args h := by
  show ((fnOf p x).bind fun f => runFn { globs p val u d with z := zOf x } f args h) = _
  congr 1
  funext f
  exact runFn_eq ..

noncomputable def dctLk (es : List (Str × V)) (q : V) : Option V := match q with | .str k => es.lookup k | _ => none

noncomputable def b_len : Str := ⟨#[108, 101, 110]⟩
noncomputable def b_ord : Str := ⟨#[111, 114, 100]⟩
noncomputable def b_chr : Str := ⟨#[99, 104, 114]⟩
noncomputable def b_isinstance : Str := ⟨#[105, 115, 105, 110, 115, 116, 97, 110, 99, 101]⟩
noncomputable def b_type : Str := ⟨#[116, 121, 112, 101]⟩
noncomputable def b_sorted : Str := ⟨#[115, 111, 114, 116, 101, 100]⟩
noncomputable def b_any : Str := ⟨#[97, 110, 121]⟩
noncomputable def m_append : Str := ⟨#[97, 112, 112, 101, 110, 100]⟩
noncomputable def m_pop : Str := ⟨#[112, 111, 112]⟩
noncomputable def m_join : Str := ⟨#[106, 111, 105, 110]⟩
noncomputable def m_rfind : Str := ⟨#[114, 102, 105, 110, 100]⟩
noncomputable def m_count : Str := ⟨#[99, 111, 117, 110, 116]⟩
noncomputable def m_replace : Str := ⟨#[114, 101, 112, 108, 97, 99, 101]⟩

noncomputable def bindNs : List Str → List V → Rho → Option Rho
  | [], [], ρ => some ρ
  | x :: r, v :: vs, ρ => bindNs r vs (upd ρ x v)
  | _, _, _ => none
noncomputable def bind2 (a b : Str) (x : V) (ρ : Rho) : Option Rho := match x with | .tup vs => bindNs [a, b] vs ρ | _ => none
theorem bind2_tup (a b : Str) (v w : V) (ρ : Rho) : bind2 a b (.tup [v, w]) ρ = some (upd (upd ρ a v) b w) := rfl
theorem strNe {a b : Str} (h : decide (a = b) = false) : ¬ a = b := of_decide_eq_false h
section
variable (h : Hp) (b : Nat)
theorem callB_len (as : List V) : callB b_len as h = (match as with
    | [.str s] => some (.int s.length, h)
    | [.tup vs] => some (.int vs.length, h)
    | [.ref a] => (h[a]?).map fun xs => (.int xs.length, h)
    | _ => none) := if_pos (by decide)
theorem len_str (s : Str) : callB b_len [.str s] h = some (.int s.length, h) := by rw [callB_len]
theorem len_tup (s : List V) : callB b_len [.tup s] h = some (.int s.length, h) := by rw [callB_len]
theorem len_ref {a : Nat} {xs : List V} (e : h[a]? = some xs) : callB b_len [.ref a] h = some (.int xs.length, h) := by rw [callB_len]; simp only [e, Option.map_some]
theorem callB_chr (as : List V) : callB b_chr as h = (match as with
    | [.int i] => if 0 ≤ i ∧ i < 0x110000 then some (.str ⟨#[i.toNat]⟩, h) else none
    | _ => none) := by unfold callB; rw [if_neg (by decide), if_neg (by decide), if_pos (by decide)]; (try rfl)
theorem chr_int {i : Int} (h0 : 0 ≤ i) (h1 : i < 0x110000) : callB b_chr [.int i] h = some (.str ⟨#[i.toNat]⟩, h) := by rw [callB_chr]; simp only [h0, h1, and_self, if_true]
theorem callB_isinstance (as : List V) : callB b_isinstance as h = (match as with
    | [v, .type t] => if t = "tuple" ∨ t = "str" ∨ t = "bool" then (typeV h v).map fun u => (.bool (u == t), h) else none
    | _ => none) := by unfold callB; rw [if_neg (by decide), if_neg (by decide), if_neg (by decide), if_pos (by decide)]; (try rfl)
theorem callB_sorted (as : List V) : callB b_sorted as h = (match as with
    | [.ref a] => (h[a]?).bind fun xs => (intsOf xs).bind fun ns => if ns.length < 64 then some (.ref h.length, h ++ [(sortI ns).map .int]) else none
    | _ => none) := by unfold callB; rw [if_neg (by decide), if_neg (by decide), if_neg (by decide), if_neg (by decide), if_neg (by decide), if_pos (by decide)]; (try rfl)
theorem callB_any (as : List V) : callB b_any as h = (match as with
    | [.ref a] => (h[a]?).bind fun xs => (boolsOf xs).map fun bs => (.bool (bs.any id), h)
    | _ => none) := by unfold callB; rw [if_neg (by decide), if_neg (by decide), if_neg (by decide), if_neg (by decide), if_neg (by decide), if_neg (by decide), if_pos (by decide)]; (try rfl)
theorem append_ref {a : Nat} {xs : List V} (v : V) (e : h[a]? = some xs) (h1 : b ≤ a) (h2 : xs.length ≤ 1000000) : callM b m_append (.ref a) [v] h = some (.none, h.set a (xs ++ [v])) := by
  unfold callM
  simp only
  rw [if_pos (by decide)]
  simp only [e, Option.bind_some, h1, h2, and_self, if_true]
theorem pop_ref {a : Nat} {xs : List V} (e : h[a]? = some xs) (h1 : b ≤ a) : callM b m_pop (.ref a) [] h = (xs.getLast?).map fun v => (v, h.set a xs.dropLast) := by
  unfold callM
  simp only
  rw [if_neg (by decide), if_pos (by decide)]
  simp only [e, Option.bind_some, h1, if_true]
theorem join_str (s : Str) (as : List V) : callM b m_join (.str s) as h = (match as with
      | [.ref a] => (h[a]?).bind fun xs => (strsOf xs).bind fun ss => if JoinOk s ss then some (.str (Txt.join s ss), h) else none
      | _ => none) := by
  unfold callM
  simp only
  rw [if_pos (by decide)]; (try rfl)
end

/-! loops -/
theorem loopS_rule {c : Option Nat} {all : List V} {f : V → Rho → Hp → Option (Fl × Rho × Hp)} (I : Nat → Rho → Hp → Prop)
    (hstep : ∀ i x ρ h, all[i]? = some x → I i ρ h → chk c all h = true ∧ ∃ ρ' h', (f x ρ h = some (.next, ρ', h') ∨ f x ρ h = some (.cont, ρ', h')) ∧ I (i + 1) ρ' h')
    (hend : ∀ ρ h, I all.length ρ h → chk c all h = true) {ρ : Rho} {h : Hp} (h0 : I 0 ρ h) :
    ∃ ρ' h', loopS c all f all ρ h = some (.next, ρ', h') ∧ I all.length ρ' h' := by
  suffices H : ∀ (rest : List V) (i : Nat) (ρ : Rho) (h : Hp), all.drop i = rest → I i ρ h → i ≤ all.length → ∃ ρ' h', loopS c all f rest ρ h = some (.next, ρ', h') ∧ I all.length ρ' h' from H all 0 ρ h rfl h0 (Nat.zero_le _)
  intro rest
  induction rest with
  | nil =>
    intro i ρ h hd hi hl
    have : i = all.length := by
      have := congrArg List.length hd
      simp at this
      omega
    subst this
    exact ⟨ρ, h, by simp [loopS, hend _ _ hi], hi⟩
  | cons x rest ih =>
    intro i ρ h hd hi hl
    have hx : all[i]? = some x := by rw [← List.head?_drop, hd]; (try rfl)
    have hr : all.drop (i + 1) = rest := by rw [← List.tail_drop, hd]; (try rfl)
    obtain ⟨hc, ρ', h', hf, hi'⟩ := hstep i x ρ h hx hi
    obtain ⟨ρ2, h2, e2, i2⟩ := ih (i + 1) ρ' h' hr hi' (by
      have := (List.getElem?_eq_some_iff.mp hx).1
      omega)
    refine ⟨ρ2, h2, ?_, i2⟩
    unfold loopS
    rw [if_pos hc]
    rcases hf with hf | hf <;> rw [hf] <;> exact e2
theorem chk_none (items : List V) (h : Hp) : chk none items h = true := rfl
theorem V.beqs_refl_of (xs : List V) : V.beqs xs xs = true := by
  have key : ∀ n : Nat, (∀ v : V, sizeOf v < n → V.beq v v = true) ∧ (∀ vs : List V, sizeOf vs < n → V.beqs vs vs = true) := by
    intro n
    induction n with
    | zero => exact ⟨fun _ h => absurd h (Nat.not_lt_zero _), fun _ h => absurd h (Nat.not_lt_zero _)⟩
    | succ n ih =>
      constructor
      · intro v hv
        cases v <;> simp [V.beq]
        rename_i vs
        exact ih.2 vs (by simp at hv; omega)
      · intro vs hv
        cases vs with
        | nil => simp [V.beqs]
        | cons v vs =>
          simp only [V.beqs, Bool.and_eq_true]
          exact ⟨ih.1 v (by simp at hv; omega), ih.2 vs (by simp at hv; omega)⟩
  exact (key _).2 xs (Nat.lt_succ_self _)
theorem chk_some {a : Nat} {items : List V} {h : Hp} (e : h[a]? = some items) : chk (some a) items h = true := by
  unfold chk; simp only [e]; exact V.beqs_refl_of _

theorem seqIndex_nat {k n : Nat} (h : k < n) : seqIndex? (k : Int) n = some k := by
  unfold seqIndex?
  have h1 : ¬ ((k : Int) < 0) := by omega
  have h2 : (0 : Int) ≤ k := by omega
  have h3 : (k : Int) < n := by omega
  simp [h1, h2, h3]
theorem seqIndex_pos {i : Int} {n : Nat} (h0 : 0 ≤ i) (h : i.toNat < n) : seqIndex? i n = some i.toNat := by
  obtain ⟨k, rfl⟩ := Int.eq_ofNat_of_zero_le h0
  exact seqIndex_nat h
theorem seqIndex_neg {i : Int} {n k : Nat} (h0 : i < 0) (h : i + n = k) (hk : k < n) : seqIndex? i n = some k := by
  unfold seqIndex?
  have h2 : (0 : Int) ≤ i + n := by omega
  have h3 : i + n < n := by omega
  simp only [h0, if_true, h2, h3, decide_true, Bool.and_self]
  congr 1
  omega
theorem idx_ref {h : Hp} {a : Nat} {xs : List V} {i : Int} {v : V} (e : h[a]? = some xs) (h0 : 0 ≤ i) (hv : xs[i.toNat]? = some v) : idx (.ref a) (.int i) h = some v := by
  have hl := (List.getElem?_eq_some_iff.mp hv).1
  simp only [idx, e, Option.bind_some, seqIndex_pos h0 hl, hv]
theorem idx_tup {h : Hp} {xs : List V} {i : Int} {v : V} (h0 : 0 ≤ i) (hv : xs[i.toNat]? = some v) : idx (.tup xs) (.int i) h = some v := by
  have hl := (List.getElem?_eq_some_iff.mp hv).1
  simp only [idx, Option.bind_some, seqIndex_pos h0 hl, hv]
theorem idx_str {h : Hp} {s : Str} {i : Int} {c : Nat} (h0 : 0 ≤ i) (hv : s.cps[i.toNat]? = some c) : idx (.str s) (.int i) h = some (.str ⟨#[c]⟩) := by
  have hl := (Array.getElem?_eq_some_iff.mp hv).1
  have hl' : i.toNat < s.length := hl
  simp only [idx, Option.bind_some, seqIndex_pos h0 hl', hv, Option.map_some]
theorem contains_one (x : Str) (c : Nat) : Txt.contains x ⟨#[c]⟩ = decide (c ∈ x.cps.toList) := StrLaws.found_one x c
theorem fmod_lo (a : Int) {b : Int} (h : 0 < b) : 0 ≤ a.fmod b := Int.fmod_nonneg_of_pos a h
theorem fmod_hi (a : Int) {b : Int} (h : 0 < b) : a.fmod b < b := Int.fmod_lt_of_pos a h

/-- a cell of the script -/
noncomputable def cell (ns : List Int) (k : Nat) : Int := (ns[k]?).getD 0

section
variable (h : Hp) (a b : Int) (s t : Str)
theorem bi_add : binop .Add (.int a) (.int b) h = some (.int (a + b), h) := rfl
theorem bi_sub : binop .Sub (.int a) (.int b) h = some (.int (a - b), h) := rfl
theorem bi_mod {b : Int} (hb : b ≠ 0) : binop .Mod (.int a) (.int b) h = some (.int (a.fmod b), h) := if_neg hb
theorem bi_fdiv {b : Int} (hb : b ≠ 0) (hc : b.natAbs < 1073741824) : binop .FloorDiv (.int a) (.int b) h = some (.int (a.fdiv b), h) := if_pos ⟨hb, hc⟩
theorem bl_add {x y : Nat} {xs ys : List V} (e1 : h[x]? = some xs) (e2 : h[y]? = some ys) (hl : xs.length + ys.length ≤ sizeLine) : binop .Add (.ref x) (.ref y) h = some (.ref h.length, h ++ [xs ++ ys]) := by
  simp only [binop, e1, e2, Option.bind_some, hl, if_true]
theorem ci_eq : cmpop .Eq (.int a) (.int b) h = some (a == b) := rfl
theorem ci_ne : cmpop .NotEq (.int a) (.int b) h = some (!(a == b)) := rfl
theorem cs_eq : cmpop .Eq (.str s) (.str t) h = some (s == t) := rfl
theorem cs_ne : cmpop .NotEq (.str s) (.str t) h = some (!(s == t)) := rfl
theorem cb_eq (x y : Bool) : cmpop .Eq (.bool x) (.bool y) h = some (x == y) := rfl
theorem cb_ne (x y : Bool) : cmpop .NotEq (.bool x) (.bool y) h = some (!(x == y)) := rfl
theorem ci_lt : cmpop .Lt (.int a) (.int b) h = some (decide (a < b)) := rfl
theorem ci_le : cmpop .LtE (.int a) (.int b) h = some (decide (a ≤ b)) := rfl
theorem ci_gt : cmpop .Gt (.int a) (.int b) h = some (decide (b < a)) := rfl
theorem ci_ge : cmpop .GtE (.int a) (.int b) h = some (decide (b ≤ a)) := rfl
theorem cb_is (x y : Bool) : cmpop .Is (.bool x) (.bool y) h = some (x == y) := rfl
theorem cb_isNot (x y : Bool) : cmpop .IsNot (.bool x) (.bool y) h = some (x != y) := rfl
theorem ct_is (x y : String) : cmpop .Is (.type x) (.type y) h = some (x == y) := rfl
theorem ct_isNot (x y : String) : cmpop .IsNot (.type x) (.type y) h = some (x != y) := rfl
theorem cs_in : cmpop .In (.str s) (.str t) h = some (Txt.contains t s) := rfl
theorem cs_notin : cmpop .NotIn (.str s) (.str t) h = some (!(Txt.contains t s)) := rfl
theorem truth_bool (x : Bool) : truthV (.bool x) = some x := rfl
theorem rA1 {n : Int} (h : n.natAbs ≤ 2 ^ 40) : rangeArgs [.int n] = some (0, n) := if_pos h
theorem rA2 {m n : Int} (h : m.natAbs ≤ 2 ^ 40) (h2 : n.natAbs ≤ 2 ^ 40) : rangeArgs [.int m, .int n] = some (m, n) := if_pos ⟨h, h2⟩
end
/-- the rules that carry a run on -/
theorem two_le {d : Nat} : d + 1 + 1 = d + 2 := rfl
noncomputable def isT : Option (V × Hp) → Bool
  | some (.bool true, _) => true
  | _ => false
theorem isT_of {r : Option (V × Hp)} (h : isT r = true) : ∃ H', r = some (.bool true, H') := by
  unfold isT at h
  split at h
  · exact ⟨_, rfl⟩
  · cases h
end Mine
end

section
set_option autoImplicit false
namespace Mine
open PySem

theorem get_last (H : Hp) (xs : List V) : (H ++ [xs])[H.length]? = some xs := by simp
theorem get_pre {H : Hp} {a : Nat} {ys : List V} (L : Hp) (e : H[a]? = some ys) : (H ++ L)[a]? = some ys := by
  have := (List.getElem?_eq_some_iff.mp e).1
  rw [List.getElem?_append_left this, e]
theorem set_last (H : Hp) (xs ys : List V) : (H ++ [xs]).set H.length ys = H ++ [ys] := by
  induction H with
  | nil => rfl
  | cons x H ih => exact congrArg (x :: ·) ih

section
variable {h : Hp} {a b : Nat} {xs : List V} {u v w : V}
theorem idx_m1 (e : h[a]? = some (xs ++ [v])) : idx (.ref a) (.int (-1)) h = some v := by
  simp only [idx, e, Option.bind_some]
  rw [seqIndex_neg (k := xs.length) (by omega) (by simp; omega) (by simp)]
  simp
theorem idx_m2 (e : h[a]? = some (xs ++ [u, v])) : idx (.ref a) (.int (-2)) h = some u := by
  simp only [idx, e, Option.bind_some]
  rw [seqIndex_neg (k := xs.length) (by omega) (by simp; omega) (by simp)]
  simp
theorem idx_m1' (e : h[a]? = some (xs ++ [u, v])) : idx (.ref a) (.int (-1)) h = some v := by
  have : xs ++ [u, v] = (xs ++ [u]) ++ [v] := by simp
  rw [this] at e
  exact idx_m1 e
theorem setIdx_m1 (e : h[a]? = some (xs ++ [v])) (hb : b ≤ a) : setIdx b (.ref a) (.int (-1)) w h = some (h.set a (xs ++ [w])) := by
  simp only [setIdx, e, Option.bind_some]
  rw [seqIndex_neg (k := xs.length) (by omega) (by simp; omega) (by simp)]
  simp [hb]
theorem delIdx_m1 (e : h[a]? = some (xs ++ [v])) (hb : b ≤ a) : delIdx b (.ref a) (.int (-1)) h = some (h.set a xs) := by
  simp only [delIdx, e, Option.bind_some]
  rw [seqIndex_neg (k := xs.length) (by omega) (by simp; omega) (by simp)]
  simp [hb, List.eraseIdx_append_of_length_le]
end
theorem usub_int (a : Int) : unop .USub (.int a) = some (.int (-a)) := rfl

/-! postfix items -/
inductive K8 where
  | chr (s : Str) | any | eps | star | plus | opt | cat | alt
noncomputable def K8.kind : K8 → Str
  | .chr _ => ⟨#[99, 104, 114]⟩ | .any => ⟨#[97, 110, 121]⟩ | .eps => ⟨#[101, 112, 115]⟩ | .star => ⟨#[115, 116, 97, 114]⟩
  | .plus => ⟨#[112, 108, 117, 115]⟩ | .opt => ⟨#[111, 112, 116]⟩ | .cat => ⟨#[99, 97, 116]⟩ | .alt => ⟨#[97, 108, 116]⟩
noncomputable def K8.sign : K8 → Str
  | .chr s => s
  | _ => ⟨#[]⟩
noncomputable def K8.tup (k : K8) : V := .tup [.str k.kind, .str k.sign]
noncomputable def sLp : Str := ⟨#[40]⟩
noncomputable def sRp : Str := ⟨#[41]⟩
noncomputable def sBar : Str := ⟨#[124]⟩
/-- one item on a stack of patterns, the top ahead -/
noncomputable def patStep : K8 → List Str → Option (List Str)
  | .chr s, st => some (s :: st)
  | .any, st => some (⟨#[46]⟩ :: st)
  | .eps, st => some (⟨#[40, 41]⟩ :: st)
  | .star, t :: st => some ((t ++ ⟨#[42]⟩) :: st)
  | .plus, t :: st => some ((t ++ ⟨#[43]⟩) :: st)
  | .opt, t :: st => some ((t ++ ⟨#[63]⟩) :: st)
  | .cat, r :: l :: st => some ((sLp ++ l ++ r ++ sRp) :: st)
  | .alt, r :: l :: st => some ((sLp ++ l ++ sBar ++ r ++ sRp) :: st)
  | _, _ => none
noncomputable def pats : List K8 → List Str → Option (List Str)
  | [], st => some st
  | k :: ks, st => (patStep k st).bind (pats ks)
noncomputable def tot (st : List Str) : Nat := (st.map Str.length).sum
theorem Str.len_append (a b : Str) : (a ++ b).length = a.length + b.length := Str.length_append a b

/-! equal lists -/
theorem rdAll_isSome {f : V → Option PyData} : ∀ {xs : List V}, (∀ v ∈ xs, (f v).isSome = true) → ∃ ds, rdAll f xs = some ds
  | [], _ => ⟨[], rfl⟩
  | v :: xs, h => by
    obtain ⟨d, hd⟩ := Option.isSome_iff_exists.mp (h v (List.mem_cons_self ..))
    obtain ⟨ds, hds⟩ := rdAll_isSome (xs := xs) fun w hw => h w (List.mem_cons_of_mem _ hw)
    exact ⟨d :: ds, by simp only [rdAll, hd, hds, Option.bind_some, Option.map_some]⟩
theorem eqV_same {h : Hp} {a a' : Nat} {xs : List V} (e : h[a]? = some xs) (e' : h[a']? = some xs) (hx : ∀ v ∈ xs, (rd 7 h v).isSome = true) : eqV h (.ref a) (.ref a') = some true := by
  obtain ⟨ds, hds⟩ := rdAll_isSome hx
  have r1 : rd 8 h (.ref a) = some (.list ds) := by simp only [rd, e, Option.bind_some, hds, Option.map_some]
  have r2 : rd 8 h (.ref a') = some (.list ds) := by simp only [rd, e', Option.bind_some, hds, Option.map_some]
  show ((rd 8 h (.ref a)).bind fun d => (rd 8 h (.ref a')).map fun e => PyData.eqv d e) = _
  rw [r1, r2]
  simp only [Option.bind_some, Option.map_some]
  rw [PySem.SeqAt.eqv_refl _ (rd_can (H := h) 8 _ _ r1).1]
theorem cl_ne {h : Hp} {a a' : Nat} {xs : List V} (e : h[a]? = some xs) (e' : h[a']? = some xs) (hx : ∀ v ∈ xs, (rd 7 h v).isSome = true) : cmpop .NotEq (.ref a) (.ref a') h = some false := by
  show (eqV h (.ref a) (.ref a')).map _ = _
  rw [eqV_same e e' hx]; rfl
theorem rd_str {n : Nat} {h : Hp} {s : Str} (hs : s.cps.all (· < 0x110000) = true) : (rd n h (.str s)).isSome = true := by
  cases n <;> simp only [rd, hs, if_true, Option.isSome_some]
theorem rd_tup2 {n : Nat} {h : Hp} {s t : Str} (hs : s.cps.all (· < 0x110000) = true) (ht : t.cps.all (· < 0x110000) = true) : (rd (n + 1) h (.tup [.str s, .str t])).isSome = true := by
  obtain ⟨a, ha⟩ := Option.isSome_iff_exists.mp (rd_str (n := n) (h := h) hs)
  obtain ⟨b, hb⟩ := Option.isSome_iff_exists.mp (rd_str (n := n) (h := h) ht)
  simp only [rd, rdAll, ha, hb, Option.bind_some, Option.map_some, Option.isSome_some]
theorem K8.kind_ok (k : K8) : k.kind.cps.all (· < 0x110000) = true := by cases k <;> kernel_rfl
theorem K8.rd_ok {k : K8} {n : Nat} {h : Hp} (hs : k.sign.cps.all (· < 0x110000) = true) : (rd (n + 1) h k.tup).isSome = true := rd_tup2 k.kind_ok hs

/-! texts as lists of signs -/
noncomputable def S (l : List Nat) : Str := ⟨l.toArray⟩
theorem S_app (l m : List Nat) : S l ++ S m = S (l ++ m) := by
  show (⟨l.toArray ++ m.toArray⟩ : Str) = ⟨(l ++ m).toArray⟩
  simp
theorem S_len (l : List Nat) : (S l).length = l.length := by simp [S, Str.length]
theorem S_list (l : List Nat) : (S l).cps.toList = l := rfl
theorem S_contains (l : List Nat) (c : Nat) : Txt.contains (S l) ⟨#[c]⟩ = decide (c ∈ l) := contains_one (S l) c
theorem S_slice_to {h : Hp} {u v : List Nat} : slice (.str (S (u ++ v))) .none (.int u.length) .none h = some (.str (S u), h) := by
  simp only [slice, partV, Option.bind_some, S_list, cutL, Option.elim, List.drop_zero, Nat.sub_zero]
  have : clipAt (u ++ v).length (u.length : Int) = u.length := by
    unfold clipAt
    rw [if_neg (by omega), List.length_append]
    omega
  rw [this]
  simp [S]
theorem S_slice_from {h : Hp} {u v : List Nat} {i : Int} (hi : i = u.length) : slice (.str (S (u ++ v))) (.int i) .none .none h = some (.str (S v), h) := by
  subst hi
  simp only [slice, partV, Option.bind_some, S_list, cutL, Option.elim]
  have : clipAt (u ++ v).length (u.length : Int) = u.length := by
    unfold clipAt
    rw [if_neg (by omega), List.length_append]
    omega
  rw [this]
  simp [S]
theorem S_rfind {u v : List Nat} {c : Nat} (hv : c ∉ v) : Txt.rfind (S (u ++ c :: v)) ⟨#[c]⟩ = u.length := by
  have hat : ∀ i, StrLaws.At (S (u ++ c :: v)) ⟨#[c]⟩ (S (u ++ c :: v)).length i ↔ (u ++ c :: v)[i]? = some c := fun i => StrLaws.subAt_one (S (u ++ c :: v)) c i
  have hu : StrLaws.At (S (u ++ c :: v)) ⟨#[c]⟩ (S (u ++ c :: v)).length u.length := (hat _).mpr (by simp)
  rcases StrLaws.last_spec (S (u ++ c :: v)) ⟨#[c]⟩ with ⟨_, h⟩ | ⟨i, h1, h2, h3⟩
  · exact absurd hu (h _)
  · unfold Txt.rfind
    rw [h1]
    simp only
    have hle : ¬ i < u.length := fun hlt => h3 _ hlt hu
    have hge : ¬ u.length < i := by
      intro hlt
      have := (hat i).mp h2
      rw [List.getElem?_append_right (by omega)] at this
      obtain ⟨j, hj⟩ : ∃ j, i - u.length = j + 1 := ⟨i - u.length - 1, by omega⟩
      rw [hj, List.getElem?_cons_succ] at this
      exact hv (List.mem_of_getElem? this)
    omega
theorem S_count (l : List Nat) (c : Nat) : Txt.count (S l) ⟨#[c]⟩ = (l.count c : Nat) := by
  rw [PyProof.Rows.count_is, S_list]
  induction l with
  | nil => rfl
  | cons x l ih =>
    rw [List.map_cons, PySem.Spec.countIn, ih, List.count_cons]
    have : Spec.same (.str ⟨#[x]⟩) (.str ⟨#[c]⟩) = (x == c) := by
      rw [Bool.eq_iff_iff]
      simp [Spec.same]
    rw [this]
    split <;> simp <;> omega
theorem last_split {l : List Nat} {c : Nat} (h : c ∈ l) : ∃ u v, l = u ++ c :: v ∧ c ∉ v := by
  obtain ⟨a, b, e, hn⟩ := List.eq_append_cons_of_mem (List.mem_reverse.mpr h)
  refine ⟨b.reverse, a.reverse, ?_, by simpa using hn⟩
  rw [← List.reverse_reverse l, e]
  simp

theorem range_at {lo : Int} {n i : Nat} (h : i < n) : (rangeV lo (lo + n))[i]? = some (.int (lo + i)) := by
  have : (lo + (n : Int) - lo).toNat = n := by omega
  simp [rangeV, this, h]
theorem range_len (lo : Int) (n : Nat) : (rangeV lo (lo + n)).length = n := by
  have : (lo + (n : Int) - lo).toNat = n := by omega
  simp [rangeV, this]
theorem loop_range {n : Nat} {f : V → Rho → Hp → Option (Fl × Rho × Hp)} (I : Nat → Rho → Hp → Prop)
    (hstep : ∀ i, i < n → ∀ ρ h, I i ρ h → ∃ ρ' h', f (.int i) ρ h = some (.next, ρ', h') ∧ I (i + 1) ρ' h') {ρ : Rho} {h : Hp} (h0 : I 0 ρ h) :
    ∃ ρ' h', loopS none (rangeV 0 n) f (rangeV 0 n) ρ h = some (.next, ρ', h') ∧ I n ρ' h' := by
  have e : ∀ m : Nat, (m : Int) = 0 + m := fun m => (Int.zero_add _).symm
  have := loopS_rule (c := none) (all := rangeV 0 n) (f := f) I (fun i x ρ h hx hi => by
    have hlt : i < n := by
      have h1 := (List.getElem?_eq_some_iff.mp hx).1
      rw [e n, range_len] at h1; exact h1
    rw [e n, range_at hlt, ← e i] at hx
    cases hx
    obtain ⟨ρ', h', e1, e2⟩ := hstep i hlt ρ h hi
    exact ⟨rfl, ρ', h', Or.inl e1, e2⟩) (fun _ _ _ => rfl) h0
  rw [show (rangeV 0 n).length = n by rw [e n, range_len]] at this
  exact this
theorem get_ref {H : Hp} {xs : List V} {L : Hp} : (H ++ xs :: L)[H.length]? = some xs := by simp
end Mine
end

section
set_option autoImplicit false
namespace Mine
open PySem
theorem appendTo_last {h : Hp} {xs : List V} (v : V) (hl : xs.length ≤ 1000000) : appendTo h.length v (h ++ [xs]) = some (h ++ [xs ++ [v]]) := by
  unfold appendTo
  rw [get_last]
  simp only [Option.bind_some, hl, if_true, set_last]

/-! tables of truth values -/
noncomputable def tabAt (h : Hp) (M : List (List Bool)) : Hp := h ++ ((List.range M.length).map fun i => V.ref (h.length + 1 + i)) :: M.map fun row => row.map V.bool
theorem tabAt_nil (h : Hp) : h ++ [[]] = tabAt h [] := rfl
theorem tabAt_len (h : Hp) (M : List (List Bool)) : (tabAt h M).length = h.length + 1 + M.length := by
  simp [tabAt]; omega
theorem tabAt_head (h : Hp) (M : List (List Bool)) : (tabAt h M)[h.length]? = some ((List.range M.length).map fun i => V.ref (h.length + 1 + i)) := get_ref
theorem tabAt_row (h : Hp) (M : List (List Bool)) (i : Nat) : (tabAt h M)[h.length + 1 + i]? = (M[i]?).map fun row => row.map V.bool := by
  unfold tabAt
  rw [List.getElem?_append_right (by omega), show h.length + 1 + i - h.length = i + 1 by omega, List.getElem?_cons_succ, List.getElem?_map]
theorem tabAt_pre {h : Hp} {a : Nat} {xs : List V} (M : List (List Bool)) (e : h[a]? = some xs) : (tabAt h M)[a]? = some xs := get_pre _ e
theorem set_mid (h : Hp) (xs ys : List V) (L : Hp) : (h ++ xs :: L).set h.length ys = h ++ ys :: L := by
  induction h with
  | nil => rfl
  | cons x h ih => exact congrArg (x :: ·) ih
theorem set_far (h : Hp) (xs ys : List V) (L : Hp) (i : Nat) : (h ++ xs :: L).set (h.length + 1 + i) ys = h ++ xs :: L.set i ys := by
  induction h with
  | nil => rw [show (List.length ([] : Hp) + 1 + i) = i + 1 by simp; omega]; rfl
  | cons x h ih =>
    have : (x :: h).length + 1 + i = (h.length + 1 + i) + 1 := by simp; omega
    rw [this]
    exact congrArg (x :: ·) ih
theorem tabAt_app (h : Hp) (M : List (List Bool)) (row : List Bool) (hM : M.length ≤ 1000000) : appendTo h.length (.ref (tabAt h M).length) (tabAt h M ++ [row.map V.bool]) = some (tabAt h (M ++ [row])) := by
  unfold appendTo
  rw [get_pre _ (tabAt_head h M)]
  simp only [Option.bind_some]
  rw [if_pos (by simp; omega), tabAt_len]
  unfold tabAt
  rw [List.append_assoc, List.cons_append, set_mid]
  simp [List.range_succ]
theorem loopL_app {h : Hp} {f : V → Hp → Option Hp} {v : V → V} {all : List V} : ∀ (js : List V) (xs : List V), (∀ y ∈ js, ∀ xs, xs.length ≤ 100000 → f y (h ++ [xs]) = some (h ++ [xs ++ [v y]])) → xs.length + js.length ≤ 100000 → loopL none all f js (h ++ [xs]) = some (h ++ [xs ++ js.map v])
  | [], xs, _, _ => by simp [loopL, chk_none]
  | y :: js, xs, hf, hl => by
    simp only [List.length_cons] at hl
    simp only [loopL, chk_none, if_true, hf y (List.mem_cons_self ..) xs (by omega), Option.bind_some]
    rw [loopL_app js (xs ++ [v y]) (fun z hz => hf z (List.mem_cons_of_mem _ hz)) (by simp; omega)]
    simp
theorem loopL_tab {h : Hp} {c : Option Nat} {f : V → Hp → Option Hp} {row : V → List Bool} {all : List V} (hc : ∀ M, chk c all (tabAt h M) = true) : ∀ (js : List V) (M : List (List Bool)), (∀ y ∈ js, ∀ M, M.length ≤ 100000 → f y (tabAt h M) = some (tabAt h (M ++ [row y]))) → M.length + js.length ≤ 100000 → loopL c all f js (tabAt h M) = some (tabAt h (M ++ js.map row))
  | [], M, _, _ => by simp [loopL, hc]
  | y :: js, M, hf, hl => by
    simp only [List.length_cons] at hl
    simp only [loopL, hc, if_true, hf y (List.mem_cons_self ..) M (by omega), Option.bind_some]
    rw [loopL_tab hc js (M ++ [row y]) (fun z hz => hf z (List.mem_cons_of_mem _ hz)) (by simp; omega)]
    simp

structure IsTab (h : Hp) (lo a : Nat) (M : List (List Bool)) : Prop where
  ge : lo ≤ a
  tab : ∃ rs : List Nat, h[a]? = some (rs.map V.ref) ∧ rs.length = M.length ∧ ∀ (i : Nat) (row : List Bool), M[i]? = some row → ∃ r, rs[i]? = some r ∧ lo ≤ r ∧ h[r]? = some (row.map V.bool)
theorem IsTab.app {h : Hp} {lo a : Nat} {M : List (List Bool)} (x : IsTab h lo a M) (L : Hp) : IsTab (h ++ L) lo a M :=
  ⟨x.ge, let ⟨rs, e1, e2, e3⟩ := x.tab; ⟨rs, get_pre _ e1, e2, fun i row hr => let ⟨r, q1, q2, q3⟩ := e3 i row hr; ⟨r, q1, q2, get_pre _ q3⟩⟩⟩
theorem IsTab.set {h : Hp} {lo a x : Nat} {M : List (List Bool)} (t : IsTab h lo a M) (hx : x < lo) (ys : List V) : IsTab (h.set x ys) lo a M :=
  ⟨t.ge, let ⟨rs, e1, e2, e3⟩ := t.tab; ⟨rs, by rw [List.getElem?_set_ne (by have := t.ge; omega)]; exact e1, e2, fun i row hr => let ⟨r, q1, q2, q3⟩ := e3 i row hr; ⟨r, q1, q2, by rw [List.getElem?_set_ne (by omega)]; exact q3⟩⟩⟩
theorem tabAt_is (h : Hp) (M : List (List Bool)) : IsTab (tabAt h M) h.length h.length M :=
  ⟨Nat.le_refl _, (List.range M.length).map (h.length + 1 + ·), by rw [tabAt_head]; simp [Function.comp_def], by simp, fun i row hr => by
    have hi := (List.getElem?_eq_some_iff.mp hr).1
    exact ⟨h.length + 1 + i, by simp [hi], by omega, by rw [tabAt_row, hr]; rfl⟩⟩
theorem IsTab.lower {h : Hp} {lo lo' a : Nat} {M : List (List Bool)} (x : IsTab h lo a M) (hl : lo' ≤ lo) : IsTab h lo' a M :=
  ⟨Nat.le_trans hl x.ge, let ⟨rs, e1, e2, e3⟩ := x.tab; ⟨rs, e1, e2, fun i row hr => let ⟨r, q1, q2, q3⟩ := e3 i row hr; ⟨r, q1, Nat.le_trans hl q2, q3⟩⟩⟩
noncomputable def bools (row : List Bool) : PyData := .list (row.map PyData.bool)
theorem rdAll_bools (n : Nat) (h : Hp) : ∀ row : List Bool, rdAll (rd n h) (row.map V.bool) = some (row.map PyData.bool)
  | [] => rfl
  | b :: row => by
    have : rd n h (.bool b) = some (.bool b) := by cases n <;> rfl
    simp only [List.map_cons, rdAll, this, Option.bind_some, rdAll_bools n h row, Option.map_some]
theorem rdAll_of {f : V → Option PyData} : ∀ {vs : List V} {ds : List PyData}, vs.length = ds.length → (∀ (i : Nat) (v : V) (d : PyData), vs[i]? = some v → ds[i]? = some d → f v = some d) → rdAll f vs = some ds
  | [], [], _, _ => rfl
  | [], _ :: _, h, _ => by simp at h
  | _ :: _, [], h, _ => by simp at h
  | v :: vs, d :: ds, hl, h => by
    have h1 := h 0 v d rfl rfl
    have h2 := rdAll_of (f := f) (vs := vs) (ds := ds) (by simpa using hl) fun i v d e1 e2 => h (i + 1) v d e1 e2
    simp only [rdAll, h1, h2, Option.bind_some, Option.map_some]
theorem IsTab.rd {h : Hp} {lo a : Nat} {M : List (List Bool)} (x : IsTab h lo a M) : rd 8 h (.ref a) = some (.list (M.map bools)) := by
  obtain ⟨rs, e1, e2, e3⟩ := x.tab
  have : rdAll (Mine.rd 7 h) (rs.map V.ref) = some (M.map bools) := by
    refine rdAll_of (by simp [e2]) fun i v d q1 q2 => ?_
    rw [List.getElem?_map] at q1 q2
    cases hm : M[i]? with
    | none => rw [hm] at q2; cases q2
    | some row =>
      obtain ⟨r, p1, _, p3⟩ := e3 i row hm
      rw [p1] at q1
      rw [hm] at q2
      cases q1
      cases q2
      simp only [Mine.rd, p3, Option.bind_some, rdAll_bools, Option.map_some]
      rfl
  simp only [Mine.rd, e1, Option.bind_some, this, Option.map_some]
theorem IsTab.ne {h : Hp} {lo lo' a a' : Nat} {M : List (List Bool)} (x : IsTab h lo a M) (y : IsTab h lo' a' M) : cmpop .NotEq (.ref a) (.ref a') h = some false := by
  show (((Mine.rd 8 h (.ref a)).bind fun d => (Mine.rd 8 h (.ref a')).map fun e => PyData.eqv d e)).map _ = _
  rw [x.rd, y.rd]
  simp only [Option.bind_some, Option.map_some]
  rw [PySem.SeqAt.eqv_refl _ (rd_can (H := h) 8 _ _ x.rd).1]
  rfl
theorem IsTab.len {h : Hp} {lo a : Nat} {M : List (List Bool)} (x : IsTab h lo a M) : callB b_len [.ref a] h = some (.int M.length, h) := by
  obtain ⟨rs, e1, e2, e3⟩ := x.tab
  rw [len_ref _ e1]; simp [e2]
theorem IsTab.at {h : Hp} {lo a : Nat} {M : List (List Bool)} (x : IsTab h lo a M) {i : Nat} {row : List Bool} (hi : M[i]? = some row) : ∃ r, lo ≤ r ∧ idx (.ref a) (.int i) h = some (.ref r) ∧ h[r]? = some (row.map V.bool) := by
  obtain ⟨rs, e1, e2, e3⟩ := x.tab
  obtain ⟨r, q1, q2, q3⟩ := e3 i row hi
  exact ⟨r, q2, idx_ref e1 (by omega) (by simp [q1]), q3⟩

noncomputable def mat (n : Nat) (f : Nat → Nat → Bool) : List (List Bool) := (List.range n).map fun i => (List.range n).map fun j => f i j
theorem mat_len (n : Nat) (f : Nat → Nat → Bool) : (mat n f).length = n := by simp [mat]
theorem mat_row {n : Nat} (f : Nat → Nat → Bool) {i : Nat} (h : i < n) : (mat n f)[i]? = some ((List.range n).map fun j => f i j) := by simp [mat, h]
theorem mat_ext {n : Nat} {f g : Nat → Nat → Bool} (h : ∀ i, i < n → ∀ j, j < n → f i j = g i j) : mat n f = mat n g := by
  unfold mat
  apply List.map_congr_left
  intro i hi
  apply List.map_congr_left
  intro j hj
  exact h i (List.mem_range.mp hi) j (List.mem_range.mp hj)
theorem IsTab.cell {h : Hp} {lo a n : Nat} {f : Nat → Nat → Bool} (x : IsTab h lo a (mat n f)) {i j : Nat} (hi : i < n) (hj : j < n) : ∃ r, lo ≤ r ∧ idx (.ref a) (.int i) h = some (.ref r) ∧ idx (.ref r) (.int j) h = some (.bool (f i j)) := by
  obtain ⟨r, e1, e2, e3⟩ := x.at (mat_row f hi)
  exact ⟨r, e1, e2, idx_ref e3 (by omega) (by simp [hj])⟩
noncomputable def updM (f : Nat → Nat → Bool) (i j : Nat) (v : Bool) : Nat → Nat → Bool := fun i' j' => if i' = i ∧ j' = j then v else f i' j'
theorem tab_set {b : Nat} (h : Hp) {n : Nat} (f : Nat → Nat → Bool) {i j : Nat} (v : Bool) (hi : i < n) (hj : j < n) (hb : b ≤ h.length) :
    idx (.ref h.length) (.int i) (tabAt h (mat n f)) = some (.ref (h.length + 1 + i)) ∧ setIdx b (.ref (h.length + 1 + i)) (.int j) (.bool v) (tabAt h (mat n f)) = some (tabAt h (mat n (updM f i j v))) := by
  constructor
  · exact idx_ref (tabAt_head ..) (by omega) (by simp [mat_len, hi])
  · have hrow : (tabAt h (mat n f))[h.length + 1 + i]? = some (((List.range n).map fun j => f i j).map V.bool) := by rw [tabAt_row, mat_row f hi]; rfl
    simp only [setIdx, hrow, Option.bind_some]
    rw [seqIndex_nat (by simp [hj])]
    simp only [Option.bind_some]
    rw [if_pos (by omega)]
    unfold tabAt
    rw [set_far]
    congr 2
    rw [mat_len, mat_len]
    congr 1
    apply List.ext_getElem?
    intro i'
    rw [List.getElem?_map, List.getElem?_set]
    by_cases hin : i' < n
    · rw [mat_row _ hin]
      by_cases he : i = i'
      · subst he
        rw [if_pos rfl, if_pos (by simp [mat_len, hi])]
        simp only [Option.map_some]
        congr 1
        apply List.ext_getElem?
        intro j'
        rw [List.getElem?_set]
        by_cases hj' : j' < n
        · by_cases hje : j = j'
          · subst hje
            simp [hj, updM]
          · simp [hj', hje, updM, Ne.symm hje]
        · have : j ≠ j' := by omega
          simp [hj', this]
      · rw [if_neg he, List.getElem?_map, mat_row f hin]
        simp [updM, Ne.symm he]
    · have : i ≠ i' := by omega
      rw [if_neg this]
      simp [mat, hin]
end Mine
end

section
set_option autoImplicit false
namespace Mine
open PySem

/-! the machine's paths; the text is t, a place is a number up to its length -/
abbrev Edge := Str × Nat
abbrev Bf := Nat → Nat → Bool
noncomputable def sE : Str := ⟨#[]⟩
noncomputable def Est (t : List Nat) (E : List (List Edge)) (s i s' j : Nat) : Prop :=
  ∃ es l, E[s]? = some es ∧ (l, s') ∈ es ∧ ((l = sE ∧ j = i) ∨ ∃ c, t[i]? = some c ∧ (l = ⟨#[c]⟩ ∨ l = ⟨#[46]⟩) ∧ j = i + 1)
inductive Pth (t : List Nat) (E : List (List Edge)) : Nat → Nat → Nat → Nat → Prop
  | refl (s i) : Pth t E s i s i
  | step {s i s' i' u j} : Est t E s i s' i' → Pth t E s' i' u j → Pth t E s i u j
section
variable {t : List Nat} {E E' : List (List Edge)}
theorem Pth.trans {s i u j v k : Nat} (p : Pth t E s i u j) (q : Pth t E u j v k) : Pth t E s i v k := by
  induction p with
  | refl => exact q
  | step e _ ih => exact .step e (ih q)
theorem Pth.one {s i u j : Nat} (e : Est t E s i u j) : Pth t E s i u j := .step e (.refl ..)
theorem est_le {s i s' j : Nat} (e : Est t E s i s' j) : i ≤ j ∧ (i ≤ t.length → j ≤ t.length) := by
  obtain ⟨es, l, _, _, h | ⟨c, hc, _, h⟩⟩ := e
  · exact ⟨Nat.le_of_eq h.2.symm, fun q => h.2 ▸ q⟩
  · have := (List.getElem?_eq_some_iff.mp hc).1
    exact ⟨by omega, fun _ => by omega⟩
theorem Pth.le {s i u j : Nat} (p : Pth t E s i u j) : i ≤ j ∧ (i ≤ t.length → j ≤ t.length) := by
  induction p with
  | refl => exact ⟨Nat.le_refl _, id⟩
  | step e _ ih =>
    have := est_le e
    exact ⟨Nat.le_trans this.1 ih.1, fun q => ih.2 (this.2 q)⟩
/-- from behind: what holds at the goal and is handed back along each edge -/
theorem Pth.back {a : Nat} {Ok : Nat → Nat → Nat → Prop} (h0 : ∀ i, Ok a i i) (hs : ∀ x i x' i' j, Est t E x i x' i' → Ok x' i' j → Ok x i j) {x i j : Nat} (p : Pth t E x i a j) : Ok x i j := by
  generalize hu : a = u at p
  induction p with
  | refl => subst hu; exact h0 _
  | step e _ ih => exact hs _ _ _ _ _ e (ih hu)
theorem est_same {x i x' i' : Nat} (h : E'[x]? = E[x]?) : Est t E' x i x' i' ↔ Est t E x i x' i' := by
  unfold Est; rw [h]
theorem est_eps {x y i : Nat} {es : List Edge} (h : E[x]? = some es) (hm : (sE, y) ∈ es) : Est t E x i y i := ⟨es, sE, h, hm, .inl ⟨rfl, rfl⟩⟩
/-- a state whose edges are all empty ones -/
theorem est_all {x i x' i' : Nat} {ts : List Nat} (h : E[x]? = some (ts.map fun y => (sE, y))) (e : Est t E x i x' i') : x' ∈ ts ∧ i' = i := by
  obtain ⟨es, l, h1, h2, h3⟩ := e
  rw [h] at h1
  cases h1
  obtain ⟨y, hy, e2⟩ := List.mem_map.mp h2
  cases e2
  rcases h3 with h3 | ⟨c, _, h3, _⟩
  · exact ⟨hy, h3.2⟩
  · rcases h3 with h3 | h3 <;> cases h3

/-- a part of the machine: its states lo..hi-1, its start s, its end a, and what it reads -/
structure Frag (t : List Nat) (E : List (List Edge)) (lo hi s a : Nat) (f : Bf) : Prop where
  s1 : lo ≤ s
  s2 : s < hi
  a1 : lo ≤ a
  a2 : a < hi
  cl : ∀ u es, lo ≤ u → u < hi → E[u]? = some es → ∀ e ∈ es, lo ≤ e.2 ∧ e.2 < hi
  acc : E[a]? = some []
  ok : ∀ i j, i ≤ t.length → (Pth t E s i a j ↔ f i j = true)

theorem Frag.into {lo hi s a : Nat} {f : Bf} (F : Frag t E lo hi s a f) {x i x' i' : Nat} (h1 : lo ≤ x) (h2 : x < hi) (e : Est t E x i x' i') : lo ≤ x' ∧ x' < hi := by
  obtain ⟨es, l, q1, q2, _⟩ := e
  exact F.cl x es h1 h2 q1 _ q2
/-- the part's paths are paths of a machine that has its edges -/
theorem Frag.carry {lo hi s a : Nat} {f : Bf} (F : Frag t E lo hi s a f) (hE : ∀ u, lo ≤ u → u < hi → u ≠ a → E'[u]? = E[u]?) {x i j : Nat} (h1 : lo ≤ x) (h2 : x < hi) (p : Pth t E x i a j) : Pth t E' x i a j := by
  have key : (lo ≤ x ∧ x < hi) → Pth t E' x i a j := Pth.back (t := t) (E := E) (a := a) (Ok := fun x i j => (lo ≤ x ∧ x < hi) → Pth t E' x i a j) (fun i _ => .refl ..) (fun x i x' i' j e ih hx => by
    have hx' := F.into hx.1 hx.2 e
    by_cases q : x = a
    · subst q
      obtain ⟨es, l, q1, q2, _⟩ := e
      rw [F.acc] at q1
      cases q1
      cases q2
    · exact .step ((est_same (hE x hx.1 hx.2 q)).mpr e) (ih hx')) p
  exact key ⟨h1, h2⟩
theorem Frag.congr {lo hi s a : Nat} {f : Bf} (F : Frag t E lo hi s a f) (hE : ∀ u, lo ≤ u → u < hi → E'[u]? = E[u]?) : Frag t E' lo hi s a f := by
  have cl' : ∀ u es, lo ≤ u → u < hi → E'[u]? = some es → ∀ e ∈ es, lo ≤ e.2 ∧ e.2 < hi := fun u es h1 h2 h3 => F.cl u es h1 h2 (by rw [← hE u h1 h2]; exact h3)
  refine ⟨F.s1, F.s2, F.a1, F.a2, cl', by rw [hE a F.a1 F.a2]; exact F.acc, fun i j hi' => ?_⟩
  rw [← F.ok i j hi']
  constructor
  · intro p
    have key : (lo ≤ s ∧ s < hi) → Pth t E s i a j := Pth.back (t := t) (E := E') (a := a) (Ok := fun x i j => (lo ≤ x ∧ x < hi) → Pth t E x i a j) (fun i _ => .refl ..) (fun x i x' i' j e ih hx => by
      have e' := (est_same (hE x hx.1 hx.2)).mp e
      exact .step e' (ih (F.into hx.1 hx.2 e'))) p
    exact key ⟨F.s1, F.s2⟩
  · exact F.carry (fun u h1 h2 _ => hE u h1 h2) F.s1 F.s2

/-! the signs -/
theorem frag_sign {n : Nat} {l : Str} {f : Bf} (hS : E[n]? = some [(l, n + 1)]) (hA : E[n + 1]? = some [])
    (hf : ∀ i j, i ≤ t.length → (((l = sE ∧ j = i) ∨ ∃ c, t[i]? = some c ∧ (l = ⟨#[c]⟩ ∨ l = ⟨#[46]⟩) ∧ j = i + 1) ↔ f i j = true)) : Frag t E n (n + 2) n (n + 1) f := by
  refine ⟨Nat.le_refl _, by omega, by omega, by omega, fun u es h1 h2 h3 e he => ?_, hA, fun i j hi => ?_⟩
  · have : u = n ∨ u = n + 1 := by omega
    rcases this with rfl | rfl
    · rw [hS] at h3; cases h3; simp at he; subst he; simp
    · rw [hA] at h3; cases h3; cases he
  · rw [← hf i j hi]
    constructor
    · intro p
      cases p with
      | step e q =>
        obtain ⟨es, l', q1, q2, q3⟩ := e
        rw [hS] at q1
        cases q1
        simp at q2
        obtain ⟨rfl, rfl⟩ := q2
        cases q with
        | refl => exact q3
        | step e' _ =>
          obtain ⟨es, l'', r1, r2, _⟩ := e'
          rw [hA] at r1; cases r1; cases r2
    · intro h
      exact .one ⟨_, l, hS, by simp, h⟩

/-! two parts one behind the other -/
theorem frag_cat {lo mid hi s1 a1 s2 a2 : Nat} {f g h : Bf} (F : Frag t E lo mid s1 a1 f) (K : Frag t E mid hi s2 a2 g)
    (hE : ∀ u, lo ≤ u → u < hi → u ≠ a1 → E'[u]? = E[u]?) (ha : E'[a1]? = some [(sE, s2)])
    (hh : ∀ i j, i ≤ t.length → ((∃ k, f i k = true ∧ g k j = true) ↔ h i j = true)) : Frag t E' lo hi s1 a2 h := by
  have b1 := F.s1; have b2 := F.s2; have b3 := F.a1; have b4 := F.a2
  have c1 := K.s1; have c2 := K.s2; have c3 := K.a1; have c4 := K.a2
  have ha' : E'[a1]? = some ([s2].map fun y => (sE, y)) := ha
  refine ⟨b1, by omega, by omega, c4, fun u es h1 h2 h3 e he => ?_, by rw [hE a2 (by omega) c4 (by omega)]; exact K.acc, fun i j hi' => ?_⟩
  · by_cases q : u = a1
    · subst q; rw [ha] at h3; cases h3; simp at he; subst he; simp; omega
    · rw [hE u h1 h2 q] at h3
      by_cases q2 : u < mid
      · have := F.cl u es h1 q2 h3 e he; omega
      · have := K.cl u es (by omega) h2 h3 e he; omega
  · rw [← hh i j hi']
    constructor
    · intro p
      have key := Pth.back (t := t) (E := E') (a := a2) (Ok := fun x i j => (lo ≤ x ∧ x < mid → ∃ k, Pth t E x i a1 k ∧ Pth t E s2 k a2 j) ∧ (mid ≤ x ∧ x < hi → Pth t E x i a2 j))
        (fun i => ⟨fun hx => by omega, fun _ => .refl ..⟩) (fun x i x' i' j e ih => by
          refine ⟨fun hx => ?_, fun hx => ?_⟩
          · by_cases q : x = a1
            · subst q
              obtain ⟨m, rfl⟩ := est_all ha' e
              simp at m
              subst m
              exact ⟨i', .refl .., ih.2 ⟨c1, c2⟩⟩
            · have e' := (est_same (hE x hx.1 (by omega) q)).mp e
              obtain ⟨k, p1, p2⟩ := ih.1 (F.into hx.1 hx.2 e')
              exact ⟨k, .step e' p1, p2⟩
          · have e' := (est_same (hE x (by omega) hx.2 (by omega))).mp e
            exact .step e' (ih.2 (K.into hx.1 hx.2 e'))) p
      obtain ⟨k, p1, p2⟩ := key.1 ⟨b1, b2⟩
      exact ⟨k, (F.ok i k hi').mp p1, (K.ok k j (p1.le.2 hi')).mp p2⟩
    · rintro ⟨k, hf, hg⟩
      have p1 := (F.ok i k hi').mpr hf
      have hk := p1.le.2 hi'
      have p2 := (K.ok k j hk).mpr hg
      have p1' : Pth t E' s1 i a1 k := F.carry (fun u h1 h2 q => hE u h1 (by omega) q) b1 b2 p1
      have p2' : Pth t E' s2 k a2 j := K.carry (fun u h1 h2 _ => hE u (by omega) h2 (by omega)) c1 c2 p2
      exact p1'.trans (.step (est_eps ha (by simp)) p2')

/-! one part or the other -/
theorem frag_alt {lo mid hi s1 a1 s2 a2 : Nat} {f g h : Bf} (F : Frag t E lo mid s1 a1 f) (K : Frag t E mid hi s2 a2 g)
    (hE : ∀ u, lo ≤ u → u < hi → u ≠ a1 → u ≠ a2 → E'[u]? = E[u]?) (ha : E'[a1]? = some [(sE, hi + 1)]) (hb : E'[a2]? = some [(sE, hi + 1)])
    (hS : E'[hi]? = some [(sE, s1), (sE, s2)]) (hA : E'[hi + 1]? = some [])
    (hh : ∀ i j, i ≤ t.length → ((f i j = true ∨ g i j = true) ↔ h i j = true)) : Frag t E' lo (hi + 2) hi (hi + 1) h := by
  have b1 := F.s1; have b2 := F.s2; have b3 := F.a1; have b4 := F.a2
  have c1 := K.s1; have c2 := K.s2; have c3 := K.a1; have c4 := K.a2
  have ha' : E'[a1]? = some ([hi + 1].map fun y => (sE, y)) := ha
  have hb' : E'[a2]? = some ([hi + 1].map fun y => (sE, y)) := hb
  have hS' : E'[hi]? = some ([s1, s2].map fun y => (sE, y)) := hS
  refine ⟨by omega, by omega, by omega, by omega, fun u es h1 h2 h3 e he => ?_, hA, fun i j hi' => ?_⟩
  · by_cases q0 : u = hi + 1
    · subst q0; rw [hA] at h3; cases h3; cases he
    by_cases q0 : u = hi
    · subst q0; rw [hS] at h3; cases h3; simp at he; rcases he with rfl | rfl <;> simp <;> omega
    by_cases q : u = a1
    · subst q; rw [ha] at h3; cases h3; simp at he; subst he; simp; omega
    by_cases q' : u = a2
    · subst q'; rw [hb] at h3; cases h3; simp at he; subst he; simp; omega
    rw [hE u h1 (by omega) q q'] at h3
    by_cases q2 : u < mid
    · have := F.cl u es h1 q2 h3 e he; omega
    · have := K.cl u es (by omega) (by omega) h3 e he; omega
  · rw [← hh i j hi']
    constructor
    · intro p
      have key := Pth.back (t := t) (E := E') (a := hi + 1) (Ok := fun x i j => (lo ≤ x ∧ x < mid → Pth t E x i a1 j) ∧ (mid ≤ x ∧ x < hi → Pth t E x i a2 j) ∧ (x = hi → Pth t E s1 i a1 j ∨ Pth t E s2 i a2 j) ∧ (x = hi + 1 → i = j))
        (fun i => ⟨fun hx => by omega, fun hx => by omega, fun hx => by omega, fun _ => rfl⟩) (fun x i x' i' j e ih => by
          obtain ⟨i1, i2, i3, i4⟩ := ih
          refine ⟨fun hx => ?_, fun hx => ?_, fun hx => ?_, fun hx => ?_⟩
          · by_cases q : x = a1
            · subst q
              obtain ⟨m, rfl⟩ := est_all ha' e
              simp at m
              have := i4 m; subst this
              exact .refl ..
            · have e' := (est_same (hE x hx.1 (by omega) q (by omega))).mp e
              exact .step e' (i1 (F.into hx.1 hx.2 e'))
          · by_cases q : x = a2
            · subst q
              obtain ⟨m, rfl⟩ := est_all hb' e
              simp at m
              have := i4 m; subst this
              exact .refl ..
            · have e' := (est_same (hE x (by omega) hx.2 (by omega) q)).mp e
              exact .step e' (i2 (K.into hx.1 hx.2 e'))
          · subst hx
            obtain ⟨m, rfl⟩ := est_all hS' e
            simp at m
            rcases m with rfl | rfl
            · exact .inl (i1 ⟨b1, b2⟩)
            · exact .inr (i2 ⟨c1, c2⟩)
          · subst hx
            obtain ⟨es, l, r1, r2, _⟩ := e
            rw [hA] at r1; cases r1; cases r2) p
      rcases key.2.2.1 rfl with q | q
      · exact .inl ((F.ok i j hi').mp q)
      · exact .inr ((K.ok i j hi').mp q)
    · rintro (q | q)
      · have p1 : Pth t E' s1 i a1 j := F.carry (fun u h1 h2 q => hE u h1 (by omega) q (by omega)) b1 b2 ((F.ok i j hi').mpr q)
        exact .step (est_eps hS (by simp)) (p1.trans (.one (est_eps ha (by simp))))
      · have p1 : Pth t E' s2 i a2 j := K.carry (fun u h1 h2 q => hE u (by omega) h2 (by omega) q) c1 c2 ((K.ok i j hi').mpr q)
        exact .step (est_eps hS (by simp)) (p1.trans (.one (est_eps hb (by simp))))

/-! a part any number of times; p: at least once; o: at most once -/
inductive StarR (R : Nat → Nat → Prop) : Nat → Nat → Prop
  | refl (i) : StarR R i i
  | step {i k j} : R i k → StarR R k j → StarR R i j
theorem frag_loop {lo hi s1 a1 : Nat} {p o : Bool} {f h : Bf} (F : Frag t E lo hi s1 a1 f)
    (hE : ∀ u, lo ≤ u → u < hi → u ≠ a1 → E'[u]? = E[u]?) (ha : E'[a1]? = some ((if o then [] else [(sE, s1)]) ++ [(sE, hi + 1)]))
    (hS : E'[hi]? = some ((sE, s1) :: (if p then [] else [(sE, hi + 1)]))) (hA : E'[hi + 1]? = some [])
    (hh : ∀ i j, i ≤ t.length → (((∃ k, f i k = true ∧ (k = j ∨ (o = false ∧ StarR (fun x y => f x y = true) k j))) ∨ (p = false ∧ i = j)) ↔ h i j = true)) : Frag t E' lo (hi + 2) hi (hi + 1) h := by
  have b1 := F.s1; have b2 := F.s2; have b3 := F.a1; have b4 := F.a2
  have ha' : E'[a1]? = some (((if o then [] else [s1]) ++ [hi + 1]).map fun y => (sE, y)) := by rw [ha]; cases o <;> rfl
  have hS' : E'[hi]? = some ((s1 :: (if p then [] else [hi + 1])).map fun y => (sE, y)) := by rw [hS]; cases p <;> rfl
  have ends : ∀ {i j : Nat}, i ≤ t.length → Pth t E s1 i a1 j → f i j = true := fun hi' q => (F.ok _ _ hi').mp q
  refine ⟨by omega, by omega, by omega, by omega, fun u es h1 h2 h3 e he => ?_, hA, fun i j hi' => ?_⟩
  · by_cases q0 : u = hi + 1
    · subst q0; rw [hA] at h3; cases h3; cases he
    by_cases q0 : u = hi
    · subst q0; rw [hS'] at h3; cases h3
      obtain ⟨y, hy, rfl⟩ := List.mem_map.mp he
      cases p <;> simp at hy <;> simp <;> omega
    by_cases q : u = a1
    · subst q; rw [ha'] at h3; cases h3
      obtain ⟨y, hy, rfl⟩ := List.mem_map.mp he
      cases o <;> simp at hy <;> simp <;> omega
    rw [hE u h1 (by omega) q] at h3
    have := F.cl u es h1 (by omega) h3 e he; omega
  · rw [← hh i j hi']
    constructor
    · intro pp
      have key := Pth.back (t := t) (E := E') (a := hi + 1) (Ok := fun x i j => i ≤ t.length → (lo ≤ x ∧ x < hi → ∃ k, Pth t E x i a1 k ∧ (k = j ∨ (o = false ∧ StarR (fun x y => f x y = true) k j))) ∧ (x = hi → (∃ k, f i k = true ∧ (k = j ∨ (o = false ∧ StarR (fun x y => f x y = true) k j))) ∨ (p = false ∧ i = j)) ∧ (x = hi + 1 → i = j))
        (fun i _ => ⟨fun hx => by omega, fun hx => by omega, fun _ => rfl⟩) (fun x i x' i' j e ih hil => by
          obtain ⟨i1, i3, i4⟩ := ih ((est_le e).2 hil)
          refine ⟨fun hx => ?_, fun hx => ?_, fun hx => ?_⟩
          · by_cases q : x = a1
            · subst q
              obtain ⟨m, rfl⟩ := est_all ha' e
              refine ⟨i', .refl .., ?_⟩
              rcases List.mem_append.mp m with m | m
              · cases o with
                | true => cases m
                | false =>
                  simp at m
                  subst m
                  obtain ⟨k, p1, p2⟩ := i1 ⟨b1, b2⟩
                  refine .inr ⟨rfl, .step (ends hil p1) ?_⟩
                  rcases p2 with rfl | ⟨_, p2⟩
                  · exact .refl _
                  · exact p2
              · simp at m
                exact .inl (i4 m)
            · have e' := (est_same (hE x hx.1 hx.2 q)).mp e
              obtain ⟨k, p1, p2⟩ := i1 (F.into hx.1 hx.2 e')
              exact ⟨k, .step e' p1, p2⟩
          · subst hx
            obtain ⟨m, rfl⟩ := est_all hS' e
            rcases List.mem_cons.mp m with rfl | m
            · obtain ⟨k, p1, p2⟩ := i1 ⟨b1, b2⟩
              exact .inl ⟨k, ends hil p1, p2⟩
            · cases p with
              | true => cases m
              | false => simp at m; exact .inr ⟨rfl, i4 m⟩
          · subst hx
            obtain ⟨es, l, r1, r2, _⟩ := e
            rw [hA] at r1; cases r1; cases r2) pp
      exact (key hi').2.1 rfl
    · have car : ∀ {i j : Nat}, i ≤ t.length → f i j = true → Pth t E' s1 i a1 j := fun hi' q => F.carry hE b1 b2 ((F.ok _ _ hi').mpr q)
      have out : ∀ {k : Nat}, Est t E' a1 k (hi + 1) k := fun {k} => est_eps ha (by simp)
      have star : ∀ {k j : Nat}, o = false → StarR (fun x y => f x y = true) k j → k ≤ t.length → Pth t E' a1 k (hi + 1) j := by
        intro k j ho q
        induction q with
        | refl => intro _; exact .one out
        | step h1 _ ih =>
          intro hk
          have p1 := car hk h1
          exact .step (est_eps ha (by simp [ho])) (p1.trans (ih (p1.le.2 hk)))
      rintro (⟨k, hf, hk⟩ | ⟨hp, rfl⟩)
      · have p1 := car hi' hf
        refine .step (est_eps hS (by simp)) (p1.trans ?_)
        rcases hk with rfl | ⟨ho, q⟩
        · exact .one out
        · exact star ho q (p1.le.2 hi')
      · exact .one (est_eps hS (by simp [hp]))
end
end Mine
end

section
set_option autoImplicit false
namespace Mine
open PySem

noncomputable def mcat (n : Nat) (A B : Nat → Nat → Bool) : Nat → Nat → Bool := fun i j => (List.range n).any fun k => A i k && B k j
noncomputable def malt (A B : Bf) : Bf := fun i j => A i j || B i j
noncomputable def meps (N : Nat) : Bf := fun i j => decide (i = j ∧ j < N)
noncomputable def mit (N : Nat) (f : Bf) : Nat → Bf
  | 0 => meps N
  | m + 1 => malt (mit N f m) (mcat N (mit N f m) f)
noncomputable def mstar (N : Nat) (f : Bf) : Bf := mit N f N
/-- only forward, and within the text -/
noncomputable def Rd (N : Nat) (f : Bf) : Prop := ∀ i j, f i j = true → i ≤ j ∧ j < N
theorem mcat_iff {N : Nat} {f g : Bf} {i j : Nat} : mcat N f g i j = true ↔ ∃ k, k < N ∧ f i k = true ∧ g k j = true := by
  unfold mcat
  simp only [List.any_eq_true, List.mem_range, Bool.and_eq_true]
theorem malt_iff {f g : Bf} {i j : Nat} : malt f g i j = true ↔ f i j = true ∨ g i j = true := by
  unfold malt; simp
theorem meps_iff {N i j : Nat} : meps N i j = true ↔ i = j ∧ j < N := by unfold meps; simp
theorem Rd.eps (N : Nat) : Rd N (meps N) := fun i j h => by have := meps_iff.mp h; omega
theorem Rd.alt {N : Nat} {f g : Bf} (hf : Rd N f) (hg : Rd N g) : Rd N (malt f g) := fun i j h => (malt_iff.mp h).elim (hf i j) (hg i j)
theorem Rd.cat {N : Nat} {f g : Bf} (hf : Rd N f) (hg : Rd N g) : Rd N (mcat N f g) := fun i j h => by
  obtain ⟨k, _, h1, h2⟩ := mcat_iff.mp h
  have := hf i k h1; have := hg k j h2; omega
theorem Rd.it {N : Nat} {f : Bf} (hf : Rd N f) : ∀ m, Rd N (mit N f m)
  | 0 => Rd.eps N
  | m + 1 => (Rd.it hf m).alt ((Rd.it hf m).cat hf)
theorem mcat_ex {N : Nat} {f g : Bf} (hf : Rd N f) {i j : Nat} : (∃ k, f i k = true ∧ g k j = true) ↔ mcat N f g i j = true := by
  rw [mcat_iff]
  exact ⟨fun ⟨k, h1, h2⟩ => ⟨k, (hf i k h1).2, h1, h2⟩, fun ⟨k, _, h1, h2⟩ => ⟨k, h1, h2⟩⟩

section
variable {N : Nat} {f : Bf}
abbrev St (f : Bf) : Nat → Nat → Prop := StarR fun x y => f x y = true
theorem StarR.snoc {R : Nat → Nat → Prop} {i k j : Nat} (p : StarR R i k) (e : R k j) : StarR R i j := by
  induction p with
  | refl => exact .step e (.refl _)
  | step h _ ih => exact .step h (ih e)
theorem it_sound : ∀ (m : Nat) {i j : Nat}, mit N f m i j = true → St f i j
  | 0, i, j, h => by obtain ⟨rfl, _⟩ := meps_iff.mp h; exact .refl _
  | m + 1, i, j, h => by
    rcases malt_iff.mp h with h | h
    · exact it_sound m h
    · obtain ⟨k, _, h1, h2⟩ := mcat_iff.mp h
      exact (it_sound m h1).snoc h2
theorem it_mono {i j m m' : Nat} (hm : m ≤ m') (h : mit N f m i j = true) : mit N f m' i j = true := by
  induction hm with
  | refl => exact h
  | step _ ih => exact malt_iff.mpr (.inl ih)
theorem St.le (hf : Rd N f) {i j : Nat} (p : St f i j) (hi : i < N) : i ≤ j ∧ j < N := by
  induction p with
  | refl => omega
  | step h _ ih => have := hf _ _ h; have := ih this.2; omega
theorem it_grow (hf : Rd N f) {i j : Nat} (p : St f i j) : ∀ {m i0 : Nat}, i < N → mit N f m i0 i = true → mit N f (m + (j - i)) i0 j = true := by
  induction p with
  | refl => intro m i0 _ h; simpa using h
  | @step i k j h q ih =>
    intro m i0 hi h0
    have hk := hf _ _ h
    have hj := St.le hf q hk.2
    by_cases e : k = i
    · subst e; exact ih hi h0
    · have h1 : mit N f (m + 1) i0 k = true := malt_iff.mpr (.inr (mcat_iff.mpr ⟨i, hi, h0, h⟩))
      exact it_mono (by omega) (ih hk.2 h1)
theorem it_star (hf : Rd N f) {m i j : Nat} (hm : N ≤ m + 1) (hi : i < N) : mit N f m i j = true ↔ St f i j := by
  constructor
  · exact it_sound m
  · intro p
    have := it_grow hf p (m := 0) hi (meps_iff.mpr ⟨rfl, hi⟩)
    have hl := St.le hf p hi
    exact it_mono (by omega) this
theorem star_iff (hf : Rd N f) {i j : Nat} (hi : i < N) : mstar N f i j = true ↔ St f i j := it_star hf (by omega) hi
theorem many_iff (hf : Rd N f) {i j : Nat} (hi : i + 1 ≤ N) : mit N f (N - 1) i j = true ↔ St f i j := it_star hf (by omega) hi
end

/-! the stack of meanings, the top ahead -/
noncomputable def mchr (t : List Nat) (s : Str) : Bf := fun i j => decide (j = i + 1) && (match t[i]? with | some c => (⟨#[c]⟩ : Str) == s | none => false)
noncomputable def mdot (t : List Nat) : Bf := fun i j => decide (j = i + 1) && (t[i]?).isSome
noncomputable def smStep (t : List Nat) : K8 → List Bf → Option (List Bf)
  | .chr s, st => some (mchr t s :: st)
  | .any, st => some (mdot t :: st)
  | .eps, st => some (meps (t.length + 1) :: st)
  | .star, f :: st => some (mstar (t.length + 1) f :: st)
  | .plus, f :: st => some (mcat (t.length + 1) f (mstar (t.length + 1) f) :: st)
  | .opt, f :: st => some (malt f (meps (t.length + 1)) :: st)
  | .cat, g :: f :: st => some (mcat (t.length + 1) f g :: st)
  | .alt, g :: f :: st => some (malt f g :: st)
  | _, _ => none
noncomputable def sms (t : List Nat) : List K8 → List Bf → Option (List Bf)
  | [], st => some st
  | k :: ks, st => (smStep t k st).bind (sms t ks)
theorem mchr_iff {t : List Nat} {s : Str} {i j : Nat} : mchr t s i j = true ↔ j = i + 1 ∧ ∃ c, t[i]? = some c ∧ s = ⟨#[c]⟩ := by
  unfold mchr
  cases h : t[i]? with
  | none => simp
  | some c =>
    simp only [Bool.and_eq_true, decide_eq_true_eq, beq_iff_eq, Option.some.injEq]
    constructor
    · rintro ⟨a, b⟩; exact ⟨a, c, rfl, b.symm⟩
    · rintro ⟨a, c', rfl, b⟩; exact ⟨a, b.symm⟩
theorem mdot_iff {t : List Nat} {i j : Nat} : mdot t i j = true ↔ j = i + 1 ∧ ∃ c, t[i]? = some c := by
  unfold mdot
  cases h : t[i]? <;> simp
theorem Rd.chr (t : List Nat) (s : Str) : Rd (t.length + 1) (mchr t s) := fun i j h => by
  obtain ⟨rfl, c, hc, _⟩ := mchr_iff.mp h
  have := (List.getElem?_eq_some_iff.mp hc).1
  omega
theorem Rd.dot (t : List Nat) : Rd (t.length + 1) (mdot t) := fun i j h => by
  obtain ⟨rfl, c, hc⟩ := mdot_iff.mp h
  have := (List.getElem?_eq_some_iff.mp hc).1
  omega
noncomputable def AllRd (N : Nat) (st : List Bf) : Prop := ∀ f ∈ st, Rd N f
theorem sm_rd {t : List Nat} {k : K8} {st st' : List Bf} (h : smStep t k st = some st') (hs : AllRd (t.length + 1) st) : AllRd (t.length + 1) st' := by
  have tl : ∀ {f : Bf} {st : List Bf}, AllRd (t.length + 1) (f :: st) → Rd (t.length + 1) f ∧ AllRd (t.length + 1) st := fun h => ⟨h _ (List.mem_cons_self ..), fun g hg => h g (List.mem_cons_of_mem _ hg)⟩
  have cons : ∀ {f : Bf} {st : List Bf}, Rd (t.length + 1) f → AllRd (t.length + 1) st → AllRd (t.length + 1) (f :: st) := fun h1 h2 g hg => by
    rcases List.mem_cons.mp hg with rfl | q
    · exact h1
    · exact h2 g q
  unfold smStep at h
  split at h <;> cases h
  · exact cons (Rd.chr t _) hs
  · exact cons (Rd.dot t) hs
  · exact cons (Rd.eps _) hs
  · exact cons (Rd.it (tl hs).1 _) (tl hs).2
  · exact cons ((tl hs).1.cat (Rd.it (tl hs).1 _)) (tl hs).2
  · exact cons ((tl hs).1.alt (Rd.eps _)) (tl hs).2
  · exact cons ((tl (tl hs).2).1.cat (tl hs).1) (tl (tl hs).2).2
  · exact cons ((tl (tl hs).2).1.alt (tl hs).1) (tl (tl hs).2).2
end Mine
end

section
set_option autoImplicit false
namespace Mine
open PySem

noncomputable def addE (E : List (List Edge)) (u : Nat) (e : Edge) : List (List Edge) := E.set u ((E[u]?).getD [] ++ [e])
theorem addE_len (E : List (List Edge)) (u : Nat) (e : Edge) : (addE E u e).length = E.length := by simp [addE]
theorem addE_self {E : List (List Edge)} {u : Nat} {es : List Edge} (e : Edge) (h : E[u]? = some es) : (addE E u e)[u]? = some (es ++ [e]) := by
  have := (List.getElem?_eq_some_iff.mp h).1
  unfold addE
  rw [h, List.getElem?_set_self this]
  rfl
theorem addE_ne {E : List (List Edge)} {u v : Nat} (e : Edge) (h : v ≠ u) : (addE E u e)[v]? = E[v]? := by
  simp [addE, List.getElem?_set_ne (Ne.symm h)]
noncomputable def sDot : Str := ⟨#[46]⟩
abbrev TS := List (List Edge) × List (Nat × Nat)
noncomputable def two (E : List (List Edge)) : List (List Edge) := E ++ [[]] ++ [[]]
theorem two_len (E : List (List Edge)) : (two E).length = E.length + 2 := by simp [two]
theorem two_old {E : List (List Edge)} {v : Nat} (h : v < E.length) : (two E)[v]? = E[v]? := by
  unfold two
  rw [List.getElem?_append_left (by simp; omega), List.getElem?_append_left h]
theorem two_s (E : List (List Edge)) : (two E)[E.length]? = some [] := by simp [two]
theorem two_a (E : List (List Edge)) : (two E)[E.length + 1]? = some [] := by
  unfold two
  rw [List.getElem?_append_right (by simp)]
  simp
noncomputable def leaf (E : List (List Edge)) (st : List (Nat × Nat)) (l : Str) : TS := (addE (two E) E.length (l, E.length + 1), (E.length, E.length + 1) :: st)
noncomputable def wrap (p o : Bool) (E : List (List Edge)) (x : Nat × Nat) : List (List Edge) :=
  let E1 := addE (two E) E.length (sE, x.1)
  let E2 := if p then E1 else addE E1 E.length (sE, E.length + 1)
  let E3 := if o then E2 else addE E2 x.2 (sE, x.1)
  addE E3 x.2 (sE, E.length + 1)
noncomputable def thStep : K8 → TS → Option TS
  | .cat, (E, r :: l :: st) => some (addE E l.2 (sE, r.1), (l.1, r.2) :: st)
  | .chr s, (E, st) => some (leaf E st s)
  | .any, (E, st) => some (leaf E st sDot)
  | .eps, (E, st) => some (leaf E st sE)
  | .alt, (E, r :: l :: st) => some (addE (addE (addE (addE (two E) E.length (sE, l.1)) E.length (sE, r.1)) l.2 (sE, E.length + 1)) r.2 (sE, E.length + 1), (E.length, E.length + 1) :: st)
  | .star, (E, x :: st) => some (wrap false false E x, (E.length, E.length + 1) :: st)
  | .plus, (E, x :: st) => some (wrap true false E x, (E.length, E.length + 1) :: st)
  | .opt, (E, x :: st) => some (wrap false true E x, (E.length, E.length + 1) :: st)
  | _, _ => none

/-- the stack's parts lie one behind the other, the top at the end -/
inductive Stk (t : List Nat) (E : List (List Edge)) : Nat → List (Nat × Nat) → List Bf → Prop
  | nil : Stk t E 0 [] []
  | cons {lo hi s a f st fs} : Frag t E lo hi s a f → Stk t E lo st fs → Stk t E hi ((s, a) :: st) (f :: fs)
theorem Stk.congr {t : List Nat} {E E' : List (List Edge)} {hi : Nat} {st : List (Nat × Nat)} {fs : List Bf} (x : Stk t E hi st fs) (h : ∀ u, u < hi → E'[u]? = E[u]?) : Stk t E' hi st fs := by
  induction x with
  | nil => exact .nil
  | cons F _ ih =>
    have := F.s1; have := F.s2
    exact .cons (F.congr fun u _ h2 => h u h2) (ih fun u hu => h u (by omega))
theorem Stk.inv {t : List Nat} {E : List (List Edge)} {hi : Nat} {p : Nat × Nat} {st : List (Nat × Nat)} {fs : List Bf} (x : Stk t E hi (p :: st) fs) : ∃ lo f fs', fs = f :: fs' ∧ Frag t E lo hi p.1 p.2 f ∧ Stk t E lo st fs' := by
  cases x with
  | cons F S => exact ⟨_, _, _, rfl, F, S⟩
/-- all that the stack names is there -/
theorem Stk.lt {t : List Nat} {E : List (List Edge)} {hi : Nat} {st : List (Nat × Nat)} {fs : List Bf} (x : Stk t E hi st fs) : ∀ p ∈ st, p.1 < hi ∧ p.2 < hi := by
  induction x with
  | nil => intro p hp; cases hp
  | cons F _ ih =>
    intro p hp
    have h1 := F.s1; have h2 := F.s2; have h3 := F.a2
    rcases List.mem_cons.mp hp with rfl | q
    · exact ⟨h2, h3⟩
    · have := ih p q; omega

noncomputable def K8.ok : K8 → Prop
  | .chr s => ∃ c, s = ⟨#[c]⟩ ∧ c ≠ 46
  | _ => True
section
variable {t : List Nat} {E : List (List Edge)} {st : List (Nat × Nat)} {fs : List Bf}
theorem leaf_inv {l : Str} {f : Bf} (hf : ∀ i j, i ≤ t.length → (((l = sE ∧ j = i) ∨ ∃ c, t[i]? = some c ∧ (l = ⟨#[c]⟩ ∨ l = ⟨#[46]⟩) ∧ j = i + 1) ↔ f i j = true)) (S : Stk t E E.length st fs) :
    Stk t (leaf E st l).1 (leaf E st l).1.length (leaf E st l).2 (f :: fs) := by
  unfold leaf
  simp only [addE_len, two_len]
  refine .cons (frag_sign (addE_self _ (two_s E)) (by rw [addE_ne _ (by omega)]; exact two_a E) hf) (S.congr fun u hu => ?_)
  rw [addE_ne _ (by omega), two_old hu]
theorem wrap_len (p o : Bool) (x : Nat × Nat) : (wrap p o E x).length = E.length + 2 := by
  unfold wrap
  cases p <;> cases o <;> simp only [addE_len, two_len, if_true, if_false, Bool.false_eq_true]
theorem wrap_inv {p o : Bool} {x : Nat × Nat} {lo : Nat} {f h : Bf} (F : Frag t E lo E.length x.1 x.2 f) (S : Stk t E lo st fs)
    (hh : ∀ i j, i ≤ t.length → (((∃ k, f i k = true ∧ (k = j ∨ (o = false ∧ St f k j))) ∨ (p = false ∧ i = j)) ↔ h i j = true)) :
    Stk t (wrap p o E x) (wrap p o E x).length ((E.length, E.length + 1) :: st) (h :: fs) := by
  have a1 := F.a1; have a2 := F.a2; have s1 := F.s1; have s2 := F.s2
  have hne : x.2 ≠ E.length := by omega
  have e0 : (two E)[x.2]? = some [] := by rw [two_old a2]; exact F.acc
  have old : ∀ u, u < E.length → u ≠ x.2 → (wrap p o E x)[u]? = E[u]? := fun u hu hx => by
    unfold wrap
    cases p <;> cases o <;> simp only [if_true, if_false, Bool.false_eq_true] <;> simp only [addE_ne _ hx, addE_ne _ (show u ≠ E.length by omega), two_old hu]
  rw [wrap_len]
  refine .cons (frag_loop F (fun u h1 h2 h3 => old u h2 h3) ?_ ?_ ?_ hh) (S.congr fun u hu => old u (by omega) (by omega))
  · unfold wrap
    have e1 : ∀ e, (addE (two E) E.length e)[x.2]? = some [] := fun e => by rw [addE_ne _ hne]; exact e0
    have e2 : ∀ e e', (addE (addE (two E) E.length e) E.length e')[x.2]? = some [] := fun e e' => by rw [addE_ne _ hne]; exact e1 e
    cases p <;> cases o <;> simp only [if_true, if_false, Bool.false_eq_true]
    · exact addE_self _ (addE_self _ (e2 ..))
    · exact addE_self _ (e2 ..)
    · exact addE_self _ (addE_self _ (e1 _))
    · exact addE_self _ (e1 _)
  · unfold wrap
    have e1 : ∀ e, (addE (two E) E.length e)[E.length]? = some [e] := fun e => addE_self _ (two_s E)
    cases p <;> cases o <;> simp only [if_true, if_false, Bool.false_eq_true] <;> simp only [addE_ne _ (Ne.symm hne)]
    · exact addE_self _ (e1 _)
    · exact addE_self _ (e1 _)
    · exact e1 _
    · exact e1 _
  · unfold wrap
    cases p <;> cases o <;> simp only [if_true, if_false, Bool.false_eq_true] <;> simp only [addE_ne _ (show E.length + 1 ≠ x.2 by omega), addE_ne _ (show E.length + 1 ≠ E.length by omega), two_a]
theorem th_inv {k : K8} {T' : TS} {fs' : List Bf} (hk : k.ok) (S : Stk t E E.length st fs) (rd : AllRd (t.length + 1) fs) (h1 : thStep k (E, st) = some T') (h2 : smStep t k fs = some fs') : Stk t T'.1 T'.1.length T'.2 fs' := by
  have lt : ∀ {i : Nat}, i ≤ t.length → i < t.length + 1 := fun h => Nat.lt_succ_of_le h
  cases k with
  | chr s =>
    obtain ⟨c, rfl, hc⟩ := hk
    cases h1; cases h2
    refine leaf_inv (fun i j hi => ?_) S
    rw [mchr_iff]
    constructor
    · rintro (⟨h, _⟩ | ⟨c', h1, h2, h3⟩)
      · cases h
      · rcases h2 with h2 | h2
        · exact ⟨h3, c', h1, h2⟩
        · injection h2 with h2
          have := congrArg (fun a : Array Nat => a[0]?) h2
          simp at this
          exact absurd this hc
    · rintro ⟨h3, c', h1, h2⟩
      exact .inr ⟨c', h1, .inl h2, h3⟩
  | any =>
    cases h1; cases h2
    refine leaf_inv (fun i j hi => ?_) S
    rw [mdot_iff]
    constructor
    · rintro (⟨h, _⟩ | ⟨c', h1, h2, h3⟩)
      · cases h
      · exact ⟨h3, c', h1⟩
    · rintro ⟨h3, c', h1⟩
      exact .inr ⟨c', h1, .inr rfl, h3⟩
  | eps =>
    cases h1; cases h2
    refine leaf_inv (fun i j hi => ?_) S
    rw [meps_iff]
    constructor
    · rintro (⟨_, h⟩ | ⟨c', h1, h2, h3⟩)
      · subst h; exact ⟨rfl, lt hi⟩
      · rcases h2 with h2 | h2 <;> cases h2
    · rintro ⟨rfl, _⟩
      exact .inl ⟨rfl, rfl⟩
  | star =>
    cases st with
    | nil => simp [thStep] at h1
    | cons x st =>
      obtain ⟨lo, f, fs1, rfl, F, S⟩ := S.inv
      cases h1; cases h2
      have hf := rd _ (List.mem_cons_self ..)
      refine wrap_inv F S fun i j hi => ?_
      rw [star_iff hf (lt hi)]
      constructor
      · rintro (⟨k, h1, h2⟩ | ⟨_, rfl⟩)
        · rcases h2 with rfl | ⟨_, h2⟩
          · exact .step h1 (.refl _)
          · exact .step h1 h2
        · exact .refl _
      · intro h
        cases h with
        | refl => exact .inr ⟨rfl, rfl⟩
        | step h1 h2 => exact .inl ⟨_, h1, .inr ⟨rfl, h2⟩⟩
  | plus =>
    cases st with
    | nil => simp [thStep] at h1
    | cons x st =>
      obtain ⟨lo, f, fs1, rfl, F, S⟩ := S.inv
      cases h1; cases h2
      have hf := rd _ (List.mem_cons_self ..)
      refine wrap_inv F S fun i j hi => ?_
      rw [mcat_iff]
      constructor
      · rintro (⟨k, h1, h2⟩ | ⟨h, _⟩)
        · have hk := (hf _ _ h1).2
          refine ⟨k, hk, h1, (star_iff hf hk).mpr ?_⟩
          rcases h2 with rfl | ⟨_, h2⟩
          · exact .refl _
          · exact h2
        · cases h
      · rintro ⟨k, hk, h1, h2⟩
        exact .inl ⟨k, h1, .inr ⟨rfl, (star_iff hf hk).mp h2⟩⟩
  | opt =>
    cases st with
    | nil => simp [thStep] at h1
    | cons x st =>
      obtain ⟨lo, f, fs1, rfl, F, S⟩ := S.inv
      cases h1; cases h2
      refine wrap_inv F S fun i j hi => ?_
      rw [malt_iff, meps_iff]
      constructor
      · rintro (⟨k, h1, h2⟩ | ⟨_, rfl⟩)
        · rcases h2 with rfl | ⟨h, _⟩
          · exact .inl h1
          · cases h
        · exact .inr ⟨rfl, lt hi⟩
      · rintro (h | ⟨rfl, _⟩)
        · exact .inl ⟨j, h, .inl rfl⟩
        · exact .inr ⟨rfl, rfl⟩
  | cat =>
    cases st with
    | nil => simp [thStep] at h1
    | cons r st =>
      cases st with
      | nil => simp [thStep] at h1
      | cons l st =>
        obtain ⟨mid, g, fs1, rfl, K, S⟩ := S.inv
        obtain ⟨lo, f, fs2, rfl, F, S⟩ := S.inv
        cases h1; cases h2
        have hf := rd _ (List.mem_cons_of_mem _ (List.mem_cons_self ..))
        have a1 := F.a1; have a2 := F.a2; have c1 := K.s1; have c2 := K.s2
        simp only [addE_len]
        refine .cons (frag_cat F K (fun u _ _ h3 => addE_ne _ h3) (addE_self _ F.acc) fun i j _ => mcat_ex hf) (S.congr fun u hu => addE_ne _ (by omega))
  | alt =>
    cases st with
    | nil => simp [thStep] at h1
    | cons r st =>
      cases st with
      | nil => simp [thStep] at h1
      | cons l st =>
        obtain ⟨s2, a2⟩ := r
        obtain ⟨s1, a1⟩ := l
        obtain ⟨mid, g, fs1, rfl, K, S⟩ := S.inv
        obtain ⟨lo, f, fs2, rfl, F, S⟩ := S.inv
        dsimp only at K F
        cases h1; cases h2
        have b1 := F.a1; have b2 := F.a2; have c1 := K.a1; have c2 := K.a2; have c3 := K.s1
        have n1 : a1 ≠ E.length := by omega
        have n2 : a2 ≠ E.length := by omega
        have n3 : a1 ≠ a2 := by omega
        simp only [addE_len, two_len]
        have e1 : (two E)[a1]? = some [] := by rw [two_old (by omega)]; exact F.acc
        have e2 : (two E)[a2]? = some [] := by rw [two_old (by omega)]; exact K.acc
        refine .cons (frag_alt F K (fun u h1 h2 h3 h4 => ?_) ?_ ?_ ?_ ?_ fun i j _ => malt_iff.symm) (S.congr fun u hu => ?_)
        · simp only [addE_ne _ h3, addE_ne _ h4, addE_ne _ (show u ≠ E.length by omega), two_old h2]
        · rw [addE_ne _ n3, addE_self (es := []) _ (by simp only [addE_ne _ n1]; exact e1)]; rfl
        · rw [addE_self (es := []) _ (by simp only [addE_ne _ (Ne.symm n3), addE_ne _ n2]; exact e2)]; rfl
        · simp only [addE_ne _ (Ne.symm n1), addE_ne _ (Ne.symm n2)]
          exact addE_self _ (addE_self _ (two_s E))
        · simp only [addE_ne _ (show E.length + 1 ≠ a1 by omega), addE_ne _ (show E.length + 1 ≠ a2 by omega), addE_ne _ (show E.length + 1 ≠ E.length by omega), two_a]
        · have := F.s1; have := F.s2
          simp only [addE_ne _ (show u ≠ a1 by omega), addE_ne _ (show u ≠ a2 by omega), addE_ne _ (show u ≠ E.length by omega), two_old (show u < E.length by omega)]
end
end Mine
end

section
set_option autoImplicit false
set_option linter.unusedVariables false
set_option maxRecDepth 100000
namespace Mine
open PySem
noncomputable def tv : List (Str × V) := (topTab PySem.Challenge.pw_k12_0040.main.body [] []).1
noncomputable abbrev G (d : Nat) : Glob := globs PySem.Challenge.pw_k12_0040 (fun x => tv.lookup x) false d
noncomputable def n_n : Str := ⟨#[110]⟩
noncomputable def n_kind : Str := ⟨#[107, 105, 110, 100]⟩
noncomputable def n_c : Str := ⟨#[99]⟩
noncomputable def n_text : Str := ⟨#[116, 101, 120, 116]⟩
noncomputable def n_table : Str := ⟨#[116, 97, 98, 108, 101]⟩
noncomputable def n_i : Str := ⟨#[105]⟩
noncomputable def n_a : Str := ⟨#[97]⟩
noncomputable def n_b : Str := ⟨#[98]⟩
noncomputable def n_size : Str := ⟨#[115, 105, 122, 101]⟩
noncomputable def n_k : Str := ⟨#[107]⟩
noncomputable def n_j : Str := ⟨#[106]⟩
noncomputable def n_post : Str := ⟨#[112, 111, 115, 116]⟩
noncomputable def n_stack : Str := ⟨#[115, 116, 97, 99, 107]⟩
noncomputable def n_item : Str := ⟨#[105, 116, 101, 109]⟩
noncomputable def n_left : Str := ⟨#[108, 101, 102, 116]⟩
noncomputable def n_right : Str := ⟨#[114, 105, 103, 104, 116]⟩
noncomputable def n_edges : Str := ⟨#[101, 100, 103, 101, 115]⟩
noncomputable def n_s : Str := ⟨#[115]⟩
noncomputable def n_label : Str := ⟨#[108, 97, 98, 101, 108]⟩
noncomputable def n_inner : Str := ⟨#[105, 110, 110, 101, 114]⟩
noncomputable def n_states : Str := ⟨#[115, 116, 97, 116, 101, 115]⟩
noncomputable def n_seen : Str := ⟨#[115, 101, 101, 110]⟩
noncomputable def n_work : Str := ⟨#[119, 111, 114, 107]⟩
noncomputable def n_e : Str := ⟨#[101]⟩
noncomputable def n_targets : Str := ⟨#[116, 97, 114, 103, 101, 116, 115]⟩
noncomputable def n_nfa : Str := ⟨#[110, 102, 97]⟩
noncomputable def n_current : Str := ⟨#[99, 117, 114, 114, 101, 110, 116]⟩
noncomputable def n_script : Str := ⟨#[115, 99, 114, 105, 112, 116]⟩
noncomputable def n_depth : Str := ⟨#[100, 101, 112, 116, 104]⟩
noncomputable def n_x : Str := ⟨#[120]⟩
noncomputable def n_pieces : Str := ⟨#[112, 105, 101, 99, 101, 115]⟩
noncomputable def n_out : Str := ⟨#[111, 117, 116]⟩
noncomputable def n_sign : Str := ⟨#[115, 105, 103, 110]⟩
noncomputable def n_top : Str := ⟨#[116, 111, 112]⟩
noncomputable def n_kept : Str := ⟨#[107, 101, 112, 116]⟩
noncomputable def n_want : Str := ⟨#[119, 97, 110, 116]⟩
noncomputable def f_blank_table : Str := ⟨#[98, 108, 97, 110, 107, 95, 116, 97, 98, 108, 101]⟩
noncomputable def f_table_of_sign : Str := ⟨#[116, 97, 98, 108, 101, 95, 111, 102, 95, 115, 105, 103, 110]⟩
noncomputable def f_table_cat : Str := ⟨#[116, 97, 98, 108, 101, 95, 99, 97, 116]⟩
noncomputable def f_table_alt : Str := ⟨#[116, 97, 98, 108, 101, 95, 97, 108, 116]⟩
noncomputable def f_table_star : Str := ⟨#[116, 97, 98, 108, 101, 95, 115, 116, 97, 114]⟩
noncomputable def f_means : Str := ⟨#[109, 101, 97, 110, 115]⟩
noncomputable def f_thompson : Str := ⟨#[116, 104, 111, 109, 112, 115, 111, 110]⟩
noncomputable def f_closure : Str := ⟨#[99, 108, 111, 115, 117, 114, 101]⟩
noncomputable def f_step : Str := ⟨#[115, 116, 101, 112]⟩
noncomputable def f_nfa_accepts : Str := ⟨#[110, 102, 97, 95, 97, 99, 99, 101, 112, 116, 115]⟩
noncomputable def f_law_the_set_machine_means_it : Str := ⟨#[108, 97, 119, 95, 116, 104, 101, 95, 115, 101, 116, 95, 109, 97, 99, 104, 105, 110, 101, 95, 109, 101, 97, 110, 115, 95, 105, 116]⟩
noncomputable def f_law_cell : Str := ⟨#[95, 108, 97, 119, 95, 99, 101, 108, 108]⟩
noncomputable def f_law_post : Str := ⟨#[95, 108, 97, 119, 95, 112, 111, 115, 116]⟩
noncomputable def f_law_join : Str := ⟨#[95, 108, 97, 119, 95, 106, 111, 105, 110]⟩
noncomputable def f_law_many : Str := ⟨#[95, 108, 97, 119, 95, 109, 97, 110, 121]⟩
noncomputable def f_law_reads : Str := ⟨#[95, 108, 97, 119, 95, 114, 101, 97, 100, 115]⟩
noncomputable def f_law : Str := ⟨#[108, 97, 119]⟩
theorem ne_table_of_sign : (n_kind = n_c) = False ∧ (n_kind = n_text) = False ∧ (n_kind = n_n) = False ∧ (n_kind = n_table) = False ∧ (n_kind = n_i) = False ∧ (n_c = n_kind) = False ∧ (n_c = n_text) = False ∧ (n_c = n_n) = False ∧ (n_c = n_table) = False ∧ (n_c = n_i) = False ∧ (n_text = n_kind) = False ∧ (n_text = n_c) = False ∧ (n_text = n_n) = False ∧ (n_text = n_table) = False ∧ (n_text = n_i) = False ∧ (n_n = n_kind) = False ∧ (n_n = n_c) = False ∧ (n_n = n_text) = False ∧ (n_n = n_table) = False ∧ (n_n = n_i) = False ∧ (n_table = n_kind) = False ∧ (n_table = n_c) = False ∧ (n_table = n_text) = False ∧ (n_table = n_n) = False ∧ (n_table = n_i) = False ∧ (n_i = n_kind) = False ∧ (n_i = n_c) = False ∧ (n_i = n_text) = False ∧ (n_i = n_n) = False ∧ (n_i = n_table) = False := ⟨eq_false (by decide), eq_false (by decide), eq_false (by decide), eq_false (by decide), eq_false (by decide), eq_false (by decide), eq_false (by decide), eq_false (by decide), eq_false (by decide), eq_false (by decide), eq_false (by decide), eq_false (by decide), eq_false (by decide), eq_false (by decide), eq_false (by decide), eq_false (by decide), eq_false (by decide), eq_false (by decide), eq_false (by decide), eq_false (by decide), eq_false (by decide), eq_false (by decide), eq_false (by decide), eq_false (by decide), eq_false (by decide), eq_false (by decide), eq_false (by decide), eq_false (by decide), eq_false (by decide), eq_false (by decide)⟩
theorem ne_table_cat : (n_a = n_b) = False ∧ (n_a = n_size) = False ∧ (n_a = n_table) = False ∧ (n_a = n_i) = False ∧ (n_a = n_k) = False ∧ (n_a = n_j) = False ∧ (n_b = n_a) = False ∧ (n_b = n_size) = False ∧ (n_b = n_table) = False ∧ (n_b = n_i) = False ∧ (n_b = n_k) = False ∧ (n_b = n_j) = False ∧ (n_size = n_a) = False ∧ (n_size = n_b) = False ∧ (n_size = n_table) = False ∧ (n_size = n_i) = False ∧ (n_size = n_k) = False ∧ (n_size = n_j) = False ∧ (n_table = n_a) = False ∧ (n_table = n_b) = False ∧ (n_table = n_size) = False ∧ (n_table = n_i) = False ∧ (n_table = n_k) = False ∧ (n_table = n_j) = False ∧ (n_i = n_a) = False ∧ (n_i = n_b) = False ∧ (n_i = n_size) = False ∧ (n_i = n_table) = False ∧ (n_i = n_k) = False ∧ (n_i = n_j) = False ∧ (n_k = n_a) = False ∧ (n_k = n_b) = False ∧ (n_k = n_size) = False ∧ (n_k = n_table) = False ∧ (n_k = n_i) = False ∧ (n_k = n_j) = False ∧ (n_j = n_a) = False ∧ (n_j = n_b) = False ∧ (n_j = n_size) = False ∧ (n_j = n_table) = False ∧ (n_j = n_i) = False ∧ (n_j = n_k) = False := ⟨eq_false (by decide), eq_false (by decide), eq_false (by decide), eq_false (by decide), eq_false (by decide), eq_false (by decide), eq_false (by decide), eq_false (by decide), eq_false (by decide), eq_false (by decide), eq_false (by decide), eq_false (by decide), eq_false (by decide), eq_false (by decide), eq_false (by decide), eq_false (by decide), eq_false (by decide), eq_false (by decide), eq_false (by decide), eq_false (by decide), eq_false (by decide), eq_false (by decide), eq_false (by decide), eq_false (by decide), eq_false (by decide), eq_false (by decide), eq_false (by decide), eq_false (by decide), eq_false (by decide), eq_false (by decide), eq_false (by decide), eq_false (by decide), eq_false (by decide), eq_false (by decide), eq_false (by decide), eq_false (by decide), eq_false (by decide), eq_false (by decide), eq_false (by decide), eq_false (by decide), eq_false (by decide), eq_false (by decide)⟩
theorem ne_table_alt : (n_a = n_b) = False ∧ (n_b = n_a) = False := ⟨eq_false (by decide), eq_false (by decide)⟩
theorem ne_table_star : (n_a = n_size) = False ∧ (n_a = n_table) = False ∧ (n_a = n_i) = False ∧ (n_a = n_k) = False ∧ (n_size = n_a) = False ∧ (n_size = n_table) = False ∧ (n_size = n_i) = False ∧ (n_size = n_k) = False ∧ (n_table = n_a) = False ∧ (n_table = n_size) = False ∧ (n_table = n_i) = False ∧ (n_table = n_k) = False ∧ (n_i = n_a) = False ∧ (n_i = n_size) = False ∧ (n_i = n_table) = False ∧ (n_i = n_k) = False ∧ (n_k = n_a) = False ∧ (n_k = n_size) = False ∧ (n_k = n_table) = False ∧ (n_k = n_i) = False := ⟨eq_false (by decide), eq_false (by decide), eq_false (by decide), eq_false (by decide), eq_false (by decide), eq_false (by decide), eq_false (by decide), eq_false (by decide), eq_false (by decide), eq_false (by decide), eq_false (by decide), eq_false (by decide), eq_false (by decide), eq_false (by decide), eq_false (by decide), eq_false (by decide), eq_false (by decide), eq_false (by decide), eq_false (by decide), eq_false (by decide)⟩
theorem ne_means : (n_post = n_text) = False ∧ (n_post = n_stack) = False ∧ (n_post = n_item) = False ∧ (n_post = n_kind) = False ∧ (n_post = n_left) = False ∧ (n_post = n_right) = False ∧ (n_text = n_post) = False ∧ (n_text = n_stack) = False ∧ (n_text = n_item) = False ∧ (n_text = n_kind) = False ∧ (n_text = n_left) = False ∧ (n_text = n_right) = False ∧ (n_stack = n_post) = False ∧ (n_stack = n_text) = False ∧ (n_stack = n_item) = False ∧ (n_stack = n_kind) = False ∧ (n_stack = n_left) = False ∧ (n_stack = n_right) = False ∧ (n_item = n_post) = False ∧ (n_item = n_text) = False ∧ (n_item = n_stack) = False ∧ (n_item = n_kind) = False ∧ (n_item = n_left) = False ∧ (n_item = n_right) = False ∧ (n_kind = n_post) = False ∧ (n_kind = n_text) = False ∧ (n_kind = n_stack) = False ∧ (n_kind = n_item) = False ∧ (n_kind = n_left) = False ∧ (n_kind = n_right) = False ∧ (n_left = n_post) = False ∧ (n_left = n_text) = False ∧ (n_left = n_stack) = False ∧ (n_left = n_item) = False ∧ (n_left = n_kind) = False ∧ (n_left = n_right) = False ∧ (n_right = n_post) = False ∧ (n_right = n_text) = False ∧ (n_right = n_stack) = False ∧ (n_right = n_item) = False ∧ (n_right = n_kind) = False ∧ (n_right = n_left) = False := ⟨eq_false (by decide), eq_false (by decide), eq_false (by decide), eq_false (by decide), eq_false (by decide), eq_false (by decide), eq_false (by decide), eq_false (by decide), eq_false (by decide), eq_false (by decide), eq_false (by decide), eq_false (by decide), eq_false (by decide), eq_false (by decide), eq_false (by decide), eq_false (by decide), eq_false (by decide), eq_false (by decide), eq_false (by decide), eq_false (by decide), eq_false (by decide), eq_false (by decide), eq_false (by decide), eq_false (by decide), eq_false (by decide), eq_false (by decide), eq_false (by decide), eq_false (by decide), eq_false (by decide), eq_false (by decide), eq_false (by decide), eq_false (by decide), eq_false (by decide), eq_false (by decide), eq_false (by decide), eq_false (by decide), eq_false (by decide), eq_false (by decide), eq_false (by decide), eq_false (by decide), eq_false (by decide), eq_false (by decide)⟩
theorem ne_thompson : (n_post = n_edges) = False ∧ (n_post = n_stack) = False ∧ (n_post = n_item) = False ∧ (n_post = n_kind) = False ∧ (n_post = n_left) = False ∧ (n_post = n_right) = False ∧ (n_post = n_s) = False ∧ (n_post = n_a) = False ∧ (n_post = n_label) = False ∧ (n_post = n_inner) = False ∧ (n_edges = n_post) = False ∧ (n_edges = n_stack) = False ∧ (n_edges = n_item) = False ∧ (n_edges = n_kind) = False ∧ (n_edges = n_left) = False ∧ (n_edges = n_right) = False ∧ (n_edges = n_s) = False ∧ (n_edges = n_a) = False ∧ (n_edges = n_label) = False ∧ (n_edges = n_inner) = False ∧ (n_stack = n_post) = False ∧ (n_stack = n_edges) = False ∧ (n_stack = n_item) = False ∧ (n_stack = n_kind) = False ∧ (n_stack = n_left) = False ∧ (n_stack = n_right) = False ∧ (n_stack = n_s) = False ∧ (n_stack = n_a) = False ∧ (n_stack = n_label) = False ∧ (n_stack = n_inner) = False ∧ (n_item = n_post) = False ∧ (n_item = n_edges) = False ∧ (n_item = n_stack) = False ∧ (n_item = n_kind) = False ∧ (n_item = n_left) = False ∧ (n_item = n_right) = False ∧ (n_item = n_s) = False ∧ (n_item = n_a) = False ∧ (n_item = n_label) = False ∧ (n_item = n_inner) = False ∧ (n_kind = n_post) = False ∧ (n_kind = n_edges) = False ∧ (n_kind = n_stack) = False ∧ (n_kind = n_item) = False ∧ (n_kind = n_left) = False ∧ (n_kind = n_right) = False ∧ (n_kind = n_s) = False ∧ (n_kind = n_a) = False ∧ (n_kind = n_label) = False ∧ (n_kind = n_inner) = False ∧ (n_left = n_post) = False ∧ (n_left = n_edges) = False ∧ (n_left = n_stack) = False ∧ (n_left = n_item) = False ∧ (n_left = n_kind) = False ∧ (n_left = n_right) = False ∧ (n_left = n_s) = False ∧ (n_left = n_a) = False ∧ (n_left = n_label) = False ∧ (n_left = n_inner) = False ∧ (n_right = n_post) = False ∧ (n_right = n_edges) = False ∧ (n_right = n_stack) = False ∧ (n_right = n_item) = False ∧ (n_right = n_kind) = False ∧ (n_right = n_left) = False ∧ (n_right = n_s) = False ∧ (n_right = n_a) = False ∧ (n_right = n_label) = False ∧ (n_right = n_inner) = False ∧ (n_s = n_post) = False ∧ (n_s = n_edges) = False ∧ (n_s = n_stack) = False ∧ (n_s = n_item) = False ∧ (n_s = n_kind) = False ∧ (n_s = n_left) = False ∧ (n_s = n_right) = False ∧ (n_s = n_a) = False ∧ (n_s = n_label) = False ∧ (n_s = n_inner) = False ∧ (n_a = n_post) = False ∧ (n_a = n_edges) = False ∧ (n_a = n_stack) = False ∧ (n_a = n_item) = False ∧ (n_a = n_kind) = False ∧ (n_a = n_left) = False ∧ (n_a = n_right) = False ∧ (n_a = n_s) = False ∧ (n_a = n_label) = False ∧ (n_a = n_inner) = False ∧ (n_label = n_post) = False ∧ (n_label = n_edges) = False ∧ (n_label = n_stack) = False ∧ (n_label = n_item) = False ∧ (n_label = n_kind) = False ∧ (n_label = n_left) = False ∧ (n_label = n_right) = False ∧ (n_label = n_s) = False ∧ (n_label = n_a) = False ∧ (n_label = n_inner) = False ∧ (n_inner = n_post) = False ∧ (n_inner = n_edges) = False ∧ (n_inner = n_stack) = False ∧ (n_inner = n_item) = False ∧ (n_inner = n_kind) = False ∧ (n_inner = n_left) = False ∧ (n_inner = n_right) = False ∧ (n_inner = n_s) = False ∧ (n_inner = n_a) = False ∧ (n_inner = n_label) = False := ⟨eq_false (by decide), eq_false (by decide), eq_false (by decide), eq_false (by decide), eq_false (by decide), eq_false (by decide), eq_false (by decide), eq_false (by decide), eq_false (by decide), eq_false (by decide), eq_false (by decide), eq_false (by decide), eq_false (by decide), eq_false (by decide), eq_false (by decide), eq_false (by decide), eq_false (by decide), eq_false (by decide), eq_false (by decide), eq_false (by decide), eq_false (by decide), eq_false (by decide), eq_false (by decide), eq_false (by decide), eq_false (by decide), eq_false (by decide), eq_false (by decide), eq_false (by decide), eq_false (by decide), eq_false (by decide), eq_false (by decide), eq_false (by decide), eq_false (by decide), eq_false (by decide), eq_false (by decide), eq_false (by decide), eq_false (by decide), eq_false (by decide), eq_false (by decide), eq_false (by decide), eq_false (by decide), eq_false (by decide), eq_false (by decide), eq_false (by decide), eq_false (by decide), eq_false (by decide), eq_false (by decide), eq_false (by decide), eq_false (by decide), eq_false (by decide), eq_false (by decide), eq_false (by decide), eq_false (by decide), eq_false (by decide), eq_false (by decide), eq_false (by decide), eq_false (by decide), eq_false (by decide), eq_false (by decide), eq_false (by decide), eq_false (by decide), eq_false (by decide), eq_false (by decide), eq_false (by decide), eq_false (by decide), eq_false (by decide), eq_false (by decide), eq_false (by decide), eq_false (by decide), eq_false (by decide), eq_false (by decide), eq_false (by decide), eq_false (by decide), eq_false (by decide), eq_false (by decide), eq_false (by decide), eq_false (by decide), eq_false (by decide), eq_false (by decide), eq_false (by decide), eq_false (by decide), eq_false (by decide), eq_false (by decide), eq_false (by decide), eq_false (by decide), eq_false (by decide), eq_false (by decide), eq_false (by decide), eq_false (by decide), eq_false (by decide), eq_false (by decide), eq_false (by decide), eq_false (by decide), eq_false (by decide), eq_false (by decide), eq_false (by decide), eq_false (by decide), eq_false (by decide), eq_false (by decide), eq_false (by decide), eq_false (by decide), eq_false (by decide), eq_false (by decide), eq_false (by decide), eq_false (by decide), eq_false (by decide), eq_false (by decide), eq_false (by decide), eq_false (by decide), eq_false (by decide)⟩
theorem ne_closure : (n_edges = n_states) = False ∧ (n_edges = n_seen) = False ∧ (n_edges = n_work) = False ∧ (n_edges = n_s) = False ∧ (n_edges = n_k) = False ∧ (n_edges = n_e) = False ∧ (n_states = n_edges) = False ∧ (n_states = n_seen) = False ∧ (n_states = n_work) = False ∧ (n_states = n_s) = False ∧ (n_states = n_k) = False ∧ (n_states = n_e) = False ∧ (n_seen = n_edges) = False ∧ (n_seen = n_states) = False ∧ (n_seen = n_work) = False ∧ (n_seen = n_s) = False ∧ (n_seen = n_k) = False ∧ (n_seen = n_e) = False ∧ (n_work = n_edges) = False ∧ (n_work = n_states) = False ∧ (n_work = n_seen) = False ∧ (n_work = n_s) = False ∧ (n_work = n_k) = False ∧ (n_work = n_e) = False ∧ (n_s = n_edges) = False ∧ (n_s = n_states) = False ∧ (n_s = n_seen) = False ∧ (n_s = n_work) = False ∧ (n_s = n_k) = False ∧ (n_s = n_e) = False ∧ (n_k = n_edges) = False ∧ (n_k = n_states) = False ∧ (n_k = n_seen) = False ∧ (n_k = n_work) = False ∧ (n_k = n_s) = False ∧ (n_k = n_e) = False ∧ (n_e = n_edges) = False ∧ (n_e = n_states) = False ∧ (n_e = n_seen) = False ∧ (n_e = n_work) = False ∧ (n_e = n_s) = False ∧ (n_e = n_k) = False := ⟨eq_false (by decide), eq_false (by decide), eq_false (by decide), eq_false (by decide), eq_false (by decide), eq_false (by decide), eq_false (by decide), eq_false (by decide), eq_false (by decide), eq_false (by decide), eq_false (by decide), eq_false (by decide), eq_false (by decide), eq_false (by decide), eq_false (by decide), eq_false (by decide), eq_false (by decide), eq_false (by decide), eq_false (by decide), eq_false (by decide), eq_false (by decide), eq_false (by decide), eq_false (by decide), eq_false (by decide), eq_false (by decide), eq_false (by decide), eq_false (by decide), eq_false (by decide), eq_false (by decide), eq_false (by decide), eq_false (by decide), eq_false (by decide), eq_false (by decide), eq_false (by decide), eq_false (by decide), eq_false (by decide), eq_false (by decide), eq_false (by decide), eq_false (by decide), eq_false (by decide), eq_false (by decide), eq_false (by decide)⟩
theorem ne_step : (n_edges = n_states) = False ∧ (n_edges = n_c) = False ∧ (n_edges = n_targets) = False ∧ (n_edges = n_s) = False ∧ (n_edges = n_e) = False ∧ (n_states = n_edges) = False ∧ (n_states = n_c) = False ∧ (n_states = n_targets) = False ∧ (n_states = n_s) = False ∧ (n_states = n_e) = False ∧ (n_c = n_edges) = False ∧ (n_c = n_states) = False ∧ (n_c = n_targets) = False ∧ (n_c = n_s) = False ∧ (n_c = n_e) = False ∧ (n_targets = n_edges) = False ∧ (n_targets = n_states) = False ∧ (n_targets = n_c) = False ∧ (n_targets = n_s) = False ∧ (n_targets = n_e) = False ∧ (n_s = n_edges) = False ∧ (n_s = n_states) = False ∧ (n_s = n_c) = False ∧ (n_s = n_targets) = False ∧ (n_s = n_e) = False ∧ (n_e = n_edges) = False ∧ (n_e = n_states) = False ∧ (n_e = n_c) = False ∧ (n_e = n_targets) = False ∧ (n_e = n_s) = False := ⟨eq_false (by decide), eq_false (by decide), eq_false (by decide), eq_false (by decide), eq_false (by decide), eq_false (by decide), eq_false (by decide), eq_false (by decide), eq_false (by decide), eq_false (by decide), eq_false (by decide), eq_false (by decide), eq_false (by decide), eq_false (by decide), eq_false (by decide), eq_false (by decide), eq_false (by decide), eq_false (by decide), eq_false (by decide), eq_false (by decide), eq_false (by decide), eq_false (by decide), eq_false (by decide), eq_false (by decide), eq_false (by decide), eq_false (by decide), eq_false (by decide), eq_false (by decide), eq_false (by decide), eq_false (by decide)⟩
theorem ne_nfa_accepts : (n_nfa = n_text) = False ∧ (n_nfa = n_edges) = False ∧ (n_nfa = n_current) = False ∧ (n_nfa = n_c) = False ∧ (n_text = n_nfa) = False ∧ (n_text = n_edges) = False ∧ (n_text = n_current) = False ∧ (n_text = n_c) = False ∧ (n_edges = n_nfa) = False ∧ (n_edges = n_text) = False ∧ (n_edges = n_current) = False ∧ (n_edges = n_c) = False ∧ (n_current = n_nfa) = False ∧ (n_current = n_text) = False ∧ (n_current = n_edges) = False ∧ (n_current = n_c) = False ∧ (n_c = n_nfa) = False ∧ (n_c = n_text) = False ∧ (n_c = n_edges) = False ∧ (n_c = n_current) = False := ⟨eq_false (by decide), eq_false (by decide), eq_false (by decide), eq_false (by decide), eq_false (by decide), eq_false (by decide), eq_false (by decide), eq_false (by decide), eq_false (by decide), eq_false (by decide), eq_false (by decide), eq_false (by decide), eq_false (by decide), eq_false (by decide), eq_false (by decide), eq_false (by decide), eq_false (by decide), eq_false (by decide), eq_false (by decide), eq_false (by decide)⟩
theorem ne_law_the_set_machine_means_it : (n_post = n_text) = False ∧ (n_text = n_post) = False := ⟨eq_false (by decide), eq_false (by decide)⟩
theorem ne_law_cell : (n_script = n_i) = False ∧ (n_i = n_script) = False := ⟨eq_false (by decide), eq_false (by decide)⟩
theorem ne_law_post : (n_script = n_post) = False ∧ (n_script = n_depth) = False ∧ (n_script = n_i) = False ∧ (n_script = n_x) = False ∧ (n_script = n_k) = False ∧ (n_post = n_script) = False ∧ (n_post = n_depth) = False ∧ (n_post = n_i) = False ∧ (n_post = n_x) = False ∧ (n_post = n_k) = False ∧ (n_depth = n_script) = False ∧ (n_depth = n_post) = False ∧ (n_depth = n_i) = False ∧ (n_depth = n_x) = False ∧ (n_depth = n_k) = False ∧ (n_i = n_script) = False ∧ (n_i = n_post) = False ∧ (n_i = n_depth) = False ∧ (n_i = n_x) = False ∧ (n_i = n_k) = False ∧ (n_x = n_script) = False ∧ (n_x = n_post) = False ∧ (n_x = n_depth) = False ∧ (n_x = n_i) = False ∧ (n_x = n_k) = False ∧ (n_k = n_script) = False ∧ (n_k = n_post) = False ∧ (n_k = n_depth) = False ∧ (n_k = n_i) = False ∧ (n_k = n_x) = False := ⟨eq_false (by decide), eq_false (by decide), eq_false (by decide), eq_false (by decide), eq_false (by decide), eq_false (by decide), eq_false (by decide), eq_false (by decide), eq_false (by decide), eq_false (by decide), eq_false (by decide), eq_false (by decide), eq_false (by decide), eq_false (by decide), eq_false (by decide), eq_false (by decide), eq_false (by decide), eq_false (by decide), eq_false (by decide), eq_false (by decide), eq_false (by decide), eq_false (by decide), eq_false (by decide), eq_false (by decide), eq_false (by decide), eq_false (by decide), eq_false (by decide), eq_false (by decide), eq_false (by decide), eq_false (by decide)⟩
theorem ne_law_join : (n_pieces = n_a) = False ∧ (n_pieces = n_b) = False ∧ (n_a = n_pieces) = False ∧ (n_a = n_b) = False ∧ (n_b = n_pieces) = False ∧ (n_b = n_a) = False := ⟨eq_false (by decide), eq_false (by decide), eq_false (by decide), eq_false (by decide), eq_false (by decide), eq_false (by decide)⟩
theorem ne_law_many : (n_pieces = n_a) = False ∧ (n_pieces = n_n) = False ∧ (n_pieces = n_out) = False ∧ (n_pieces = n_i) = False ∧ (n_a = n_pieces) = False ∧ (n_a = n_n) = False ∧ (n_a = n_out) = False ∧ (n_a = n_i) = False ∧ (n_n = n_pieces) = False ∧ (n_n = n_a) = False ∧ (n_n = n_out) = False ∧ (n_n = n_i) = False ∧ (n_out = n_pieces) = False ∧ (n_out = n_a) = False ∧ (n_out = n_n) = False ∧ (n_out = n_i) = False ∧ (n_i = n_pieces) = False ∧ (n_i = n_a) = False ∧ (n_i = n_n) = False ∧ (n_i = n_out) = False := ⟨eq_false (by decide), eq_false (by decide), eq_false (by decide), eq_false (by decide), eq_false (by decide), eq_false (by decide), eq_false (by decide), eq_false (by decide), eq_false (by decide), eq_false (by decide), eq_false (by decide), eq_false (by decide), eq_false (by decide), eq_false (by decide), eq_false (by decide), eq_false (by decide), eq_false (by decide), eq_false (by decide), eq_false (by decide), eq_false (by decide)⟩
theorem ne_law_reads : (n_post = n_text) = False ∧ (n_post = n_n) = False ∧ (n_post = n_pieces) = False ∧ (n_post = n_stack) = False ∧ (n_post = n_kind) = False ∧ (n_post = n_sign) = False ∧ (n_post = n_top) = False ∧ (n_post = n_right) = False ∧ (n_text = n_post) = False ∧ (n_text = n_n) = False ∧ (n_text = n_pieces) = False ∧ (n_text = n_stack) = False ∧ (n_text = n_kind) = False ∧ (n_text = n_sign) = False ∧ (n_text = n_top) = False ∧ (n_text = n_right) = False ∧ (n_n = n_post) = False ∧ (n_n = n_text) = False ∧ (n_n = n_pieces) = False ∧ (n_n = n_stack) = False ∧ (n_n = n_kind) = False ∧ (n_n = n_sign) = False ∧ (n_n = n_top) = False ∧ (n_n = n_right) = False ∧ (n_pieces = n_post) = False ∧ (n_pieces = n_text) = False ∧ (n_pieces = n_n) = False ∧ (n_pieces = n_stack) = False ∧ (n_pieces = n_kind) = False ∧ (n_pieces = n_sign) = False ∧ (n_pieces = n_top) = False ∧ (n_pieces = n_right) = False ∧ (n_stack = n_post) = False ∧ (n_stack = n_text) = False ∧ (n_stack = n_n) = False ∧ (n_stack = n_pieces) = False ∧ (n_stack = n_kind) = False ∧ (n_stack = n_sign) = False ∧ (n_stack = n_top) = False ∧ (n_stack = n_right) = False ∧ (n_kind = n_post) = False ∧ (n_kind = n_text) = False ∧ (n_kind = n_n) = False ∧ (n_kind = n_pieces) = False ∧ (n_kind = n_stack) = False ∧ (n_kind = n_sign) = False ∧ (n_kind = n_top) = False ∧ (n_kind = n_right) = False ∧ (n_sign = n_post) = False ∧ (n_sign = n_text) = False ∧ (n_sign = n_n) = False ∧ (n_sign = n_pieces) = False ∧ (n_sign = n_stack) = False ∧ (n_sign = n_kind) = False ∧ (n_sign = n_top) = False ∧ (n_sign = n_right) = False ∧ (n_top = n_post) = False ∧ (n_top = n_text) = False ∧ (n_top = n_n) = False ∧ (n_top = n_pieces) = False ∧ (n_top = n_stack) = False ∧ (n_top = n_kind) = False ∧ (n_top = n_sign) = False ∧ (n_top = n_right) = False ∧ (n_right = n_post) = False ∧ (n_right = n_text) = False ∧ (n_right = n_n) = False ∧ (n_right = n_pieces) = False ∧ (n_right = n_stack) = False ∧ (n_right = n_kind) = False ∧ (n_right = n_sign) = False ∧ (n_right = n_top) = False := ⟨eq_false (by decide), eq_false (by decide), eq_false (by decide), eq_false (by decide), eq_false (by decide), eq_false (by decide), eq_false (by decide), eq_false (by decide), eq_false (by decide), eq_false (by decide), eq_false (by decide), eq_false (by decide), eq_false (by decide), eq_false (by decide), eq_false (by decide), eq_false (by decide), eq_false (by decide), eq_false (by decide), eq_false (by decide), eq_false (by decide), eq_false (by decide), eq_false (by decide), eq_false (by decide), eq_false (by decide), eq_false (by decide), eq_false (by decide), eq_false (by decide), eq_false (by decide), eq_false (by decide), eq_false (by decide), eq_false (by decide), eq_false (by decide), eq_false (by decide), eq_false (by decide), eq_false (by decide), eq_false (by decide), eq_false (by decide), eq_false (by decide), eq_false (by decide), eq_false (by decide), eq_false (by decide), eq_false (by decide), eq_false (by decide), eq_false (by decide), eq_false (by decide), eq_false (by decide), eq_false (by decide), eq_false (by decide), eq_false (by decide), eq_false (by decide), eq_false (by decide), eq_false (by decide), eq_false (by decide), eq_false (by decide), eq_false (by decide), eq_false (by decide), eq_false (by decide), eq_false (by decide), eq_false (by decide), eq_false (by decide), eq_false (by decide), eq_false (by decide), eq_false (by decide), eq_false (by decide), eq_false (by decide), eq_false (by decide), eq_false (by decide), eq_false (by decide), eq_false (by decide), eq_false (by decide), eq_false (by decide), eq_false (by decide)⟩
theorem ne_law : (n_script = n_text) = False ∧ (n_script = n_post) = False ∧ (n_script = n_kept) = False ∧ (n_script = n_want) = False ∧ (n_text = n_script) = False ∧ (n_text = n_post) = False ∧ (n_text = n_kept) = False ∧ (n_text = n_want) = False ∧ (n_post = n_script) = False ∧ (n_post = n_text) = False ∧ (n_post = n_kept) = False ∧ (n_post = n_want) = False ∧ (n_kept = n_script) = False ∧ (n_kept = n_text) = False ∧ (n_kept = n_post) = False ∧ (n_kept = n_want) = False ∧ (n_want = n_script) = False ∧ (n_want = n_text) = False ∧ (n_want = n_post) = False ∧ (n_want = n_kept) = False := ⟨eq_false (by decide), eq_false (by decide), eq_false (by decide), eq_false (by decide), eq_false (by decide), eq_false (by decide), eq_false (by decide), eq_false (by decide), eq_false (by decide), eq_false (by decide), eq_false (by decide), eq_false (by decide), eq_false (by decide), eq_false (by decide), eq_false (by decide), eq_false (by decide), eq_false (by decide), eq_false (by decide), eq_false (by decide), eq_false (by decide)⟩
noncomputable def blank_table_s (d : Nat) (a_n : V) (h : Hp) : Option (V × Hp) :=
let b := h.length
(binop .Add a_n (V.int (1)) h).bind fun p0 =>
(rangeArgs [p0.1]).bind fun r1 =>
(loopL none (rangeV r1.1 r1.2) (fun x2 h3 => 
(binop .Add a_n (V.int (1)) h3).bind fun p5 =>
(rangeArgs [p5.1]).bind fun r6 =>
(loopL none (rangeV r6.1 r6.2) (fun x7 h8 => 
appendTo p5.2.length (V.bool false) h8) (rangeV r6.1 r6.2) (p5.2 ++ [[]])).bind fun h9 =>
appendTo p0.2.length (V.ref p5.2.length) h9) (rangeV r1.1 r1.2) (p0.2 ++ [[]])).bind fun h4 =>
some ((V.ref p0.2.length), h4)

theorem blank_table_eq (d : Nat) (a_n : V) (h : Hp) : (G (d + 2)).fn f_blank_table [a_n] h = blank_table_s d a_n h := (fn_eq ..).trans (by kernel_rfl)

noncomputable def table_of_sign_l14 (d b : Nat) (x : V) (ρ : Rho) (h : Hp) : Option (Fl × Rho × Hp) :=
(ρ n_kind).bind fun v15 =>
(cmpop .Eq v15 (V.str ⟨#[101, 112, 115]⟩) h).bind fun t16 =>
if t16 then
(ρ n_table).bind fun v17 =>
(idx v17 x h).bind fun v18 =>
(setIdx b v18 x (V.bool true) h).bind fun h19 =>
some (Fl.next, (upd ρ n_i x), h19)
else
(ρ n_n).bind fun v20 =>
(cmpop .Lt x v20 h).bind fun t21 =>
if t21 then
(ρ n_kind).bind fun v22 =>
(cmpop .Eq v22 (V.str ⟨#[97, 110, 121]⟩) h).bind fun t23 =>
if t23 then
(ρ n_table).bind fun v32 =>
(idx v32 x h).bind fun v33 =>
(binop .Add x (V.int (1)) h).bind fun p34 =>
(setIdx b v33 p34.1 (V.bool true) p34.2).bind fun h35 =>
some (Fl.next, (upd ρ n_i x), h35)
else
(ρ n_text).bind fun v24 =>
(idx v24 x h).bind fun v25 =>
(ρ n_c).bind fun v26 =>
(cmpop .Eq v25 v26 h).bind fun t27 =>
if t27 then
(ρ n_table).bind fun v28 =>
(idx v28 x h).bind fun v29 =>
(binop .Add x (V.int (1)) h).bind fun p30 =>
(setIdx b v29 p30.1 (V.bool true) p30.2).bind fun h31 =>
some (Fl.next, (upd ρ n_i x), h31)
else
some (Fl.next, (upd ρ n_i x), h)
else
some (Fl.next, (upd ρ n_i x), h)

noncomputable def table_of_sign_s (d : Nat) (a_kind : V) (a_c : V) (a_text : V) (h : Hp) : Option (V × Hp) :=
let b := h.length
(callB b_len [a_text] h).bind fun p10 =>
((G (d + 1)).fn f_blank_table [p10.1] p10.2).bind fun p11 =>
(binop .Add p10.1 (V.int (1)) p11.2).bind fun p12 =>
(rangeArgs [p12.1]).bind fun r13 =>
(loopS none (rangeV r13.1 r13.2) (table_of_sign_l14 d b) (rangeV r13.1 r13.2) (upd (upd (fun x => List.lookup x (List.zip [n_kind, n_c, n_text] [a_kind, a_c, a_text]).reverse) n_n p10.1) n_table p11.1) p12.2).bind fun q36 =>
(match q36.1 with
| .next =>
(q36.2.1 n_table).bind fun v38 =>
some (v38, q36.2.2)
| f37 =>
(match f37 with
| .ret v => some (v, q36.2.2)
| .next => some (V.none, q36.2.2)
| _ => none))

theorem table_of_sign_eq (d : Nat) (a_kind : V) (a_c : V) (a_text : V) (h : Hp) : (G (d + 2)).fn f_table_of_sign [a_kind, a_c, a_text] h = table_of_sign_s d a_kind a_c a_text h := (fn_eq ..).trans (by kernel_rfl)

noncomputable def table_cat_l54 (d b : Nat) (x : V) (ρ : Rho) (h : Hp) : Option (Fl × Rho × Hp) :=
(ρ n_b).bind fun v55 =>
(ρ n_k).bind fun v56 =>
(idx v55 v56 h).bind fun v57 =>
(idx v57 x h).bind fun v58 =>
(truthV v58).bind fun t59 =>
if t59 then
(ρ n_table).bind fun v60 =>
(ρ n_i).bind fun v61 =>
(idx v60 v61 h).bind fun v62 =>
(setIdx b v62 x (V.bool true) h).bind fun h63 =>
some (Fl.next, (upd ρ n_j x), h63)
else
some (Fl.next, (upd ρ n_j x), h)

noncomputable def table_cat_l46 (d b : Nat) (x : V) (ρ : Rho) (h : Hp) : Option (Fl × Rho × Hp) :=
(ρ n_a).bind fun v47 =>
(ρ n_i).bind fun v48 =>
(idx v47 v48 h).bind fun v49 =>
(idx v49 x h).bind fun v50 =>
(truthV v50).bind fun t51 =>
if t51 then
(ρ n_size).bind fun v52 =>
(rangeArgs [v52]).bind fun r53 =>
(loopS none (rangeV r53.1 r53.2) (table_cat_l54 d b) (rangeV r53.1 r53.2) (upd ρ n_k x) h).bind fun q64 =>
(match q64.1 with
| .next =>
some (Fl.next, q64.2.1, q64.2.2)
| f65 =>
(match f65 with
| .next =>
some (Fl.next, q64.2.1, q64.2.2)
| f66 =>
some (f66, q64.2.1, q64.2.2)))
else
some (Fl.next, (upd ρ n_k x), h)

noncomputable def table_cat_l43 (d b : Nat) (x : V) (ρ : Rho) (h : Hp) : Option (Fl × Rho × Hp) :=
(ρ n_size).bind fun v44 =>
(rangeArgs [v44]).bind fun r45 =>
(loopS none (rangeV r45.1 r45.2) (table_cat_l46 d b) (rangeV r45.1 r45.2) (upd ρ n_i x) h).bind fun q67 =>
(match q67.1 with
| .next =>
some (Fl.next, q67.2.1, q67.2.2)
| f68 =>
some (f68, q67.2.1, q67.2.2))

noncomputable def table_cat_s (d : Nat) (a_a : V) (a_b : V) (h : Hp) : Option (V × Hp) :=
let b := h.length
(callB b_len [a_a] h).bind fun p39 =>
(binop .Sub p39.1 (V.int (1)) p39.2).bind fun p40 =>
((G (d + 1)).fn f_blank_table [p40.1] p40.2).bind fun p41 =>
(rangeArgs [p39.1]).bind fun r42 =>
(loopS none (rangeV r42.1 r42.2) (table_cat_l43 d b) (rangeV r42.1 r42.2) (upd (upd (fun x => List.lookup x (List.zip [n_a, n_b] [a_a, a_b]).reverse) n_size p39.1) n_table p41.1) p41.2).bind fun q69 =>
(match q69.1 with
| .next =>
(q69.2.1 n_table).bind fun v71 =>
some (v71, q69.2.2)
| f70 =>
(match f70 with
| .ret v => some (v, q69.2.2)
| .next => some (V.none, q69.2.2)
| _ => none))

theorem table_cat_eq (d : Nat) (a_a : V) (a_b : V) (h : Hp) : (G (d + 2)).fn f_table_cat [a_a, a_b] h = table_cat_s d a_a a_b h := (fn_eq ..).trans (by kernel_rfl)

noncomputable def table_alt_s (d : Nat) (a_a : V) (a_b : V) (h : Hp) : Option (V × Hp) :=
let b := h.length
(callB b_len [a_a] h).bind fun p72 =>
(rangeArgs [p72.1]).bind fun r73 =>
(loopL none (rangeV r73.1 r73.2) (fun x74 h75 => 
(callB b_len [a_a] h75).bind fun p77 =>
(rangeArgs [p77.1]).bind fun r78 =>
(loopL none (rangeV r78.1 r78.2) (fun x79 h80 => 
(idx a_a x74 h80).bind fun v82 =>
(idx v82 x79 h80).bind fun v83 =>
(truthV v83).bind fun t84 =>
if t84 then
appendTo p77.2.length v83 h80
else
(idx a_b x74 h80).bind fun v85 =>
(idx v85 x79 h80).bind fun v86 =>
appendTo p77.2.length v86 h80) (rangeV r78.1 r78.2) (p77.2 ++ [[]])).bind fun h81 =>
appendTo p72.2.length (V.ref p77.2.length) h81) (rangeV r73.1 r73.2) (p72.2 ++ [[]])).bind fun h76 =>
some ((V.ref p72.2.length), h76)

theorem table_alt_eq (d : Nat) (a_a : V) (a_b : V) (h : Hp) : (G (d + 2)).fn f_table_alt [a_a, a_b] h = table_alt_s d a_a a_b h := (fn_eq ..).trans (by kernel_rfl)

noncomputable def table_star_l91 (d b : Nat) (x : V) (ρ : Rho) (h : Hp) : Option (Fl × Rho × Hp) :=
(ρ n_table).bind fun v92 =>
(idx v92 x h).bind fun v93 =>
(setIdx b v93 x (V.bool true) h).bind fun h94 =>
some (Fl.next, (upd ρ n_i x), h94)

noncomputable def table_star_l99 (d b : Nat) (x : V) (ρ : Rho) (h : Hp) : Option (Fl × Rho × Hp) :=
(ρ n_table).bind fun v100 =>
(ρ n_table).bind fun v101 =>
(ρ n_a).bind fun v102 =>
((G (d + 1)).fn f_table_cat [v101, v102] h).bind fun p103 =>
((G (d + 1)).fn f_table_alt [v100, p103.1] p103.2).bind fun p104 =>
some (Fl.next, (upd (upd ρ n_k x) n_table p104.1), p104.2)

noncomputable def table_star_s (d : Nat) (a_a : V) (h : Hp) : Option (V × Hp) :=
let b := h.length
(callB b_len [a_a] h).bind fun p87 =>
(binop .Sub p87.1 (V.int (1)) p87.2).bind fun p88 =>
((G (d + 1)).fn f_blank_table [p88.1] p88.2).bind fun p89 =>
(rangeArgs [p87.1]).bind fun r90 =>
(loopS none (rangeV r90.1 r90.2) (table_star_l91 d b) (rangeV r90.1 r90.2) (upd (upd (fun x => List.lookup x (List.zip [n_a] [a_a]).reverse) n_size p87.1) n_table p89.1) p89.2).bind fun q95 =>
(match q95.1 with
| .next =>
(q95.2.1 n_size).bind fun v97 =>
(rangeArgs [v97]).bind fun r98 =>
(loopS none (rangeV r98.1 r98.2) (table_star_l99 d b) (rangeV r98.1 r98.2) q95.2.1 q95.2.2).bind fun q105 =>
(match q105.1 with
| .next =>
(q105.2.1 n_table).bind fun v107 =>
some (v107, q105.2.2)
| f106 =>
(match f106 with
| .ret v => some (v, q105.2.2)
| .next => some (V.none, q105.2.2)
| _ => none))
| f96 =>
(match f96 with
| .ret v => some (v, q95.2.2)
| .next => some (V.none, q95.2.2)
| _ => none))

theorem table_star_eq (d : Nat) (a_a : V) (h : Hp) : (G (d + 2)).fn f_table_star [a_a] h = table_star_s d a_a h := (fn_eq ..).trans (by kernel_rfl)

noncomputable def means_l109 (d b : Nat) (x : V) (ρ : Rho) (h : Hp) : Option (Fl × Rho × Hp) :=
(idx x (V.int (0)) h).bind fun v110 =>
(cmpop .In v110 (V.tup [(V.str ⟨#[99, 104, 114]⟩), (V.str ⟨#[97, 110, 121]⟩), (V.str ⟨#[101, 112, 115]⟩)]) h).bind fun t111 =>
if t111 then
(ρ n_stack).bind fun v112 =>
(idx x (V.int (1)) h).bind fun v113 =>
(ρ n_text).bind fun v114 =>
((G (d + 1)).fn f_table_of_sign [v110, v113, v114] h).bind fun p115 =>
(callM b m_append v112 [p115.1] p115.2).bind fun p116 =>
if isNoneV p116.1 then
some (Fl.next, (upd (upd ρ n_item x) n_kind v110), p116.2)
else none
else
(cmpop .Eq v110 (V.str ⟨#[115, 116, 97, 114]⟩) h).bind fun t117 =>
if t117 then
(ρ n_stack).bind fun v118 =>
(unop .USub (V.int (1))).bind fun u119 =>
(idx v118 u119 h).bind fun v120 =>
((G (d + 1)).fn f_table_star [v120] h).bind fun p121 =>
(ρ n_stack).bind fun v122 =>
(unop .USub (V.int (1))).bind fun u123 =>
(setIdx b v122 u123 p121.1 p121.2).bind fun h124 =>
some (Fl.next, (upd (upd ρ n_item x) n_kind v110), h124)
else
(cmpop .Eq v110 (V.str ⟨#[112, 108, 117, 115]⟩) h).bind fun t125 =>
if t125 then
(ρ n_stack).bind fun v126 =>
(unop .USub (V.int (1))).bind fun u127 =>
(idx v126 u127 h).bind fun v128 =>
(ρ n_stack).bind fun v129 =>
(unop .USub (V.int (1))).bind fun u130 =>
(idx v129 u130 h).bind fun v131 =>
((G (d + 1)).fn f_table_star [v131] h).bind fun p132 =>
((G (d + 1)).fn f_table_cat [v128, p132.1] p132.2).bind fun p133 =>
(ρ n_stack).bind fun v134 =>
(unop .USub (V.int (1))).bind fun u135 =>
(setIdx b v134 u135 p133.1 p133.2).bind fun h136 =>
some (Fl.next, (upd (upd ρ n_item x) n_kind v110), h136)
else
(cmpop .Eq v110 (V.str ⟨#[111, 112, 116]⟩) h).bind fun t137 =>
if t137 then
(ρ n_stack).bind fun v138 =>
(unop .USub (V.int (1))).bind fun u139 =>
(idx v138 u139 h).bind fun v140 =>
(ρ n_text).bind fun v141 =>
((G (d + 1)).fn f_table_of_sign [(V.str ⟨#[101, 112, 115]⟩), (V.str ⟨#[]⟩), v141] h).bind fun p142 =>
((G (d + 1)).fn f_table_alt [v140, p142.1] p142.2).bind fun p143 =>
(ρ n_stack).bind fun v144 =>
(unop .USub (V.int (1))).bind fun u145 =>
(setIdx b v144 u145 p143.1 p143.2).bind fun h146 =>
some (Fl.next, (upd (upd ρ n_item x) n_kind v110), h146)
else
(ρ n_stack).bind fun v147 =>
(unop .USub (V.int (2))).bind fun u148 =>
(idx v147 u148 h).bind fun v149 =>
(ρ n_stack).bind fun v150 =>
(unop .USub (V.int (1))).bind fun u151 =>
(idx v150 u151 h).bind fun v152 =>
(ρ n_stack).bind fun v153 =>
(unop .USub (V.int (1))).bind fun u154 =>
(delIdx b v153 u154 h).bind fun h155 =>
(cmpop .Eq v110 (V.str ⟨#[99, 97, 116]⟩) h155).bind fun t156 =>
if t156 then
((G (d + 1)).fn f_table_cat [v149, v152] h155).bind fun p157 =>
(ρ n_stack).bind fun v158 =>
(unop .USub (V.int (1))).bind fun u159 =>
(setIdx b v158 u159 p157.1 p157.2).bind fun h160 =>
some (Fl.next, (upd (upd (upd (upd ρ n_item x) n_kind v110) n_left v149) n_right v152), h160)
else
((G (d + 1)).fn f_table_alt [v149, v152] h155).bind fun p161 =>
(ρ n_stack).bind fun v162 =>
(unop .USub (V.int (1))).bind fun u163 =>
(setIdx b v162 u163 p161.1 p161.2).bind fun h164 =>
some (Fl.next, (upd (upd (upd (upd ρ n_item x) n_kind v110) n_left v149) n_right v152), h164)

noncomputable def means_s (d : Nat) (a_post : V) (a_text : V) (h : Hp) : Option (V × Hp) :=
let b := h.length
(itemsOf a_post (h ++ [[]])).bind fun q108 =>
(loopS q108.2 q108.1 (means_l109 d b) q108.1 (upd (fun x => List.lookup x (List.zip [n_post, n_text] [a_post, a_text]).reverse) n_stack (V.ref h.length)) (h ++ [[]])).bind fun q165 =>
(match q165.1 with
| .next =>
(q165.2.1 n_stack).bind fun v167 =>
(unop .USub (V.int (1))).bind fun u168 =>
(idx v167 u168 q165.2.2).bind fun v169 =>
(idx v169 (V.int (0)) q165.2.2).bind fun v170 =>
(q165.2.1 n_text).bind fun v171 =>
(callB b_len [v171] q165.2.2).bind fun p172 =>
(idx v170 p172.1 p172.2).bind fun v173 =>
some (v173, p172.2)
| f166 =>
(match f166 with
| .ret v => some (v, q165.2.2)
| .next => some (V.none, q165.2.2)
| _ => none))

theorem means_eq (d : Nat) (a_post : V) (a_text : V) (h : Hp) : (G (d + 2)).fn f_means [a_post, a_text] h = means_s d a_post a_text h := (fn_eq ..).trans (by kernel_rfl)

noncomputable def thompson_l175 (d b : Nat) (x : V) (ρ : Rho) (h : Hp) : Option (Fl × Rho × Hp) :=
(idx x (V.int (0)) h).bind fun v176 =>
(cmpop .Eq v176 (V.str ⟨#[99, 97, 116]⟩) h).bind fun t177 =>
if t177 then
(ρ n_stack).bind fun v178 =>
(unop .USub (V.int (2))).bind fun u179 =>
(idx v178 u179 h).bind fun v180 =>
(ρ n_stack).bind fun v181 =>
(unop .USub (V.int (1))).bind fun u182 =>
(idx v181 u182 h).bind fun v183 =>
(ρ n_stack).bind fun v184 =>
(unop .USub (V.int (1))).bind fun u185 =>
(delIdx b v184 u185 h).bind fun h186 =>
(ρ n_edges).bind fun v187 =>
(idx v180 (V.int (1)) h186).bind fun v188 =>
(idx v187 v188 h186).bind fun v189 =>
(idx v183 (V.int (0)) h186).bind fun v190 =>
(callM b m_append v189 [(V.tup [(V.str ⟨#[]⟩), v190])] h186).bind fun p191 =>
if isNoneV p191.1 then
(idx v180 (V.int (0)) p191.2).bind fun v192 =>
(idx v183 (V.int (1)) p191.2).bind fun v193 =>
(ρ n_stack).bind fun v194 =>
(unop .USub (V.int (1))).bind fun u195 =>
(setIdx b v194 u195 (V.tup [v192, v193]) p191.2).bind fun h196 =>
some (Fl.cont, (upd (upd (upd (upd ρ n_item x) n_kind v176) n_left v180) n_right v183), h196)
else none
else
(ρ n_edges).bind fun v197 =>
(callB b_len [v197] h).bind fun p198 =>
(binop .Add p198.1 (V.int (1)) p198.2).bind fun p199 =>
(ρ n_edges).bind fun v200 =>
(callM b m_append v200 [(V.ref p199.2.length)] (p199.2 ++ [[]])).bind fun p201 =>
if isNoneV p201.1 then
(ρ n_edges).bind fun v202 =>
(callM b m_append v202 [(V.ref p201.2.length)] (p201.2 ++ [[]])).bind fun p203 =>
if isNoneV p203.1 then
(cmpop .In v176 (V.tup [(V.str ⟨#[99, 104, 114]⟩), (V.str ⟨#[97, 110, 121]⟩), (V.str ⟨#[101, 112, 115]⟩)]) p203.2).bind fun t204 =>
if t204 then
(idx x (V.int (1)) p203.2).bind fun v205 =>
(cmpop .Eq v176 (V.str ⟨#[97, 110, 121]⟩) p203.2).bind fun t206 =>
if t206 then
(ρ n_edges).bind fun v207 =>
(idx v207 p198.1 p203.2).bind fun v208 =>
(callM b m_append v208 [(V.tup [(V.str ⟨#[46]⟩), p199.1])] p203.2).bind fun p209 =>
if isNoneV p209.1 then
(ρ n_stack).bind fun v210 =>
(callM b m_append v210 [(V.tup [p198.1, p199.1])] p209.2).bind fun p211 =>
if isNoneV p211.1 then
some (Fl.next, (upd (upd (upd (upd (upd (upd ρ n_item x) n_kind v176) n_s p198.1) n_a p199.1) n_label v205) n_label (V.str ⟨#[46]⟩)), p211.2)
else none
else none
else
(ρ n_edges).bind fun v212 =>
(idx v212 p198.1 p203.2).bind fun v213 =>
(callM b m_append v213 [(V.tup [v205, p199.1])] p203.2).bind fun p214 =>
if isNoneV p214.1 then
(ρ n_stack).bind fun v215 =>
(callM b m_append v215 [(V.tup [p198.1, p199.1])] p214.2).bind fun p216 =>
if isNoneV p216.1 then
some (Fl.next, (upd (upd (upd (upd (upd ρ n_item x) n_kind v176) n_s p198.1) n_a p199.1) n_label v205), p216.2)
else none
else none
else
(cmpop .Eq v176 (V.str ⟨#[97, 108, 116]⟩) p203.2).bind fun t217 =>
if t217 then
(ρ n_stack).bind fun v218 =>
(unop .USub (V.int (2))).bind fun u219 =>
(idx v218 u219 p203.2).bind fun v220 =>
(ρ n_stack).bind fun v221 =>
(unop .USub (V.int (1))).bind fun u222 =>
(idx v221 u222 p203.2).bind fun v223 =>
(ρ n_stack).bind fun v224 =>
(unop .USub (V.int (1))).bind fun u225 =>
(delIdx b v224 u225 p203.2).bind fun h226 =>
(ρ n_edges).bind fun v227 =>
(idx v227 p198.1 h226).bind fun v228 =>
(idx v220 (V.int (0)) h226).bind fun v229 =>
(callM b m_append v228 [(V.tup [(V.str ⟨#[]⟩), v229])] h226).bind fun p230 =>
if isNoneV p230.1 then
(ρ n_edges).bind fun v231 =>
(idx v231 p198.1 p230.2).bind fun v232 =>
(idx v223 (V.int (0)) p230.2).bind fun v233 =>
(callM b m_append v232 [(V.tup [(V.str ⟨#[]⟩), v233])] p230.2).bind fun p234 =>
if isNoneV p234.1 then
(ρ n_edges).bind fun v235 =>
(idx v220 (V.int (1)) p234.2).bind fun v236 =>
(idx v235 v236 p234.2).bind fun v237 =>
(callM b m_append v237 [(V.tup [(V.str ⟨#[]⟩), p199.1])] p234.2).bind fun p238 =>
if isNoneV p238.1 then
(ρ n_edges).bind fun v239 =>
(idx v223 (V.int (1)) p238.2).bind fun v240 =>
(idx v239 v240 p238.2).bind fun v241 =>
(callM b m_append v241 [(V.tup [(V.str ⟨#[]⟩), p199.1])] p238.2).bind fun p242 =>
if isNoneV p242.1 then
(ρ n_stack).bind fun v243 =>
(unop .USub (V.int (1))).bind fun u244 =>
(setIdx b v243 u244 (V.tup [p198.1, p199.1]) p242.2).bind fun h245 =>
some (Fl.next, (upd (upd (upd (upd (upd (upd ρ n_item x) n_kind v176) n_s p198.1) n_a p199.1) n_left v220) n_right v223), h245)
else none
else none
else none
else none
else
(ρ n_stack).bind fun v246 =>
(unop .USub (V.int (1))).bind fun u247 =>
(idx v246 u247 p203.2).bind fun v248 =>
(ρ n_edges).bind fun v249 =>
(idx v249 p198.1 p203.2).bind fun v250 =>
(idx v248 (V.int (0)) p203.2).bind fun v251 =>
(callM b m_append v250 [(V.tup [(V.str ⟨#[]⟩), v251])] p203.2).bind fun p252 =>
if isNoneV p252.1 then
(cmpop .NotEq v176 (V.str ⟨#[112, 108, 117, 115]⟩) p252.2).bind fun t253 =>
if t253 then
(ρ n_edges).bind fun v254 =>
(idx v254 p198.1 p252.2).bind fun v255 =>
(callM b m_append v255 [(V.tup [(V.str ⟨#[]⟩), p199.1])] p252.2).bind fun p256 =>
if isNoneV p256.1 then
(cmpop .NotEq v176 (V.str ⟨#[111, 112, 116]⟩) p256.2).bind fun t257 =>
if t257 then
(ρ n_edges).bind fun v258 =>
(idx v248 (V.int (1)) p256.2).bind fun v259 =>
(idx v258 v259 p256.2).bind fun v260 =>
(idx v248 (V.int (0)) p256.2).bind fun v261 =>
(callM b m_append v260 [(V.tup [(V.str ⟨#[]⟩), v261])] p256.2).bind fun p262 =>
if isNoneV p262.1 then
(ρ n_edges).bind fun v263 =>
(idx v248 (V.int (1)) p262.2).bind fun v264 =>
(idx v263 v264 p262.2).bind fun v265 =>
(callM b m_append v265 [(V.tup [(V.str ⟨#[]⟩), p199.1])] p262.2).bind fun p266 =>
if isNoneV p266.1 then
(ρ n_stack).bind fun v267 =>
(unop .USub (V.int (1))).bind fun u268 =>
(setIdx b v267 u268 (V.tup [p198.1, p199.1]) p266.2).bind fun h269 =>
some (Fl.next, (upd (upd (upd (upd (upd ρ n_item x) n_kind v176) n_s p198.1) n_a p199.1) n_inner v248), h269)
else none
else none
else
(ρ n_edges).bind fun v270 =>
(idx v248 (V.int (1)) p256.2).bind fun v271 =>
(idx v270 v271 p256.2).bind fun v272 =>
(callM b m_append v272 [(V.tup [(V.str ⟨#[]⟩), p199.1])] p256.2).bind fun p273 =>
if isNoneV p273.1 then
(ρ n_stack).bind fun v274 =>
(unop .USub (V.int (1))).bind fun u275 =>
(setIdx b v274 u275 (V.tup [p198.1, p199.1]) p273.2).bind fun h276 =>
some (Fl.next, (upd (upd (upd (upd (upd ρ n_item x) n_kind v176) n_s p198.1) n_a p199.1) n_inner v248), h276)
else none
else none
else
(cmpop .NotEq v176 (V.str ⟨#[111, 112, 116]⟩) p252.2).bind fun t277 =>
if t277 then
(ρ n_edges).bind fun v278 =>
(idx v248 (V.int (1)) p252.2).bind fun v279 =>
(idx v278 v279 p252.2).bind fun v280 =>
(idx v248 (V.int (0)) p252.2).bind fun v281 =>
(callM b m_append v280 [(V.tup [(V.str ⟨#[]⟩), v281])] p252.2).bind fun p282 =>
if isNoneV p282.1 then
(ρ n_edges).bind fun v283 =>
(idx v248 (V.int (1)) p282.2).bind fun v284 =>
(idx v283 v284 p282.2).bind fun v285 =>
(callM b m_append v285 [(V.tup [(V.str ⟨#[]⟩), p199.1])] p282.2).bind fun p286 =>
if isNoneV p286.1 then
(ρ n_stack).bind fun v287 =>
(unop .USub (V.int (1))).bind fun u288 =>
(setIdx b v287 u288 (V.tup [p198.1, p199.1]) p286.2).bind fun h289 =>
some (Fl.next, (upd (upd (upd (upd (upd ρ n_item x) n_kind v176) n_s p198.1) n_a p199.1) n_inner v248), h289)
else none
else none
else
(ρ n_edges).bind fun v290 =>
(idx v248 (V.int (1)) p252.2).bind fun v291 =>
(idx v290 v291 p252.2).bind fun v292 =>
(callM b m_append v292 [(V.tup [(V.str ⟨#[]⟩), p199.1])] p252.2).bind fun p293 =>
if isNoneV p293.1 then
(ρ n_stack).bind fun v294 =>
(unop .USub (V.int (1))).bind fun u295 =>
(setIdx b v294 u295 (V.tup [p198.1, p199.1]) p293.2).bind fun h296 =>
some (Fl.next, (upd (upd (upd (upd (upd ρ n_item x) n_kind v176) n_s p198.1) n_a p199.1) n_inner v248), h296)
else none
else none
else none
else none

noncomputable def thompson_s (d : Nat) (a_post : V) (h : Hp) : Option (V × Hp) :=
let b := h.length
(itemsOf a_post ((h ++ [[]]) ++ [[]])).bind fun q174 =>
(loopS q174.2 q174.1 (thompson_l175 d b) q174.1 (upd (upd (fun x => List.lookup x (List.zip [n_post] [a_post]).reverse) n_edges (V.ref h.length)) n_stack (V.ref (h ++ [[]]).length)) ((h ++ [[]]) ++ [[]])).bind fun q297 =>
(match q297.1 with
| .next =>
(q297.2.1 n_stack).bind fun v299 =>
(unop .USub (V.int (1))).bind fun u300 =>
(idx v299 u300 q297.2.2).bind fun v301 =>
(idx v301 (V.int (0)) q297.2.2).bind fun v302 =>
(q297.2.1 n_stack).bind fun v303 =>
(unop .USub (V.int (1))).bind fun u304 =>
(idx v303 u304 q297.2.2).bind fun v305 =>
(idx v305 (V.int (1)) q297.2.2).bind fun v306 =>
(q297.2.1 n_edges).bind fun v307 =>
some ((V.tup [v302, v306, v307]), q297.2.2)
| f298 =>
(match f298 with
| .ret v => some (v, q297.2.2)
| .next => some (V.none, q297.2.2)
| _ => none))

theorem thompson_eq (d : Nat) (a_post : V) (h : Hp) : (G (d + 2)).fn f_thompson [a_post] h = thompson_s d a_post h := (fn_eq ..).trans (by kernel_rfl)

noncomputable def closure_l309 (d b : Nat) (x : V) (ρ : Rho) (h : Hp) : Option (Fl × Rho × Hp) :=
(ρ n_seen).bind fun v310 =>
(cmpop .NotIn x v310 h).bind fun t311 =>
if t311 then
(ρ n_seen).bind fun v312 =>
(callM b m_append v312 [x] h).bind fun p313 =>
if isNoneV p313.1 then
(ρ n_work).bind fun v314 =>
(callM b m_append v314 [x] p313.2).bind fun p315 =>
if isNoneV p315.1 then
some (Fl.next, (upd ρ n_s x), p315.2)
else none
else none
else
some (Fl.next, (upd ρ n_s x), h)

noncomputable def closure_l337 (d b : Nat) (x : V) (ρ : Rho) (h : Hp) : Option (Fl × Rho × Hp) :=
(idx x (V.int (0)) h).bind fun v338 =>
(cmpop .Eq v338 (V.str ⟨#[]⟩) h).bind fun t339 =>
if t339 then
(idx x (V.int (1)) h).bind fun v340 =>
(ρ n_seen).bind fun v341 =>
(cmpop .NotIn v340 v341 h).bind fun t342 =>
if t342 then
(ρ n_seen).bind fun v343 =>
(idx x (V.int (1)) h).bind fun v344 =>
(callM b m_append v343 [v344] h).bind fun p345 =>
if isNoneV p345.1 then
(ρ n_work).bind fun v346 =>
(idx x (V.int (1)) p345.2).bind fun v347 =>
(callM b m_append v346 [v347] p345.2).bind fun p348 =>
if isNoneV p348.1 then
some (Fl.next, (upd ρ n_e x), p348.2)
else none
else none
else
some (Fl.next, (upd ρ n_e x), h)
else
some (Fl.next, (upd ρ n_e x), h)

noncomputable def closure_l324 (d b : Nat) (x : V) (ρ : Rho) (h : Hp) : Option (Fl × Rho × Hp) :=
(ρ n_work).bind fun v325 =>
(callB b_len [v325] h).bind fun p326 =>
(cmpop .Eq p326.1 (V.int (0)) p326.2).bind fun t327 =>
if t327 then
some (Fl.brk, (upd ρ n_k x), p326.2)
else
(ρ n_work).bind fun v328 =>
(unop .USub (V.int (1))).bind fun u329 =>
(idx v328 u329 p326.2).bind fun v330 =>
(ρ n_work).bind fun v331 =>
(unop .USub (V.int (1))).bind fun u332 =>
(delIdx b v331 u332 p326.2).bind fun h333 =>
(ρ n_edges).bind fun v334 =>
(idx v334 v330 h333).bind fun v335 =>
(itemsOf v335 h333).bind fun q336 =>
(loopS q336.2 q336.1 (closure_l337 d b) q336.1 (upd (upd ρ n_k x) n_s v330) h333).bind fun q349 =>
(match q349.1 with
| .next =>
some (Fl.next, q349.2.1, q349.2.2)
| f350 =>
some (f350, q349.2.1, q349.2.2))

noncomputable def closure_s (d : Nat) (a_edges : V) (a_states : V) (h : Hp) : Option (V × Hp) :=
let b := h.length
(itemsOf a_states ((h ++ [[]]) ++ [[]])).bind fun q308 =>
(loopS q308.2 q308.1 (closure_l309 d b) q308.1 (upd (upd (fun x => List.lookup x (List.zip [n_edges, n_states] [a_edges, a_states]).reverse) n_seen (V.ref h.length)) n_work (V.ref (h ++ [[]]).length)) ((h ++ [[]]) ++ [[]])).bind fun q316 =>
(match q316.1 with
| .next =>
(q316.2.1 n_edges).bind fun v318 =>
(callB b_len [v318] q316.2.2).bind fun p319 =>
(q316.2.1 n_work).bind fun v320 =>
(callB b_len [v320] p319.2).bind fun p321 =>
(binop .Add p319.1 p321.1 p321.2).bind fun p322 =>
(rangeArgs [p322.1]).bind fun r323 =>
(loopS none (rangeV r323.1 r323.2) (closure_l324 d b) (rangeV r323.1 r323.2) q316.2.1 p322.2).bind fun q351 =>
(match q351.1 with
| .next =>
(q351.2.1 n_seen).bind fun v353 =>
(callB b_sorted [v353] q351.2.2).bind fun p354 =>
some (p354.1, p354.2)
| f352 =>
(match f352 with
| .ret v => some (v, q351.2.2)
| .next => some (V.none, q351.2.2)
| _ => none))
| f317 =>
(match f317 with
| .ret v => some (v, q316.2.2)
| .next => some (V.none, q316.2.2)
| _ => none))

theorem closure_eq (d : Nat) (a_edges : V) (a_states : V) (h : Hp) : (G (d + 2)).fn f_closure [a_edges, a_states] h = closure_s d a_edges a_states h := (fn_eq ..).trans (by kernel_rfl)

noncomputable def step_l360 (d b : Nat) (x : V) (ρ : Rho) (h : Hp) : Option (Fl × Rho × Hp) :=
(idx x (V.int (0)) h).bind fun v361 =>
(ρ n_c).bind fun v362 =>
(cmpop .Eq v361 v362 h).bind fun t363 =>
if t363 then
(idx x (V.int (1)) h).bind fun v372 =>
(ρ n_targets).bind fun v373 =>
(cmpop .NotIn v372 v373 h).bind fun t374 =>
if t374 then
(ρ n_targets).bind fun v375 =>
(idx x (V.int (1)) h).bind fun v376 =>
(callM b m_append v375 [v376] h).bind fun p377 =>
if isNoneV p377.1 then
some (Fl.next, (upd ρ n_e x), p377.2)
else none
else
some (Fl.next, (upd ρ n_e x), h)
else
(idx x (V.int (0)) h).bind fun v364 =>
(cmpop .Eq v364 (V.str ⟨#[46]⟩) h).bind fun t365 =>
if t365 then
(idx x (V.int (1)) h).bind fun v366 =>
(ρ n_targets).bind fun v367 =>
(cmpop .NotIn v366 v367 h).bind fun t368 =>
if t368 then
(ρ n_targets).bind fun v369 =>
(idx x (V.int (1)) h).bind fun v370 =>
(callM b m_append v369 [v370] h).bind fun p371 =>
if isNoneV p371.1 then
some (Fl.next, (upd ρ n_e x), p371.2)
else none
else
some (Fl.next, (upd ρ n_e x), h)
else
some (Fl.next, (upd ρ n_e x), h)

noncomputable def step_l356 (d b : Nat) (x : V) (ρ : Rho) (h : Hp) : Option (Fl × Rho × Hp) :=
(ρ n_edges).bind fun v357 =>
(idx v357 x h).bind fun v358 =>
(itemsOf v358 h).bind fun q359 =>
(loopS q359.2 q359.1 (step_l360 d b) q359.1 (upd ρ n_s x) h).bind fun q378 =>
(match q378.1 with
| .next =>
some (Fl.next, q378.2.1, q378.2.2)
| f379 =>
some (f379, q378.2.1, q378.2.2))

noncomputable def step_s (d : Nat) (a_edges : V) (a_states : V) (a_c : V) (h : Hp) : Option (V × Hp) :=
let b := h.length
(itemsOf a_states (h ++ [[]])).bind fun q355 =>
(loopS q355.2 q355.1 (step_l356 d b) q355.1 (upd (fun x => List.lookup x (List.zip [n_edges, n_states, n_c] [a_edges, a_states, a_c]).reverse) n_targets (V.ref h.length)) (h ++ [[]])).bind fun q380 =>
(match q380.1 with
| .next =>
(q380.2.1 n_targets).bind fun v382 =>
(callB b_sorted [v382] q380.2.2).bind fun p383 =>
some (p383.1, p383.2)
| f381 =>
(match f381 with
| .ret v => some (v, q380.2.2)
| .next => some (V.none, q380.2.2)
| _ => none))

theorem step_eq (d : Nat) (a_edges : V) (a_states : V) (a_c : V) (h : Hp) : (G (d + 2)).fn f_step [a_edges, a_states, a_c] h = step_s d a_edges a_states a_c h := (fn_eq ..).trans (by kernel_rfl)

noncomputable def nfa_accepts_l388 (d b : Nat) (x : V) (ρ : Rho) (h : Hp) : Option (Fl × Rho × Hp) :=
(ρ n_edges).bind fun v389 =>
(ρ n_edges).bind fun v390 =>
(ρ n_current).bind fun v391 =>
((G (d + 1)).fn f_step [v390, v391, x] h).bind fun p392 =>
((G (d + 1)).fn f_closure [v389, p392.1] p392.2).bind fun p393 =>
some (Fl.next, (upd (upd ρ n_c x) n_current p393.1), p393.2)

noncomputable def nfa_accepts_s (d : Nat) (a_nfa : V) (a_text : V) (h : Hp) : Option (V × Hp) :=
let b := h.length
(idx a_nfa (V.int (2)) h).bind fun v384 =>
(idx a_nfa (V.int (0)) h).bind fun v385 =>
((G (d + 1)).fn f_closure [v384, (V.ref h.length)] (h ++ [[v385]])).bind fun p386 =>
(itemsOf a_text p386.2).bind fun q387 =>
(loopS q387.2 q387.1 (nfa_accepts_l388 d b) q387.1 (upd (upd (fun x => List.lookup x (List.zip [n_nfa, n_text] [a_nfa, a_text]).reverse) n_edges v384) n_current p386.1) p386.2).bind fun q394 =>
(match q394.1 with
| .next =>
(q394.2.1 n_nfa).bind fun v396 =>
(idx v396 (V.int (1)) q394.2.2).bind fun v397 =>
(q394.2.1 n_current).bind fun v398 =>
(cmpop .In v397 v398 q394.2.2).bind fun t399 =>
some ((V.bool t399), q394.2.2)
| f395 =>
(match f395 with
| .ret v => some (v, q394.2.2)
| .next => some (V.none, q394.2.2)
| _ => none))

theorem nfa_accepts_eq (d : Nat) (a_nfa : V) (a_text : V) (h : Hp) : (G (d + 2)).fn f_nfa_accepts [a_nfa, a_text] h = nfa_accepts_s d a_nfa a_text h := (fn_eq ..).trans (by kernel_rfl)

noncomputable def law_the_set_machine_means_it_s (d : Nat) (a_post : V) (a_text : V) (h : Hp) : Option (V × Hp) :=
let b := h.length
((G (d + 1)).fn f_thompson [a_post] h).bind fun p400 =>
((G (d + 1)).fn f_nfa_accepts [p400.1, a_text] p400.2).bind fun p401 =>
((G (d + 1)).fn f_means [a_post, a_text] p401.2).bind fun p402 =>
(cmpop .Eq p401.1 p402.1 p402.2).bind fun t403 =>
some ((V.bool t403), p402.2)

theorem law_the_set_machine_means_it_eq (d : Nat) (a_post : V) (a_text : V) (h : Hp) : (G (d + 2)).fn f_law_the_set_machine_means_it [a_post, a_text] h = law_the_set_machine_means_it_s d a_post a_text h := (fn_eq ..).trans (by kernel_rfl)

noncomputable def law_cell_s (d : Nat) (a_script : V) (a_i : V) (h : Hp) : Option (V × Hp) :=
let b := h.length
(callB b_len [a_script] h).bind fun p404 =>
(cmpop .Lt a_i p404.1 p404.2).bind fun t405 =>
if t405 then
(idx a_script a_i p404.2).bind fun v406 =>
some (v406, p404.2)
else
some ((V.int (0)), p404.2)

theorem law_cell_eq (d : Nat) (a_script : V) (a_i : V) (h : Hp) : (G (d + 2)).fn f_law_cell [a_script, a_i] h = law_cell_s d a_script a_i h := (fn_eq ..).trans (by kernel_rfl)

noncomputable def law_post_l411 (d b : Nat) (x : V) (ρ : Rho) (h : Hp) : Option (Fl × Rho × Hp) :=
(ρ n_script).bind fun v412 =>
(binop .Add (V.int (5)) x h).bind fun p413 =>
((G (d + 1)).fn f_law_cell [v412, p413.1] p413.2).bind fun p414 =>
(binop .Mod p414.1 (V.int (8)) p414.2).bind fun p415 =>
(cmpop .GtE p415.1 (V.int (6)) p415.2).bind fun t416 =>
if t416 then
(ρ n_depth).bind fun v417 =>
(cmpop .GtE v417 (V.int (2)) p415.2).bind fun t418 =>
if t418 then
(ρ n_post).bind fun v419 =>
(idx (V.tup [(V.str ⟨#[99, 104, 114]⟩), (V.str ⟨#[97, 110, 121]⟩), (V.str ⟨#[101, 112, 115]⟩), (V.str ⟨#[115, 116, 97, 114]⟩), (V.str ⟨#[112, 108, 117, 115]⟩), (V.str ⟨#[111, 112, 116]⟩), (V.str ⟨#[99, 97, 116]⟩), (V.str ⟨#[97, 108, 116]⟩)]) p415.1 p415.2).bind fun v420 =>
(callM b m_append v419 [(V.tup [v420, (V.str ⟨#[]⟩)])] p415.2).bind fun p421 =>
if isNoneV p421.1 then
(ρ n_depth).bind fun v422 =>
(binop .Sub v422 (V.int (1)) p421.2).bind fun p423 =>
some (Fl.next, (upd (upd (upd (upd ρ n_i x) n_x p414.1) n_k p415.1) n_depth p423.1), p423.2)
else none
else
(cmpop .GtE p415.1 (V.int (3)) p415.2).bind fun t424 =>
if t424 then
(cmpop .Lt p415.1 (V.int (6)) p415.2).bind fun t425 =>
if t425 then
(ρ n_depth).bind fun v426 =>
(cmpop .GtE v426 (V.int (1)) p415.2).bind fun t427 =>
if t427 then
(ρ n_post).bind fun v428 =>
(idx (V.tup [(V.str ⟨#[99, 104, 114]⟩), (V.str ⟨#[97, 110, 121]⟩), (V.str ⟨#[101, 112, 115]⟩), (V.str ⟨#[115, 116, 97, 114]⟩), (V.str ⟨#[112, 108, 117, 115]⟩), (V.str ⟨#[111, 112, 116]⟩), (V.str ⟨#[99, 97, 116]⟩), (V.str ⟨#[97, 108, 116]⟩)]) p415.1 p415.2).bind fun v429 =>
(callM b m_append v428 [(V.tup [v429, (V.str ⟨#[]⟩)])] p415.2).bind fun p430 =>
if isNoneV p430.1 then
some (Fl.next, (upd (upd (upd ρ n_i x) n_x p414.1) n_k p415.1), p430.2)
else none
else
(binop .Mod p415.1 (V.int (3)) p415.2).bind fun p431 =>
(cmpop .Eq p431.1 (V.int (0)) p431.2).bind fun t432 =>
if t432 then
(ρ n_post).bind fun v433 =>
(binop .FloorDiv p414.1 (V.int (8)) p431.2).bind fun p434 =>
(binop .Mod p434.1 (V.int (3)) p434.2).bind fun p435 =>
(idx (V.str ⟨#[97, 98, 48]⟩) p435.1 p435.2).bind fun v436 =>
(callM b m_append v433 [(V.tup [(V.str ⟨#[99, 104, 114]⟩), v436])] p435.2).bind fun p437 =>
if isNoneV p437.1 then
(ρ n_depth).bind fun v438 =>
(binop .Add v438 (V.int (1)) p437.2).bind fun p439 =>
some (Fl.next, (upd (upd (upd (upd ρ n_i x) n_x p414.1) n_k p415.1) n_depth p439.1), p439.2)
else none
else
(ρ n_post).bind fun v440 =>
(binop .Mod p415.1 (V.int (3)) p431.2).bind fun p441 =>
(idx (V.tup [(V.str ⟨#[99, 104, 114]⟩), (V.str ⟨#[97, 110, 121]⟩), (V.str ⟨#[101, 112, 115]⟩), (V.str ⟨#[115, 116, 97, 114]⟩), (V.str ⟨#[112, 108, 117, 115]⟩), (V.str ⟨#[111, 112, 116]⟩), (V.str ⟨#[99, 97, 116]⟩), (V.str ⟨#[97, 108, 116]⟩)]) p441.1 p441.2).bind fun v442 =>
(callM b m_append v440 [(V.tup [v442, (V.str ⟨#[]⟩)])] p441.2).bind fun p443 =>
if isNoneV p443.1 then
(ρ n_depth).bind fun v444 =>
(binop .Add v444 (V.int (1)) p443.2).bind fun p445 =>
some (Fl.next, (upd (upd (upd (upd ρ n_i x) n_x p414.1) n_k p415.1) n_depth p445.1), p445.2)
else none
else
(binop .Mod p415.1 (V.int (3)) p415.2).bind fun p446 =>
(cmpop .Eq p446.1 (V.int (0)) p446.2).bind fun t447 =>
if t447 then
(ρ n_post).bind fun v448 =>
(binop .FloorDiv p414.1 (V.int (8)) p446.2).bind fun p449 =>
(binop .Mod p449.1 (V.int (3)) p449.2).bind fun p450 =>
(idx (V.str ⟨#[97, 98, 48]⟩) p450.1 p450.2).bind fun v451 =>
(callM b m_append v448 [(V.tup [(V.str ⟨#[99, 104, 114]⟩), v451])] p450.2).bind fun p452 =>
if isNoneV p452.1 then
(ρ n_depth).bind fun v453 =>
(binop .Add v453 (V.int (1)) p452.2).bind fun p454 =>
some (Fl.next, (upd (upd (upd (upd ρ n_i x) n_x p414.1) n_k p415.1) n_depth p454.1), p454.2)
else none
else
(ρ n_post).bind fun v455 =>
(binop .Mod p415.1 (V.int (3)) p446.2).bind fun p456 =>
(idx (V.tup [(V.str ⟨#[99, 104, 114]⟩), (V.str ⟨#[97, 110, 121]⟩), (V.str ⟨#[101, 112, 115]⟩), (V.str ⟨#[115, 116, 97, 114]⟩), (V.str ⟨#[112, 108, 117, 115]⟩), (V.str ⟨#[111, 112, 116]⟩), (V.str ⟨#[99, 97, 116]⟩), (V.str ⟨#[97, 108, 116]⟩)]) p456.1 p456.2).bind fun v457 =>
(callM b m_append v455 [(V.tup [v457, (V.str ⟨#[]⟩)])] p456.2).bind fun p458 =>
if isNoneV p458.1 then
(ρ n_depth).bind fun v459 =>
(binop .Add v459 (V.int (1)) p458.2).bind fun p460 =>
some (Fl.next, (upd (upd (upd (upd ρ n_i x) n_x p414.1) n_k p415.1) n_depth p460.1), p460.2)
else none
else
(binop .Mod p415.1 (V.int (3)) p415.2).bind fun p461 =>
(cmpop .Eq p461.1 (V.int (0)) p461.2).bind fun t462 =>
if t462 then
(ρ n_post).bind fun v463 =>
(binop .FloorDiv p414.1 (V.int (8)) p461.2).bind fun p464 =>
(binop .Mod p464.1 (V.int (3)) p464.2).bind fun p465 =>
(idx (V.str ⟨#[97, 98, 48]⟩) p465.1 p465.2).bind fun v466 =>
(callM b m_append v463 [(V.tup [(V.str ⟨#[99, 104, 114]⟩), v466])] p465.2).bind fun p467 =>
if isNoneV p467.1 then
(ρ n_depth).bind fun v468 =>
(binop .Add v468 (V.int (1)) p467.2).bind fun p469 =>
some (Fl.next, (upd (upd (upd (upd ρ n_i x) n_x p414.1) n_k p415.1) n_depth p469.1), p469.2)
else none
else
(ρ n_post).bind fun v470 =>
(binop .Mod p415.1 (V.int (3)) p461.2).bind fun p471 =>
(idx (V.tup [(V.str ⟨#[99, 104, 114]⟩), (V.str ⟨#[97, 110, 121]⟩), (V.str ⟨#[101, 112, 115]⟩), (V.str ⟨#[115, 116, 97, 114]⟩), (V.str ⟨#[112, 108, 117, 115]⟩), (V.str ⟨#[111, 112, 116]⟩), (V.str ⟨#[99, 97, 116]⟩), (V.str ⟨#[97, 108, 116]⟩)]) p471.1 p471.2).bind fun v472 =>
(callM b m_append v470 [(V.tup [v472, (V.str ⟨#[]⟩)])] p471.2).bind fun p473 =>
if isNoneV p473.1 then
(ρ n_depth).bind fun v474 =>
(binop .Add v474 (V.int (1)) p473.2).bind fun p475 =>
some (Fl.next, (upd (upd (upd (upd ρ n_i x) n_x p414.1) n_k p415.1) n_depth p475.1), p475.2)
else none
else
(cmpop .GtE p415.1 (V.int (3)) p415.2).bind fun t476 =>
if t476 then
(cmpop .Lt p415.1 (V.int (6)) p415.2).bind fun t477 =>
if t477 then
(ρ n_depth).bind fun v478 =>
(cmpop .GtE v478 (V.int (1)) p415.2).bind fun t479 =>
if t479 then
(ρ n_post).bind fun v480 =>
(idx (V.tup [(V.str ⟨#[99, 104, 114]⟩), (V.str ⟨#[97, 110, 121]⟩), (V.str ⟨#[101, 112, 115]⟩), (V.str ⟨#[115, 116, 97, 114]⟩), (V.str ⟨#[112, 108, 117, 115]⟩), (V.str ⟨#[111, 112, 116]⟩), (V.str ⟨#[99, 97, 116]⟩), (V.str ⟨#[97, 108, 116]⟩)]) p415.1 p415.2).bind fun v481 =>
(callM b m_append v480 [(V.tup [v481, (V.str ⟨#[]⟩)])] p415.2).bind fun p482 =>
if isNoneV p482.1 then
some (Fl.next, (upd (upd (upd ρ n_i x) n_x p414.1) n_k p415.1), p482.2)
else none
else
(binop .Mod p415.1 (V.int (3)) p415.2).bind fun p483 =>
(cmpop .Eq p483.1 (V.int (0)) p483.2).bind fun t484 =>
if t484 then
(ρ n_post).bind fun v485 =>
(binop .FloorDiv p414.1 (V.int (8)) p483.2).bind fun p486 =>
(binop .Mod p486.1 (V.int (3)) p486.2).bind fun p487 =>
(idx (V.str ⟨#[97, 98, 48]⟩) p487.1 p487.2).bind fun v488 =>
(callM b m_append v485 [(V.tup [(V.str ⟨#[99, 104, 114]⟩), v488])] p487.2).bind fun p489 =>
if isNoneV p489.1 then
(ρ n_depth).bind fun v490 =>
(binop .Add v490 (V.int (1)) p489.2).bind fun p491 =>
some (Fl.next, (upd (upd (upd (upd ρ n_i x) n_x p414.1) n_k p415.1) n_depth p491.1), p491.2)
else none
else
(ρ n_post).bind fun v492 =>
(binop .Mod p415.1 (V.int (3)) p483.2).bind fun p493 =>
(idx (V.tup [(V.str ⟨#[99, 104, 114]⟩), (V.str ⟨#[97, 110, 121]⟩), (V.str ⟨#[101, 112, 115]⟩), (V.str ⟨#[115, 116, 97, 114]⟩), (V.str ⟨#[112, 108, 117, 115]⟩), (V.str ⟨#[111, 112, 116]⟩), (V.str ⟨#[99, 97, 116]⟩), (V.str ⟨#[97, 108, 116]⟩)]) p493.1 p493.2).bind fun v494 =>
(callM b m_append v492 [(V.tup [v494, (V.str ⟨#[]⟩)])] p493.2).bind fun p495 =>
if isNoneV p495.1 then
(ρ n_depth).bind fun v496 =>
(binop .Add v496 (V.int (1)) p495.2).bind fun p497 =>
some (Fl.next, (upd (upd (upd (upd ρ n_i x) n_x p414.1) n_k p415.1) n_depth p497.1), p497.2)
else none
else
(binop .Mod p415.1 (V.int (3)) p415.2).bind fun p498 =>
(cmpop .Eq p498.1 (V.int (0)) p498.2).bind fun t499 =>
if t499 then
(ρ n_post).bind fun v500 =>
(binop .FloorDiv p414.1 (V.int (8)) p498.2).bind fun p501 =>
(binop .Mod p501.1 (V.int (3)) p501.2).bind fun p502 =>
(idx (V.str ⟨#[97, 98, 48]⟩) p502.1 p502.2).bind fun v503 =>
(callM b m_append v500 [(V.tup [(V.str ⟨#[99, 104, 114]⟩), v503])] p502.2).bind fun p504 =>
if isNoneV p504.1 then
(ρ n_depth).bind fun v505 =>
(binop .Add v505 (V.int (1)) p504.2).bind fun p506 =>
some (Fl.next, (upd (upd (upd (upd ρ n_i x) n_x p414.1) n_k p415.1) n_depth p506.1), p506.2)
else none
else
(ρ n_post).bind fun v507 =>
(binop .Mod p415.1 (V.int (3)) p498.2).bind fun p508 =>
(idx (V.tup [(V.str ⟨#[99, 104, 114]⟩), (V.str ⟨#[97, 110, 121]⟩), (V.str ⟨#[101, 112, 115]⟩), (V.str ⟨#[115, 116, 97, 114]⟩), (V.str ⟨#[112, 108, 117, 115]⟩), (V.str ⟨#[111, 112, 116]⟩), (V.str ⟨#[99, 97, 116]⟩), (V.str ⟨#[97, 108, 116]⟩)]) p508.1 p508.2).bind fun v509 =>
(callM b m_append v507 [(V.tup [v509, (V.str ⟨#[]⟩)])] p508.2).bind fun p510 =>
if isNoneV p510.1 then
(ρ n_depth).bind fun v511 =>
(binop .Add v511 (V.int (1)) p510.2).bind fun p512 =>
some (Fl.next, (upd (upd (upd (upd ρ n_i x) n_x p414.1) n_k p415.1) n_depth p512.1), p512.2)
else none
else
(binop .Mod p415.1 (V.int (3)) p415.2).bind fun p513 =>
(cmpop .Eq p513.1 (V.int (0)) p513.2).bind fun t514 =>
if t514 then
(ρ n_post).bind fun v515 =>
(binop .FloorDiv p414.1 (V.int (8)) p513.2).bind fun p516 =>
(binop .Mod p516.1 (V.int (3)) p516.2).bind fun p517 =>
(idx (V.str ⟨#[97, 98, 48]⟩) p517.1 p517.2).bind fun v518 =>
(callM b m_append v515 [(V.tup [(V.str ⟨#[99, 104, 114]⟩), v518])] p517.2).bind fun p519 =>
if isNoneV p519.1 then
(ρ n_depth).bind fun v520 =>
(binop .Add v520 (V.int (1)) p519.2).bind fun p521 =>
some (Fl.next, (upd (upd (upd (upd ρ n_i x) n_x p414.1) n_k p415.1) n_depth p521.1), p521.2)
else none
else
(ρ n_post).bind fun v522 =>
(binop .Mod p415.1 (V.int (3)) p513.2).bind fun p523 =>
(idx (V.tup [(V.str ⟨#[99, 104, 114]⟩), (V.str ⟨#[97, 110, 121]⟩), (V.str ⟨#[101, 112, 115]⟩), (V.str ⟨#[115, 116, 97, 114]⟩), (V.str ⟨#[112, 108, 117, 115]⟩), (V.str ⟨#[111, 112, 116]⟩), (V.str ⟨#[99, 97, 116]⟩), (V.str ⟨#[97, 108, 116]⟩)]) p523.1 p523.2).bind fun v524 =>
(callM b m_append v522 [(V.tup [v524, (V.str ⟨#[]⟩)])] p523.2).bind fun p525 =>
if isNoneV p525.1 then
(ρ n_depth).bind fun v526 =>
(binop .Add v526 (V.int (1)) p525.2).bind fun p527 =>
some (Fl.next, (upd (upd (upd (upd ρ n_i x) n_x p414.1) n_k p415.1) n_depth p527.1), p527.2)
else none

noncomputable def law_post_l533 (d b : Nat) (x : V) (ρ : Rho) (h : Hp) : Option (Fl × Rho × Hp) :=
(ρ n_post).bind fun v534 =>
(ρ n_script).bind fun v535 =>
((G (d + 1)).fn f_law_cell [v535, (V.int (10))] h).bind fun p536 =>
(binop .Mod p536.1 (V.int (2)) p536.2).bind fun p537 =>
(binop .Add (V.int (6)) p537.1 p537.2).bind fun p538 =>
(idx (V.tup [(V.str ⟨#[99, 104, 114]⟩), (V.str ⟨#[97, 110, 121]⟩), (V.str ⟨#[101, 112, 115]⟩), (V.str ⟨#[115, 116, 97, 114]⟩), (V.str ⟨#[112, 108, 117, 115]⟩), (V.str ⟨#[111, 112, 116]⟩), (V.str ⟨#[99, 97, 116]⟩), (V.str ⟨#[97, 108, 116]⟩)]) p538.1 p538.2).bind fun v539 =>
(callM b m_append v534 [(V.tup [v539, (V.str ⟨#[]⟩)])] p538.2).bind fun p540 =>
if isNoneV p540.1 then
some (Fl.next, (upd ρ n_i x), p540.2)
else none

noncomputable def law_post_s (d : Nat) (a_script : V) (h : Hp) : Option (V × Hp) :=
let b := h.length
((G (d + 1)).fn f_law_cell [a_script, (V.int (4))] (h ++ [[]])).bind fun p407 =>
(binop .Mod p407.1 (V.int (5)) p407.2).bind fun p408 =>
(binop .Add (V.int (1)) p408.1 p408.2).bind fun p409 =>
(rangeArgs [p409.1]).bind fun r410 =>
(loopS none (rangeV r410.1 r410.2) (law_post_l411 d b) (rangeV r410.1 r410.2) (upd (upd (fun x => List.lookup x (List.zip [n_script] [a_script]).reverse) n_post (V.ref h.length)) n_depth (V.int (0))) p409.2).bind fun q528 =>
(match q528.1 with
| .next =>
(q528.2.1 n_depth).bind fun v530 =>
(binop .Sub v530 (V.int (1)) q528.2.2).bind fun p531 =>
(rangeArgs [p531.1]).bind fun r532 =>
(loopS none (rangeV r532.1 r532.2) (law_post_l533 d b) (rangeV r532.1 r532.2) q528.2.1 p531.2).bind fun q541 =>
(match q541.1 with
| .next =>
(q541.2.1 n_post).bind fun v543 =>
some (v543, q541.2.2)
| f542 =>
(match f542 with
| .ret v => some (v, q541.2.2)
| .next => some (V.none, q541.2.2)
| _ => none))
| f529 =>
(match f529 with
| .ret v => some (v, q528.2.2)
| .next => some (V.none, q528.2.2)
| _ => none))

theorem law_post_eq (d : Nat) (a_script : V) (h : Hp) : (G (d + 2)).fn f_law_post [a_script] h = law_post_s d a_script h := (fn_eq ..).trans (by kernel_rfl)

noncomputable def law_join_s (d : Nat) (a_pieces : V) (a_a : V) (a_b : V) (h : Hp) : Option (V × Hp) :=
let b := h.length
(itemsOf a_pieces h).bind fun q544 =>
(loopL q544.2 q544.1 (fun x545 h546 => 
(callB b_len [x545] h546).bind fun p548 =>
(binop .Add p548.1 (V.int (1)) p548.2).bind fun p549 =>
(rangeArgs [p549.1]).bind fun r550 =>
(loopL none (rangeV r550.1 r550.2) (fun x551 h552 => 
(slice x545 V.none x551 V.none h552).bind fun p554 =>
(cmpop .In p554.1 a_a p554.2).bind fun t555 =>
(truthV (V.bool t555)).bind fun t556 =>
if t556 then
(slice x545 x551 V.none V.none p554.2).bind fun p557 =>
(cmpop .In p557.1 a_b p557.2).bind fun t558 =>
appendTo p549.2.length (V.bool t558) p557.2
else
appendTo p549.2.length (V.bool t555) p554.2) (rangeV r550.1 r550.2) (p549.2 ++ [[]])).bind fun h553 =>
(callB b_any [(V.ref p549.2.length)] h553).bind fun p559 =>
(truthV p559.1).bind fun t560 =>
if t560 then
appendTo h.length x545 p559.2
else
if false then appendTo h.length x545 p559.2 else some p559.2) q544.1 (h ++ [[]])).bind fun h547 =>
some ((V.ref h.length), h547)

theorem law_join_eq (d : Nat) (a_pieces : V) (a_a : V) (a_b : V) (h : Hp) : (G (d + 2)).fn f_law_join [a_pieces, a_a, a_b] h = law_join_s d a_pieces a_a a_b h := (fn_eq ..).trans (by kernel_rfl)

noncomputable def law_many_l562 (d b : Nat) (x : V) (ρ : Rho) (h : Hp) : Option (Fl × Rho × Hp) :=
(ρ n_pieces).bind fun v563 =>
(ρ n_out).bind fun v564 =>
(ρ n_a).bind fun v565 =>
(binop .Add v565 (V.ref h.length) (h ++ [[(V.str ⟨#[]⟩)]])).bind fun p566 =>
((G (d + 1)).fn f_law_join [v563, v564, p566.1] p566.2).bind fun p567 =>
some (Fl.next, (upd (upd ρ n_i x) n_out p567.1), p567.2)

noncomputable def law_many_s (d : Nat) (a_pieces : V) (a_a : V) (a_n : V) (h : Hp) : Option (V × Hp) :=
let b := h.length
(rangeArgs [a_n]).bind fun r561 =>
(loopS none (rangeV r561.1 r561.2) (law_many_l562 d b) (rangeV r561.1 r561.2) (upd (fun x => List.lookup x (List.zip [n_pieces, n_a, n_n] [a_pieces, a_a, a_n]).reverse) n_out (V.ref h.length)) (h ++ [[(V.str ⟨#[]⟩)]])).bind fun q568 =>
(match q568.1 with
| .next =>
(q568.2.1 n_out).bind fun v570 =>
some (v570, q568.2.2)
| f569 =>
(match f569 with
| .ret v => some (v, q568.2.2)
| .next => some (V.none, q568.2.2)
| _ => none))

theorem law_many_eq (d : Nat) (a_pieces : V) (a_a : V) (a_n : V) (h : Hp) : (G (d + 2)).fn f_law_many [a_pieces, a_a, a_n] h = law_many_s d a_pieces a_a a_n h := (fn_eq ..).trans (by kernel_rfl)

noncomputable def law_reads_l584 (d b : Nat) (x : V) (ρ : Rho) (h : Hp) : Option (Fl × Rho × Hp) :=
(bind2 n_kind n_sign x ρ).bind fun ρ1 =>
(ρ1 n_kind).bind fun v585 =>
(cmpop .Eq v585 (V.str ⟨#[99, 104, 114]⟩) h).bind fun t586 =>
if t586 then
(ρ1 n_stack).bind fun v587 =>
(ρ1 n_sign).bind fun v588 =>
(callM b m_append v587 [(V.ref h.length)] (h ++ [[v588]])).bind fun p589 =>
if isNoneV p589.1 then
some (Fl.next, ρ1, p589.2)
else none
else
(ρ1 n_kind).bind fun v590 =>
(cmpop .Eq v590 (V.str ⟨#[97, 110, 121]⟩) h).bind fun t591 =>
if t591 then
(ρ1 n_stack).bind fun v592 =>
(ρ1 n_pieces).bind fun v593 =>
(itemsOf v593 h).bind fun q594 =>
(loopL q594.2 q594.1 (fun x595 h596 => 
(callB b_len [x595] h596).bind fun p598 =>
(cmpop .Eq p598.1 (V.int (1)) p598.2).bind fun t599 =>
if t599 then
appendTo h.length x595 p598.2
else
if false then appendTo h.length x595 p598.2 else some p598.2) q594.1 (h ++ [[]])).bind fun h597 =>
(callM b m_append v592 [(V.ref h.length)] h597).bind fun p600 =>
if isNoneV p600.1 then
some (Fl.next, ρ1, p600.2)
else none
else
(ρ1 n_kind).bind fun v601 =>
(cmpop .Eq v601 (V.str ⟨#[101, 112, 115]⟩) h).bind fun t602 =>
if t602 then
(ρ1 n_stack).bind fun v603 =>
(callM b m_append v603 [(V.ref h.length)] (h ++ [[(V.str ⟨#[]⟩)]])).bind fun p604 =>
if isNoneV p604.1 then
some (Fl.next, ρ1, p604.2)
else none
else
(ρ1 n_kind).bind fun v605 =>
(cmpop .Eq v605 (V.str ⟨#[111, 112, 116]⟩) h).bind fun t606 =>
if t606 then
(ρ1 n_stack).bind fun v607 =>
(ρ1 n_stack).bind fun v608 =>
(callM b m_pop v608 [] h).bind fun p609 =>
(binop .Add p609.1 (V.ref p609.2.length) (p609.2 ++ [[(V.str ⟨#[]⟩)]])).bind fun p610 =>
(callM b m_append v607 [p610.1] p610.2).bind fun p611 =>
if isNoneV p611.1 then
some (Fl.next, ρ1, p611.2)
else none
else
(ρ1 n_kind).bind fun v612 =>
(cmpop .Eq v612 (V.str ⟨#[115, 116, 97, 114]⟩) h).bind fun t613 =>
if t613 then
(ρ1 n_stack).bind fun v614 =>
(ρ1 n_pieces).bind fun v615 =>
(ρ1 n_stack).bind fun v616 =>
(callM b m_pop v616 [] h).bind fun p617 =>
(ρ1 n_n).bind fun v618 =>
((G (d + 1)).fn f_law_many [v615, p617.1, v618] p617.2).bind fun p619 =>
(callM b m_append v614 [p619.1] p619.2).bind fun p620 =>
if isNoneV p620.1 then
some (Fl.next, ρ1, p620.2)
else none
else
(ρ1 n_kind).bind fun v621 =>
(cmpop .Eq v621 (V.str ⟨#[112, 108, 117, 115]⟩) h).bind fun t622 =>
if t622 then
(ρ1 n_stack).bind fun v623 =>
(callM b m_pop v623 [] h).bind fun p624 =>
(ρ1 n_stack).bind fun v625 =>
(ρ1 n_pieces).bind fun v626 =>
(ρ1 n_pieces).bind fun v627 =>
(ρ1 n_n).bind fun v628 =>
((G (d + 1)).fn f_law_many [v627, p624.1, v628] p624.2).bind fun p629 =>
((G (d + 1)).fn f_law_join [v626, p624.1, p629.1] p629.2).bind fun p630 =>
(callM b m_append v625 [p630.1] p630.2).bind fun p631 =>
if isNoneV p631.1 then
some (Fl.next, (upd ρ1 n_top p624.1), p631.2)
else none
else
(ρ1 n_kind).bind fun v632 =>
(cmpop .Eq v632 (V.str ⟨#[99, 97, 116]⟩) h).bind fun t633 =>
if t633 then
(ρ1 n_stack).bind fun v634 =>
(callM b m_pop v634 [] h).bind fun p635 =>
(ρ1 n_stack).bind fun v636 =>
(ρ1 n_pieces).bind fun v637 =>
(ρ1 n_stack).bind fun v638 =>
(callM b m_pop v638 [] p635.2).bind fun p639 =>
((G (d + 1)).fn f_law_join [v637, p639.1, p635.1] p639.2).bind fun p640 =>
(callM b m_append v636 [p640.1] p640.2).bind fun p641 =>
if isNoneV p641.1 then
some (Fl.next, (upd ρ1 n_right p635.1), p641.2)
else none
else
(ρ1 n_stack).bind fun v642 =>
(callM b m_pop v642 [] h).bind fun p643 =>
(ρ1 n_stack).bind fun v644 =>
(ρ1 n_stack).bind fun v645 =>
(callM b m_pop v645 [] p643.2).bind fun p646 =>
(binop .Add p646.1 p643.1 p646.2).bind fun p647 =>
(callM b m_append v644 [p647.1] p647.2).bind fun p648 =>
if isNoneV p648.1 then
some (Fl.next, (upd ρ1 n_right p643.1), p648.2)
else none

noncomputable def law_reads_s (d : Nat) (a_post : V) (a_text : V) (h : Hp) : Option (V × Hp) :=
let b := h.length
(callB b_len [a_text] h).bind fun p571 =>
(rangeArgs [p571.1]).bind fun r572 =>
(loopL none (rangeV r572.1 r572.2) (fun x573 h574 => 
(binop .Add x573 (V.int (1)) h574).bind fun p576 =>
(binop .Add p571.1 (V.int (1)) p576.2).bind fun p577 =>
(rangeArgs [p576.1, p577.1]).bind fun r578 =>
loopL none (rangeV r578.1 r578.2) (fun x579 h580 => 
(slice a_text x573 x579 V.none h580).bind fun p581 =>
appendTo (p571.2 ++ [[(V.str ⟨#[]⟩)]]).length p581.1 p581.2) (rangeV r578.1 r578.2) p577.2) (rangeV r572.1 r572.2) ((p571.2 ++ [[(V.str ⟨#[]⟩)]]) ++ [[]])).bind fun h575 =>
(binop .Add (V.ref p571.2.length) (V.ref (p571.2 ++ [[(V.str ⟨#[]⟩)]]).length) h575).bind fun p582 =>
(itemsOf a_post (p582.2 ++ [[]])).bind fun q583 =>
(loopS q583.2 q583.1 (law_reads_l584 d b) q583.1 (upd (upd (upd (fun x => List.lookup x (List.zip [n_post, n_text] [a_post, a_text]).reverse) n_n p571.1) n_pieces p582.1) n_stack (V.ref p582.2.length)) (p582.2 ++ [[]])).bind fun q649 =>
(match q649.1 with
| .next =>
(q649.2.1 n_text).bind fun v651 =>
(q649.2.1 n_stack).bind fun v652 =>
(idx v652 (V.int (0)) q649.2.2).bind fun v653 =>
(cmpop .In v651 v653 q649.2.2).bind fun t654 =>
some ((V.bool t654), q649.2.2)
| f650 =>
(match f650 with
| .ret v => some (v, q649.2.2)
| .next => some (V.none, q649.2.2)
| _ => none))

theorem law_reads_eq (d : Nat) (a_post : V) (a_text : V) (h : Hp) : (G (d + 2)).fn f_law_reads [a_post, a_text] h = law_reads_s d a_post a_text h := (fn_eq ..).trans (by kernel_rfl)

noncomputable def law_s (d : Nat) (a_script : V) (h : Hp) : Option (V × Hp) :=
let b := h.length
((G (d + 1)).fn f_law_cell [a_script, (V.int (0))] h).bind fun p655 =>
(binop .Mod p655.1 (V.int (4)) p655.2).bind fun p656 =>
(rangeArgs [p656.1]).bind fun r657 =>
(loopL none (rangeV r657.1 r657.2) (fun x658 h659 => 
(binop .Add (V.int (1)) x658 h659).bind fun p661 =>
((G (d + 1)).fn f_law_cell [a_script, p661.1] p661.2).bind fun p662 =>
(binop .Mod p662.1 (V.int (8)) p662.2).bind fun p663 =>
(idx (V.str ⟨#[97, 97, 98, 98, 48, 46, 90, 42]⟩) p663.1 p663.2).bind fun v664 =>
appendTo p656.2.length v664 p663.2) (rangeV r657.1 r657.2) (p656.2 ++ [[]])).bind fun h660 =>
(callM b m_join (V.str ⟨#[]⟩) [(V.ref p656.2.length)] h660).bind fun p665 =>
((G (d + 1)).fn f_law_post [a_script] p665.2).bind fun p666 =>
(binop .Add p666.1 (V.ref p666.2.length) (p666.2 ++ [[]])).bind fun p667 =>
((G (d + 1)).fn f_law_the_set_machine_means_it [p666.1, p665.1] p667.2).bind fun p668 =>
(cmpop .IsNot p668.1 (V.bool true) p668.2).bind fun t669 =>
if t669 then
some ((V.bool false), p668.2)
else
(cmpop .NotEq p666.1 p667.1 p668.2).bind fun t670 =>
if t670 then
some ((V.bool false), p668.2)
else
((G (d + 1)).fn f_law_reads [p666.1, p665.1] p668.2).bind fun p671 =>
((G (d + 1)).fn f_thompson [p666.1] p671.2).bind fun p672 =>
((G (d + 1)).fn f_nfa_accepts [p672.1, p665.1] p672.2).bind fun p673 =>
(cmpop .NotEq p673.1 p671.1 p673.2).bind fun t674 =>
if t674 then
some ((V.bool false), p673.2)
else
some ((V.bool true), p673.2)

theorem law_eq (d : Nat) (a_script : V) (h : Hp) : (G (d + 2)).fn f_law [a_script] h = law_s d a_script h := (fn_eq ..).trans (by kernel_rfl)
end Mine
end

section
set_option autoImplicit false
set_option maxRecDepth 100000
namespace Mine
open PySem

noncomputable def edgeV (e : Edge) : V := .tup [.str e.1, .int e.2]
noncomputable def rowV (es : List Edge) : List V := es.map edgeV
noncomputable def prV (p : Nat × Nat) : V := .tup [.int p.1, .int p.2]
noncomputable def stV (st : List (Nat × Nat)) : List V := (st.map prV).reverse
noncomputable def eV (n N : Nat) : List V := (List.range N).map fun u => V.ref (n + 2 + u)
/-- the heap with the edges, the stack, and a row for each state -/
noncomputable def th (h0 : Hp) (E : List (List Edge)) (st : List (Nat × Nat)) : Hp := h0 ++ (eV h0.length E.length :: stV st :: E.map rowV)
section
variable {h0 : Hp} {E : List (List Edge)} {st : List (Nat × Nat)} {b : Nat}
theorem th_len : (th h0 E st).length = h0.length + 2 + E.length := by simp [th]; omega
theorem th_e : (th h0 E st)[h0.length]? = some (eV h0.length E.length) := by simp [th]
theorem th_s : (th h0 E st)[h0.length + 1]? = some (stV st) := by simp [th]
theorem th_r (u : Nat) : (th h0 E st)[h0.length + 2 + u]? = (E[u]?).map rowV := by
  unfold th
  rw [List.getElem?_append_right (by omega), show h0.length + 2 + u - h0.length = u + 2 by omega]
  simp
theorem eV_at {n N u : Nat} (h : u < N) : (eV n N)[u]? = some (.ref (n + 2 + u)) := by simp [eV, h]
theorem th_idx {u : Nat} (h : u < E.length) : idx (.ref h0.length) (.int u) (th h0 E st) = some (.ref (h0.length + 2 + u)) := idx_ref th_e (by omega) (eV_at h)
theorem th_elen : callB b_len [.ref h0.length] (th h0 E st) = some (.int E.length, th h0 E st) := by rw [len_ref _ th_e]; simp [eV]
theorem set2 {h : Hp} {x y z : List V} {L : Hp} : (h ++ x :: y :: L).set (h.length + 1) z = h ++ x :: z :: L := by
  rw [show h.length + 1 = h.length + 1 + 0 from rfl, set_far]; rfl
theorem th_new (hb : b ≤ h0.length) (hE : E.length ≤ 100000) : callM b m_append (.ref h0.length) [.ref (th h0 E st).length] (th h0 E st ++ [[]]) = some (.none, th h0 (E ++ [[]]) st) := by
  rw [append_ref _ _ _ (get_pre _ th_e) hb (by simp [eV]; omega)]
  congr 2
  rw [th_len]
  unfold th
  rw [List.append_assoc, List.cons_append, set_mid]
  congr 1
  simp only [List.length_append, List.length_cons, List.length_nil, List.map_append, List.map_cons, List.map_nil]
  congr 1
  simp [eV, List.range_succ]
theorem th_add {u : Nat} (e : Edge) (hb : b ≤ h0.length) (hu : u < E.length) (hl : ∀ es ∈ E, es.length ≤ 1000) : callM b m_append (.ref (h0.length + 2 + u)) [edgeV e] (th h0 E st) = some (.none, th h0 (addE E u e) st) := by
  have he : E[u]? = some E[u] := List.getElem?_eq_getElem hu
  have hr : (th h0 E st)[h0.length + 2 + u]? = some (rowV E[u]) := by rw [th_r, he]; rfl
  rw [append_ref _ _ _ hr (by omega) (by have := hl E[u] (List.getElem_mem hu); simp [rowV]; omega)]
  congr 2
  unfold th addE
  rw [List.length_set, show h0.length + 2 + u = h0.length + 1 + (u + 1) by omega, set_far, List.set_cons_succ, he, List.map_set]
  simp [rowV]
theorem th_stk (st' : List (Nat × Nat)) : (th h0 E st).set (h0.length + 1) (stV st') = th h0 E st' := set2
theorem stV_cons (p : Nat × Nat) : stV (p :: st) = stV st ++ [prV p] := by simp [stV]
theorem stV_cons2 (p q : Nat × Nat) : stV (p :: q :: st) = stV st ++ [prV q, prV p] := by simp [stV]
theorem th_top (p : Nat × Nat) : idx (.ref (h0.length + 1)) (.int (-1)) (th h0 E (p :: st)) = some (prV p) := idx_m1 (xs := stV st) (by rw [th_s, stV_cons])
theorem th_sec (p q : Nat × Nat) : idx (.ref (h0.length + 1)) (.int (-2)) (th h0 E (p :: q :: st)) = some (prV q) := idx_m2 (xs := stV st) (v := prV p) (by rw [th_s, stV_cons2])
theorem th_del (p : Nat × Nat) (hb : b ≤ h0.length) : delIdx b (.ref (h0.length + 1)) (.int (-1)) (th h0 E (p :: st)) = some (th h0 E st) := by
  rw [delIdx_m1 (xs := stV st) (v := prV p) (by rw [th_s, stV_cons]) (by omega), th_stk]
theorem th_put (p q : Nat × Nat) (hb : b ≤ h0.length) : setIdx b (.ref (h0.length + 1)) (.int (-1)) (prV q) (th h0 E (p :: st)) = some (th h0 E (q :: st)) := by
  rw [setIdx_m1 (xs := stV st) (v := prV p) (by rw [th_s, stV_cons]) (by omega), ← stV_cons, th_stk]
theorem th_push (p : Nat × Nat) (hb : b ≤ h0.length) (hl : st.length ≤ 100000) : callM b m_append (.ref (h0.length + 1)) [prV p] (th h0 E st) = some (.none, th h0 E (p :: st)) := by
  rw [append_ref _ _ _ th_s (by omega) (by simp [stV]; omega), ← stV_cons, th_stk]
theorem pr_0 (p : Nat × Nat) (h : Hp) : idx (prV p) (.int 0) h = some (.int p.1) := rfl
theorem pr_1 (p : Nat × Nat) (h : Hp) : idx (prV p) (.int 1) h = some (.int p.2) := rfl
end

theorem addE_small {E : List (List Edge)} {u : Nat} {e : Edge} {n : Nat} (h : ∀ es ∈ E, es.length ≤ n) : ∀ es ∈ addE E u e, es.length ≤ n + 1 := by
  intro es hes
  unfold addE at hes
  rcases List.mem_or_eq_of_mem_set hes with q | q
  · have := h es q; omega
  · subst q
    simp only [List.length_append, List.length_cons, List.length_nil]
    cases hu : E[u]? with
    | none => simp
    | some x => have := h x (List.mem_of_getElem? hu); simp; omega
theorem two_small {E : List (List Edge)} {n : Nat} (h : ∀ es ∈ E, es.length ≤ n) : ∀ es ∈ two E, es.length ≤ n := by
  intro es hes
  simp only [two, List.mem_append, List.mem_singleton] at hes
  rcases hes with (q | rfl) | rfl
  · exact h es q
  · simp
  · simp

structure ThI (h0 : Hp) (T : TS) (n : Nat) (ρ : Rho) (h : Hp) : Prop where
  edges : ρ n_edges = some (.ref h0.length)
  stack : ρ n_stack = some (.ref (h0.length + 1))
  heap : h = th h0 T.1 T.2
  len : T.1.length ≤ 2 * n
  slen : T.2.length ≤ n
  small : ∀ es ∈ T.1, es.length ≤ 4 * n
  lt : ∀ p ∈ T.2, p.1 < T.1.length ∧ p.2 < T.1.length

theorem isN : isNoneV .none = true := rfl
theorem um1 : unop .USub (.int 1) = some (.int (-1)) := rfl
theorem um2 : unop .USub (.int 2) = some (.int (-2)) := rfl
theorem k_idx0 (k : K8) (h : Hp) : idx k.tup (.int 0) h = some (.str k.kind) := rfl
theorem k_idx1 (k : K8) (h : Hp) : idx k.tup (.int 1) h = some (.str k.sign) := rfl
end Mine
end

section
set_option autoImplicit false
set_option maxRecDepth 100000
namespace Mine
open PySem

noncomputable def K8.isCat : K8 → Bool | .cat => true | _ => false
noncomputable def K8.isLeaf : K8 → Bool | .chr _ => true | .any => true | .eps => true | _ => false
noncomputable def K8.isAny : K8 → Bool | .any => true | _ => false
noncomputable def K8.isAlt : K8 → Bool | .alt => true | _ => false
noncomputable def K8.isPlus : K8 → Bool | .plus => true | _ => false
noncomputable def K8.isOpt : K8 → Bool | .opt => true | _ => false
section
variable (k : K8) (h : Hp)
theorem q_cat : cmpop .Eq (.str k.kind) (V.str ⟨#[99, 97, 116]⟩) h = some k.isCat := by cases k <;> kernel_rfl
theorem q_leaf : cmpop .In (.str k.kind) (V.tup [(V.str ⟨#[99, 104, 114]⟩), (V.str ⟨#[97, 110, 121]⟩), (V.str ⟨#[101, 112, 115]⟩)]) h = some k.isLeaf := by cases k <;> kernel_rfl
theorem q_any : cmpop .Eq (.str k.kind) (V.str ⟨#[97, 110, 121]⟩) h = some k.isAny := by cases k <;> kernel_rfl
theorem q_alt : cmpop .Eq (.str k.kind) (V.str ⟨#[97, 108, 116]⟩) h = some k.isAlt := by cases k <;> kernel_rfl
theorem q_plus : cmpop .NotEq (.str k.kind) (V.str ⟨#[112, 108, 117, 115]⟩) h = some (!k.isPlus) := by cases k <;> kernel_rfl
theorem q_opt : cmpop .NotEq (.str k.kind) (V.str ⟨#[111, 112, 116]⟩) h = some (!k.isOpt) := by cases k <;> kernel_rfl
end
section
variable {h0 : Hp} {E : List (List Edge)} {st : List (Nat × Nat)} {b n : Nat} {ρ : Rho}
theorem th_add' {u : Nat} (l : Str) (v : Nat) (hb : b ≤ h0.length) (hu : u < E.length) (hl : ∀ es ∈ E, es.length ≤ 1000) : callM b m_append (.ref (h0.length + 2 + u)) [.tup [.str l, .int v]] (th h0 E st) = some (.none, th h0 (addE E u (l, v)) st) := th_add (l, v) hb hu hl
theorem th_put' (p : Nat × Nat) (x y : Nat) (hb : b ≤ h0.length) : setIdx b (.ref (h0.length + 1)) (.int (-1)) (.tup [.int x, .int y]) (th h0 E (p :: st)) = some (th h0 E ((x, y) :: st)) := th_put p (x, y) hb
theorem th_push' (x y : Nat) (hb : b ≤ h0.length) (hl : st.length ≤ 100000) : callM b m_append (.ref (h0.length + 1)) [.tup [.int x, .int y]] (th h0 E st) = some (.none, th h0 E ((x, y) :: st)) := th_push (x, y) hb hl
theorem cast1 (n : Nat) : ((n : Int) + 1) = ((n + 1 : Nat) : Int) := rfl
theorem th_two' (hb : b ≤ h0.length) (hE : E.length ≤ 10000) : callM b m_append (.ref h0.length) [.ref (th h0 (E ++ [[]]) st).length] (th h0 (E ++ [[]]) st ++ [[]]) = some (.none, th h0 (two E) st) := th_new hb (by simp; omega)
theorem lt_two {u : Nat} (h : u < E.length) : u < (two E).length := by rw [two_len]; omega

theorem th_leaf (d : Nat) {k : K8} {l : Str} (hk : k.isCat = false) (hl : k.isLeaf = true) (hs : (if k.isAny then sDot else k.sign) = l) (hb : b ≤ h0.length) (hn : n ≤ 100) (I : ThI h0 (E, st) n ρ (th h0 E st)) :
    ∃ ρ', thompson_l175 d b k.tup ρ (th h0 E st) = some (.next, ρ', th h0 (leaf E st l).1 (leaf E st l).2) ∧ ρ' n_edges = some (.ref h0.length) ∧ ρ' n_stack = some (.ref (h0.length + 1)) := by
  have i1 := I.len; have i2 := I.slen
  simp only at i1 i2
  have small : ∀ es ∈ two E, es.length ≤ 1000 := two_small fun es h => by have := I.small es h; omega
  unfold thompson_l175
  simp (implicitDefEqProofs := false) only [k_idx0, k_idx1, q_cat, hk, Option.bind_some, Bool.false_eq_true, if_false, I.edges, I.stack, th_elen, bi_add, cast1, th_new hb (show E.length ≤ 100000 by omega), isN, if_true, th_two' hb (show E.length ≤ 10000 by omega), q_leaf, hl, q_any,
    th_idx (E := two E) (show E.length < (two E).length by rw [two_len]; omega)]
  cases ha : k.isAny
  · rw [ha] at hs
    simp only [Bool.false_eq_true, if_false] at hs ⊢
    rw [hs]
    simp (implicitDefEqProofs := false) only [th_add' (E := two E) (u := E.length) l (E.length + 1) hb (by rw [two_len]; omega) small, Option.bind_some, isN, if_true]
    rw [th_push' _ _ hb (by omega)]
    refine ⟨_, rfl, ?_, ?_⟩
    · simp only [upd, ne_thompson, if_false]; exact I.edges
    · simp only [upd, ne_thompson, if_false]; exact I.stack
  · rw [ha] at hs
    simp only [if_true] at hs ⊢
    subst hs
    rw [show (V.str ⟨#[46]⟩) = V.str sDot from rfl]
    simp (implicitDefEqProofs := false) only [th_add' (E := two E) (u := E.length) sDot (E.length + 1) hb (by rw [two_len]; omega) small, Option.bind_some, isN, if_true]
    rw [th_push' _ _ hb (by omega)]
    refine ⟨_, rfl, ?_, ?_⟩
    · simp only [upd, ne_thompson, if_false]; exact I.edges
    · simp only [upd, ne_thompson, if_false]; exact I.stack

theorem th_cat (d : Nat) {r l : Nat × Nat} (hb : b ≤ h0.length) (hn : n ≤ 100) (I : ThI h0 (E, r :: l :: st) n ρ (th h0 E (r :: l :: st))) :
    ∃ ρ', thompson_l175 d b K8.cat.tup ρ (th h0 E (r :: l :: st)) = some (.cont, ρ', th h0 (addE E l.2 (sE, r.1)) ((l.1, r.2) :: st)) ∧ ρ' n_edges = some (.ref h0.length) ∧ ρ' n_stack = some (.ref (h0.length + 1)) := by
  have hl := I.lt l (by simp)
  have small : ∀ es ∈ E, es.length ≤ 1000 := fun es h => by have := I.small es h; omega
  unfold thompson_l175
  simp (implicitDefEqProofs := false) only [k_idx0, q_cat, K8.isCat, Option.bind_some, if_true, I.edges, I.stack, um1, um2, th_sec, th_top, th_del _ hb, pr_0, pr_1, th_idx hl.2,
    show (V.str ⟨#[]⟩) = V.str sE from rfl, th_add' (E := E) sE r.1 hb hl.2 small, isN, th_put' l l.1 r.2 hb]
  refine ⟨_, rfl, ?_, ?_⟩
  · simp only [upd, ne_thompson, if_false]; exact I.edges
  · simp only [upd, ne_thompson, if_false]; exact I.stack

theorem th_alt (d : Nat) {r l : Nat × Nat} (hb : b ≤ h0.length) (hn : n ≤ 100) (I : ThI h0 (E, r :: l :: st) n ρ (th h0 E (r :: l :: st))) :
    ∃ ρ', thompson_l175 d b K8.alt.tup ρ (th h0 E (r :: l :: st)) = some (.next, ρ', th h0 (addE (addE (addE (addE (two E) E.length (sE, l.1)) E.length (sE, r.1)) l.2 (sE, E.length + 1)) r.2 (sE, E.length + 1)) ((E.length, E.length + 1) :: st)) ∧ ρ' n_edges = some (.ref h0.length) ∧ ρ' n_stack = some (.ref (h0.length + 1)) := by
  have i1 := I.len
  simp only at i1
  have hl := I.lt l (by simp)
  have hr := I.lt r (by simp)
  simp only at hl hr
  have s0 : ∀ es ∈ two E, es.length ≤ 400 := two_small fun es h => by have := I.small es h; omega
  have s1 := addE_small (u := E.length) (e := (sE, l.1)) s0
  have s2 := addE_small (u := E.length) (e := (sE, r.1)) s1
  have s3 := addE_small (u := l.2) (e := (sE, E.length + 1)) s2
  have up : ∀ {m : Nat} {E : List (List Edge)}, m ≤ 1000 → (∀ es ∈ E, es.length ≤ m) → ∀ es ∈ E, es.length ≤ 1000 := fun hm h es hes => Nat.le_trans (h es hes) hm
  unfold thompson_l175
  simp (implicitDefEqProofs := false) only [k_idx0, q_cat, K8.isCat, Option.bind_some, Bool.false_eq_true, if_false, I.edges, I.stack, th_elen, bi_add, cast1, th_new hb (show E.length ≤ 100000 by omega), isN, if_true, th_two' hb (show E.length ≤ 10000 by omega), q_leaf, K8.isLeaf, q_alt, K8.isAlt,
    um1, um2, th_sec, th_top, th_del _ hb, pr_0, pr_1, show (V.str ⟨#[]⟩) = V.str sE from rfl,
    th_idx (E := two E) (show E.length < (two E).length by rw [two_len]; omega), th_add' (E := two E) (u := E.length) sE l.1 hb (by rw [two_len]; omega) (up (by decide) s0)]
  simp (implicitDefEqProofs := false) only [Option.bind_some, isN, if_true, th_idx (E := addE (two E) E.length (sE, l.1)) (show E.length < (addE (two E) E.length (sE, l.1)).length by rw [addE_len, two_len]; omega),
    th_add' (E := addE (two E) E.length (sE, l.1)) (u := E.length) sE r.1 hb (by rw [addE_len, two_len]; omega) (up (by decide) s1)]
  simp (implicitDefEqProofs := false) only [Option.bind_some, isN, if_true, th_idx (E := addE (addE (two E) E.length (sE, l.1)) E.length (sE, r.1)) (u := l.2) (by rw [addE_len, addE_len, two_len]; omega),
    th_add' (E := addE (addE (two E) E.length (sE, l.1)) E.length (sE, r.1)) (u := l.2) sE (E.length + 1) hb (by rw [addE_len, addE_len, two_len]; omega) (up (by decide) s2)]
  simp (implicitDefEqProofs := false) only [Option.bind_some, isN, if_true, th_idx (E := addE (addE (addE (two E) E.length (sE, l.1)) E.length (sE, r.1)) l.2 (sE, E.length + 1)) (u := r.2) (by rw [addE_len, addE_len, addE_len, two_len]; omega),
    th_add' (E := addE (addE (addE (two E) E.length (sE, l.1)) E.length (sE, r.1)) l.2 (sE, E.length + 1)) (u := r.2) sE (E.length + 1) hb (by rw [addE_len, addE_len, addE_len, two_len]; omega) (up (by decide) s3), th_put' _ _ _ hb]
  refine ⟨_, rfl, ?_, ?_⟩
  · simp only [upd, ne_thompson, if_false]; exact I.edges
  · simp only [upd, ne_thompson, if_false]; exact I.stack
end
end Mine
end

section
set_option autoImplicit false
set_option maxRecDepth 100000
namespace Mine
open PySem
section
variable {h0 : Hp} {E : List (List Edge)} {st : List (Nat × Nat)} {b n : Nat} {ρ : Rho}
theorem th_wrap (d : Nat) {k : K8} {x : Nat × Nat} (k1 : k.isCat = false) (k2 : k.isLeaf = false) (k3 : k.isAlt = false) (hb : b ≤ h0.length) (hn : n ≤ 100) (I : ThI h0 (E, x :: st) n ρ (th h0 E (x :: st))) :
    ∃ ρ', thompson_l175 d b k.tup ρ (th h0 E (x :: st)) = some (.next, ρ', th h0 (wrap k.isPlus k.isOpt E x) ((E.length, E.length + 1) :: st)) ∧ ρ' n_edges = some (.ref h0.length) ∧ ρ' n_stack = some (.ref (h0.length + 1)) := by
  have i1 := I.len
  simp only at i1
  have hx := I.lt x (by simp)
  simp only at hx
  have up : ∀ {m : Nat} {E : List (List Edge)}, m ≤ 1000 → (∀ es ∈ E, es.length ≤ m) → ∀ es ∈ E, es.length ≤ 1000 := fun hm h es hes => Nat.le_trans (h es hes) hm
  have s0 : ∀ es ∈ two E, es.length ≤ 400 := two_small fun es h => by have := I.small es h; omega
  have s1 := addE_small (u := E.length) (e := (sE, x.1)) s0
  generalize hE1 : addE (two E) E.length (sE, x.1) = E1 at s1
  have l1 : E1.length = E.length + 2 := by rw [← hE1, addE_len, two_len]
  unfold thompson_l175
  simp (implicitDefEqProofs := false) only [k_idx0, q_cat, k1, Option.bind_some, Bool.false_eq_true, if_false, I.edges, I.stack, th_elen, bi_add, cast1, th_new hb (show E.length ≤ 100000 by omega), isN, if_true, th_two' hb (show E.length ≤ 10000 by omega), q_leaf, k2, q_alt, k3,
    um1, th_top, pr_0, pr_1, show (V.str ⟨#[]⟩) = V.str sE from rfl,
    th_idx (E := two E) (show E.length < (two E).length by rw [two_len]; omega), th_add' (E := two E) (u := E.length) sE x.1 hb (by rw [two_len]; omega) (up (by decide) s0), q_plus, hE1]
  unfold wrap
  simp only [hE1]
  cases hp : k.isPlus
  · simp (implicitDefEqProofs := false) only [Bool.not_false, if_true, Option.bind_some, th_idx (E := E1) (show E.length < E1.length by omega), th_add' (E := E1) (u := E.length) sE (E.length + 1) hb (by omega) (up (by decide) s1), isN, Bool.false_eq_true, if_false, q_opt]
    have s2 := addE_small (u := E.length) (e := (sE, E.length + 1)) s1
    generalize hE2 : addE E1 E.length (sE, E.length + 1) = E2 at s2
    have l2 : E2.length = E.length + 2 := by rw [← hE2, addE_len, l1]
    cases ho : k.isOpt
    · simp (implicitDefEqProofs := false) only [Bool.not_false, if_true, Option.bind_some, th_idx (E := E2) (show x.2 < E2.length by omega), th_add' (E := E2) (u := x.2) sE x.1 hb (by omega) (up (by decide) s2), isN, Bool.false_eq_true, if_false]
      have s3 := addE_small (u := x.2) (e := (sE, x.1)) s2
      generalize hE3 : addE E2 x.2 (sE, x.1) = E3 at s3
      have l3 : E3.length = E.length + 2 := by rw [← hE3, addE_len, l2]
      simp (implicitDefEqProofs := false) only [Option.bind_some, th_idx (E := E3) (show x.2 < E3.length by omega), th_add' (E := E3) (u := x.2) sE (E.length + 1) hb (by omega) (up (by decide) s3), isN, if_true, th_put' _ _ _ hb]
      refine ⟨_, rfl, ?_, ?_⟩
      · simp only [upd, ne_thompson, if_false]; exact I.edges
      · simp only [upd, ne_thompson, if_false]; exact I.stack
    · simp (implicitDefEqProofs := false) only [Bool.not_true, Bool.false_eq_true, if_false, if_true, Option.bind_some, th_idx (E := E2) (show x.2 < E2.length by omega), th_add' (E := E2) (u := x.2) sE (E.length + 1) hb (by omega) (up (by decide) s2), isN, th_put' _ _ _ hb]
      refine ⟨_, rfl, ?_, ?_⟩
      · simp only [upd, ne_thompson, if_false]; exact I.edges
      · simp only [upd, ne_thompson, if_false]; exact I.stack
  · simp (implicitDefEqProofs := false) only [Bool.not_true, Bool.false_eq_true, if_false, if_true, q_opt, Option.bind_some]
    cases ho : k.isOpt
    · simp (implicitDefEqProofs := false) only [Bool.not_false, if_true, Option.bind_some, th_idx (E := E1) (show x.2 < E1.length by omega), th_add' (E := E1) (u := x.2) sE x.1 hb (by omega) (up (by decide) s1), isN, Bool.false_eq_true, if_false]
      have s3 := addE_small (u := x.2) (e := (sE, x.1)) s1
      generalize hE3 : addE E1 x.2 (sE, x.1) = E3 at s3
      have l3 : E3.length = E.length + 2 := by rw [← hE3, addE_len, l1]
      simp (implicitDefEqProofs := false) only [Option.bind_some, th_idx (E := E3) (show x.2 < E3.length by omega), th_add' (E := E3) (u := x.2) sE (E.length + 1) hb (by omega) (up (by decide) s3), isN, if_true, th_put' _ _ _ hb]
      refine ⟨_, rfl, ?_, ?_⟩
      · simp only [upd, ne_thompson, if_false]; exact I.edges
      · simp only [upd, ne_thompson, if_false]; exact I.stack
    · simp (implicitDefEqProofs := false) only [Bool.not_true, Bool.false_eq_true, if_false, if_true, Option.bind_some, th_idx (E := E1) (show x.2 < E1.length by omega), th_add' (E := E1) (u := x.2) sE (E.length + 1) hb (by omega) (up (by decide) s1), isN, th_put' _ _ _ hb]
      refine ⟨_, rfl, ?_, ?_⟩
      · simp only [upd, ne_thompson, if_false]; exact I.edges
      · simp only [upd, ne_thompson, if_false]; exact I.stack
end

theorem th_grow {k : K8} {T T' : TS} {n : Nat} (hT : thStep k T = some T') (h1 : T.1.length ≤ 2 * n) (h2 : T.2.length ≤ n) (h3 : ∀ es ∈ T.1, es.length ≤ 4 * n) : T'.1.length ≤ 2 * (n + 1) ∧ T'.2.length ≤ n + 1 ∧ ∀ es ∈ T'.1, es.length ≤ 4 * (n + 1) := by
  have up : ∀ {m m' : Nat} {E : List (List Edge)}, m ≤ m' → (∀ es ∈ E, es.length ≤ m) → ∀ es ∈ E, es.length ≤ m' := fun hm h es hes => Nat.le_trans (h es hes) hm
  have t3 := two_small h3
  obtain ⟨E, st⟩ := T
  simp only at h1 h2 h3 t3
  have wr : ∀ {p o : Bool} {x : Nat × Nat}, ∀ es ∈ wrap p o E x, es.length ≤ 4 * (n + 1) := by
    intro p o x
    unfold wrap
    have a1 := addE_small (u := E.length) (e := (sE, x.1)) t3
    cases p <;> cases o <;> simp only [if_true, if_false, Bool.false_eq_true]
    · exact up (by omega) (addE_small (addE_small (addE_small a1)))
    · exact up (by omega) (addE_small (addE_small a1))
    · exact up (by omega) (addE_small (addE_small a1))
    · exact up (by omega) (addE_small a1)
  cases k with
  | chr s => cases hT; exact ⟨by simp only [leaf, addE_len, two_len]; omega, by simp [leaf]; omega, up (by omega) (addE_small t3)⟩
  | any => cases hT; exact ⟨by simp only [leaf, addE_len, two_len]; omega, by simp [leaf]; omega, up (by omega) (addE_small t3)⟩
  | eps => cases hT; exact ⟨by simp only [leaf, addE_len, two_len]; omega, by simp [leaf]; omega, up (by omega) (addE_small t3)⟩
  | star => cases st with
    | nil => simp [thStep] at hT
    | cons x st => cases hT; exact ⟨by simp only [wrap_len]; omega, by simp at h2 ⊢; omega, wr⟩
  | plus => cases st with
    | nil => simp [thStep] at hT
    | cons x st => cases hT; exact ⟨by simp only [wrap_len]; omega, by simp at h2 ⊢; omega, wr⟩
  | opt => cases st with
    | nil => simp [thStep] at hT
    | cons x st => cases hT; exact ⟨by simp only [wrap_len]; omega, by simp at h2 ⊢; omega, wr⟩
  | cat => cases st with
    | nil => simp [thStep] at hT
    | cons r st => cases st with
      | nil => simp [thStep] at hT
      | cons l st => cases hT; exact ⟨by simp only [addE_len]; omega, by simp at h2 ⊢; omega, up (by omega) (addE_small h3)⟩
  | alt => cases st with
    | nil => simp [thStep] at hT
    | cons r st => cases st with
      | nil => simp [thStep] at hT
      | cons l st => cases hT; exact ⟨by simp only [addE_len, two_len]; omega, by simp at h2 ⊢; omega, up (by omega) (addE_small (addE_small (addE_small (addE_small t3))))⟩
theorem th_step (d : Nat) {h0 : Hp} {b n : Nat} {ρ : Rho} {h : Hp} {k : K8} {T T' : TS} (hb : b ≤ h0.length) (hn : n ≤ 100) (hT : thStep k T = some T') (I : ThI h0 T n ρ h) (hlt : ∀ p ∈ T'.2, p.1 < T'.1.length ∧ p.2 < T'.1.length) :
    ∃ ρ' h', (thompson_l175 d b k.tup ρ h = some (.next, ρ', h') ∨ thompson_l175 d b k.tup ρ h = some (.cont, ρ', h')) ∧ ThI h0 T' (n + 1) ρ' h' := by
  obtain ⟨g1, g2, g3⟩ := th_grow hT I.len I.slen I.small
  obtain ⟨E, st⟩ := T
  have hh := I.heap
  simp only at hh
  subst hh
  have fin : ∀ {ρ' : Rho}, ρ' n_edges = some (.ref h0.length) ∧ ρ' n_stack = some (.ref (h0.length + 1)) → ThI h0 T' (n + 1) ρ' (th h0 T'.1 T'.2) := fun q => ⟨q.1, q.2, rfl, g1, g2, g3, hlt⟩
  cases k with
  | chr s =>
    cases hT
    obtain ⟨ρ', e, q⟩ := th_leaf d (k := .chr s) (l := s) rfl rfl rfl hb hn I
    exact ⟨ρ', _, .inl e, fin q⟩
  | any =>
    cases hT
    obtain ⟨ρ', e, q⟩ := th_leaf d (k := .any) (l := sDot) rfl rfl rfl hb hn I
    exact ⟨ρ', _, .inl e, fin q⟩
  | eps =>
    cases hT
    obtain ⟨ρ', e, q⟩ := th_leaf d (k := .eps) (l := sE) rfl rfl rfl hb hn I
    exact ⟨ρ', _, .inl e, fin q⟩
  | star => cases st with
    | nil => simp [thStep] at hT
    | cons x st =>
      cases hT
      obtain ⟨ρ', e, q⟩ := th_wrap d (k := .star) rfl rfl rfl hb hn I
      exact ⟨ρ', _, .inl e, fin q⟩
  | plus => cases st with
    | nil => simp [thStep] at hT
    | cons x st =>
      cases hT
      obtain ⟨ρ', e, q⟩ := th_wrap d (k := .plus) rfl rfl rfl hb hn I
      exact ⟨ρ', _, .inl e, fin q⟩
  | opt => cases st with
    | nil => simp [thStep] at hT
    | cons x st =>
      cases hT
      obtain ⟨ρ', e, q⟩ := th_wrap d (k := .opt) rfl rfl rfl hb hn I
      exact ⟨ρ', _, .inl e, fin q⟩
  | cat => cases st with
    | nil => simp [thStep] at hT
    | cons r st => cases st with
      | nil => simp [thStep] at hT
      | cons l st =>
        cases hT
        obtain ⟨ρ', e, q⟩ := th_cat d hb hn I
        exact ⟨ρ', _, .inr e, fin q⟩
  | alt => cases st with
    | nil => simp [thStep] at hT
    | cons r st => cases st with
      | nil => simp [thStep] at hT
      | cons l st =>
        cases hT
        obtain ⟨ρ', e, q⟩ := th_alt d hb hn I
        exact ⟨ρ', _, .inl e, fin q⟩
end Mine
end

section
set_option autoImplicit false
set_option maxRecDepth 100000
namespace Mine
open PySem
theorem th_def {t : List Nat} {E : List (List Edge)} {hi : Nat} {st : List (Nat × Nat)} {fs fs' : List Bf} {k : K8} (S : Stk t E hi st fs) (h : smStep t k fs = some fs') : ∃ T', thStep k (E, st) = some T' := by
  cases S with
  | nil => cases k <;> first | exact ⟨_, rfl⟩ | (simp [smStep] at h)
  | cons F S =>
    cases S with
    | nil => cases k <;> first | exact ⟨_, rfl⟩ | (simp [smStep] at h)
    | cons F2 S => cases k <;> exact ⟨_, rfl⟩
noncomputable def AllOk (ks : List K8) : Prop := ∀ k ∈ ks, k.ok
theorem sms_drop {t : List Nat} {ks : List K8} {fs r : List Bf} {i : Nat} {k : K8} (hk : ks[i]? = some k) (h : sms t (ks.drop i) fs = some r) : ∃ fs', smStep t k fs = some fs' ∧ sms t (ks.drop (i + 1)) fs' = some r := by
  obtain ⟨hl, e⟩ := List.getElem?_eq_some_iff.mp hk
  rw [List.drop_eq_getElem_cons hl, e] at h
  exact Option.bind_eq_some_iff.mp h
theorem th_pre {h0 : Hp} {E : List (List Edge)} {st : List (Nat × Nat)} {a : Nat} {xs : List V} (h : h0[a]? = some xs) : (th h0 E st)[a]? = some xs := get_pre _ h

theorem thompson_spec (d : Nat) {h : Hp} {a0 : Nat} {ks : List K8} {t : List Nat} {f : Bf} (ha : h[a0]? = some (ks.map K8.tup)) (hok : AllOk ks) (hs : sms t ks [] = some [f]) (hn : ks.length ≤ 90) :
    ∃ E s a, (G (d + 2)).fn f_thompson [.ref a0] h = some (.tup [.int (s : Nat), .int (a : Nat), .ref h.length], th h E [(s, a)]) ∧ Frag t E 0 E.length s a f ∧ E.length ≤ 2 * ks.length ∧ ∀ es ∈ E, es.length ≤ 4 * ks.length := by
  rw [thompson_eq]
  unfold thompson_s
  have h1 : (h ++ [[]]) ++ [[]] = th h [] [] := by simp [th, eV, stV]
  have hi : itemsOf (.ref a0) (th h [] []) = some (ks.map K8.tup, some a0) := by simp only [itemsOf, th_pre ha, Option.map_some]
  simp only [h1, hi, Option.bind_some]
  obtain ⟨ρ', h', e1, T, fs, I, S, rd, hr⟩ := loopS_rule (c := some a0) (all := ks.map K8.tup) (f := thompson_l175 d h.length) (fun i ρ h' => ∃ T fs, ThI h T i ρ h' ∧ Stk t T.1 T.1.length T.2 fs ∧ AllRd (t.length + 1) fs ∧ sms t (ks.drop i) fs = some [f])
    (fun i x ρ h' hx hi => by
      obtain ⟨T, fs, I, S, rd, hr⟩ := hi
      rw [List.getElem?_map] at hx
      obtain ⟨k, hk, rfl⟩ := Option.map_eq_some_iff.mp hx
      have hlt := (List.getElem?_eq_some_iff.mp hk).1
      obtain ⟨fs', h2, h3⟩ := sms_drop hk hr
      obtain ⟨T', h4⟩ := th_def S h2
      have S' := th_inv (hok k (List.mem_of_getElem? hk)) S rd h4 h2
      obtain ⟨ρ', h'', e, I'⟩ := th_step d (b := h.length) (Nat.le_refl _) (by omega) h4 I S'.lt
      exact ⟨chk_some (by rw [I.heap]; exact th_pre ha), ρ', h'', e, T', fs', I', S', sm_rd h2 rd, h3⟩)
    (fun ρ h' hi => by
      obtain ⟨T, fs, I, _⟩ := hi
      exact chk_some (by rw [I.heap]; exact th_pre ha))
    (ρ := upd (upd (fun x => List.lookup x (List.zip [n_post] [V.ref a0]).reverse) n_edges (V.ref h.length)) n_stack (V.ref (h ++ [[]]).length)) (h := th h [] [])
    ⟨([], []), [], ⟨by simp only [upd, ne_thompson, if_false]; rfl, by simp [upd], rfl, by simp, by simp, by simp, by simp⟩, .nil, (fun _ hf => (nomatch hf) : AllRd (t.length + 1) []), hs⟩
  rw [e1]
  rw [List.length_map, List.drop_length] at hr
  cases hr
  obtain ⟨E, st⟩ := T
  cases hst : st with
  | nil => rw [hst] at S; generalize hz : E.length = z at S; cases S
  | cons p st' =>
    rw [hst] at S
    obtain ⟨lo, f', fs', e2, F, S⟩ := S.inv
    injection e2 with e2 e3
    subst e2 e3
    generalize hz : lo = z at S F
    cases S
    subst hst
    have hh := I.heap
    have hl := I.len
    have hsm := I.small
    simp only [List.length_map] at hh hl hsm
    subst hh
    simp only [Option.bind_some, I.stack, um1, th_top, pr_0, pr_1, I.edges]
    exact ⟨E, p.1, p.2, rfl, F, hl, hsm⟩
end Mine
end

section
set_option autoImplicit false
set_option maxRecDepth 100000
namespace Mine
open PySem

/-! paths, cut at their last sign -/
section
variable {t : List Nat} {E : List (List Edge)}
/-- a step that reads the sign at i -/
noncomputable def Rds (t : List Nat) (E : List (List Edge)) (u i w : Nat) : Prop := ∃ es l c, E[u]? = some es ∧ (l, w) ∈ es ∧ t[i]? = some c ∧ (l = ⟨#[c]⟩ ∨ l = sDot)
theorem pth_cut {s k v j : Nat} (p : Pth t E s k v j) : ∀ {i : Nat}, j = i + 1 → k ≤ i → ∃ u w, Pth t E s k u i ∧ Rds t E u i w ∧ Pth t E w (i + 1) v (i + 1) := by
  induction p with
  | refl => intro i h1 h2; omega
  | @step s k s' k' v j e q ih =>
    intro i h1 h2
    subst h1
    have hl := est_le e
    obtain ⟨es, l, q1, q2, h | ⟨c, hc, h, h'⟩⟩ := id e
    · obtain ⟨u, w, a1, a2, a3⟩ := ih rfl (by omega)
      exact ⟨u, w, .step e a1, a2, a3⟩
    · by_cases hk : k = i
      · subst hk
        subst h'
        exact ⟨s, s', .refl .., ⟨es, l, c, q1, q2, hc, h⟩, q⟩
      · obtain ⟨u, w, a1, a2, a3⟩ := ih rfl (by omega)
        exact ⟨u, w, .step e a1, a2, a3⟩
theorem Rds.est {u i w : Nat} (h : Rds t E u i w) : Est t E u i w (i + 1) := by
  obtain ⟨es, l, c, h1, h2, h3, h4⟩ := h
  exact ⟨es, l, h1, h2, .inr ⟨c, h3, h4, rfl⟩⟩
theorem pth_next {s v i : Nat} : Pth t E s 0 v (i + 1) ↔ ∃ w, (∃ u, Pth t E s 0 u i ∧ Rds t E u i w) ∧ Pth t E w (i + 1) v (i + 1) := by
  constructor
  · intro p
    obtain ⟨u, w, h1, h2, h3⟩ := pth_cut p rfl (Nat.zero_le _)
    exact ⟨w, ⟨u, h1, h2⟩, h3⟩
  · rintro ⟨w, ⟨u, h1, h2⟩, h3⟩
    exact h1.trans (.step h2.est h3)
/-- a set that is closed under the empty edges holds all that is reached without a sign -/
theorem pth_closed {S : List Nat} {u v i j : Nat} (hc : ∀ x ∈ S, ∀ es, E[x]? = some es → ∀ y, (sE, y) ∈ es → y ∈ S) (p : Pth t E u i v j) : i = j → u ∈ S → v ∈ S := by
  induction p with
  | refl => intro _ h; exact h
  | step e q ih =>
    intro h1 h2
    subst h1
    have l1 := est_le e; have l2 := q.le
    obtain ⟨es, l, q1, q2, h | ⟨c, hc', h, h'⟩⟩ := e
    · obtain ⟨rfl, h⟩ := h
      exact ih h (hc _ h2 es q1 _ q2)
    · omega
end

/-! lists of states in the heap -/
noncomputable def nV (S : List Nat) : List V := S.map fun x : Nat => V.int x
theorem rd_nV (n : Nat) (h : Hp) : ∀ S : List Nat, rdAll (rd n h) (nV S) = some (S.map fun x : Nat => PyData.int x)
  | [] => rfl
  | x :: S => by
    have e : rd n h (.int x) = some (.int x) := by cases n <;> rfl
    show ((rd n h (.int x)).bind fun d => (rdAll (rd n h) (nV S)).map (d :: ·)) = _
    rw [e, rd_nV n h S]; rfl
theorem in_nV {h : Hp} {a x : Nat} {S : List Nat} (e : h[a]? = some (nV S)) : inV h (.int x) (.ref a) = some (decide (x ∈ S)) := by
  show ((h[a]?).bind fun vs => (rd 8 h (.int x)).bind fun d => (rdAll (rd 8 h) vs).map fun ds => ds.any fun y => PyData.eqv y d) = _
  rw [e]
  simp only [Option.bind_some, rd_nV, Option.map_some, show rd 8 h (.int x) = some (.int x) from rfl]
  congr 1
  rw [Bool.eq_iff_iff]
  simp only [List.any_map, List.any_eq_true, Function.comp_def, decide_eq_true_eq]
  constructor
  · rintro ⟨y, hy, e⟩
    have : ((y : Int) == x) = true := e
    have : y = x := by have := beq_iff_eq.mp this; omega
    subst this; exact hy
  · intro hx
    exact ⟨x, hx, by show ((x : Int) == x) = true; simp⟩
theorem c_in {h : Hp} {a x : Nat} {S : List Nat} (e : h[a]? = some (nV S)) : cmpop .In (.int x) (.ref a) h = some (decide (x ∈ S)) := in_nV e
theorem c_nin {h : Hp} {a x : Nat} {S : List Nat} (e : h[a]? = some (nV S)) : cmpop .NotIn (.int x) (.ref a) h = some (!decide (x ∈ S)) := by
  show (inV h (.int x) (.ref a)).map _ = _
  rw [in_nV e]; rfl
theorem nV_app (S : List Nat) (x : Nat) : nV S ++ [V.int x] = nV (S ++ [x]) := by simp [nV]
theorem ints_nV : ∀ S : List Nat, intsOf (nV S) = some (S.map fun x : Nat => (x : Int))
  | [] => rfl
  | x :: S => by
    show (intsOf (nV S)).map (((x : Int)) :: ·) = _
    rw [ints_nV S]; rfl
theorem sorted_nV {h : Hp} {a : Nat} {S : List Nat} (e : h[a]? = some (nV S)) (hl : S.length < 64) : ∃ R, callB b_sorted [.ref a] h = some (.ref h.length, h ++ [nV R]) ∧ ∀ v, v ∈ R ↔ v ∈ S := by
  have hp := sortI_perm (S.map fun x : Nat => (x : Int))
  refine ⟨(sortI (S.map fun x : Nat => (x : Int))).map Int.toNat, ?_, fun v => ?_⟩
  · rw [callB_sorted]
    simp only [e, Option.bind_some, ints_nV, List.length_map, hl, if_true]
    congr 3
    simp only [nV, List.map_map]
    congr 1
    apply List.map_congr_left
    intro z hz
    obtain ⟨y, _, rfl⟩ := List.mem_map.mp (hp.mem_iff.mp hz)
    simp
  · rw [List.mem_map]
    constructor
    · rintro ⟨z, hz, rfl⟩
      obtain ⟨y, hy, rfl⟩ := List.mem_map.mp (hp.mem_iff.mp hz)
      simpa using hy
    · intro hv
      exact ⟨(v : Int), hp.mem_iff.mpr (List.mem_map.mpr ⟨v, hv, rfl⟩), by simp⟩

/-- the edges at e -/
structure EdgeAt (h : Hp) (e : Nat) (E : List (List Edge)) : Prop where
  rows : ∃ rs : List Nat, h[e]? = some (rs.map V.ref) ∧ rs.length = E.length ∧ ∀ (u : Nat) es, E[u]? = some es → ∃ r, rs[u]? = some r ∧ h[r]? = some (rowV es)
theorem EdgeAt.app {h : Hp} {e : Nat} {E : List (List Edge)} (x : EdgeAt h e E) (L : Hp) : EdgeAt (h ++ L) e E := by
  obtain ⟨rs, h1, h2, h3⟩ := x.rows
  exact ⟨rs, get_pre L h1, h2, fun u es hu => let ⟨r, q1, q2⟩ := h3 u es hu; ⟨r, q1, get_pre L q2⟩⟩
theorem EdgeAt.len {h : Hp} {e : Nat} {E : List (List Edge)} (x : EdgeAt h e E) : callB b_len [.ref e] h = some (.int E.length, h) := by
  obtain ⟨rs, h1, h2, _⟩ := x.rows
  rw [len_ref _ h1]; simp [h2]
theorem EdgeAt.at {h : Hp} {e : Nat} {E : List (List Edge)} (x : EdgeAt h e E) {u : Nat} {es : List Edge} (hu : E[u]? = some es) : ∃ r, idx (.ref e) (.int u) h = some (.ref r) ∧ h[r]? = some (rowV es) := by
  obtain ⟨rs, h1, h2, h3⟩ := x.rows
  obtain ⟨r, q1, q2⟩ := h3 u es hu
  exact ⟨r, idx_ref h1 (by omega) (by simp [q1]), q2⟩
theorem th_edges {h0 : Hp} {E : List (List Edge)} {st : List (Nat × Nat)} : EdgeAt (th h0 E st) h0.length E :=
  ⟨(List.range E.length).map (h0.length + 2 + ·), by rw [th_e]; simp [eV, Function.comp_def], by simp, fun u es hu => by
    have hl := (List.getElem?_eq_some_iff.mp hu).1
    exact ⟨h0.length + 2 + u, by simp [hl], by rw [th_r, hu]; rfl⟩⟩

/-- a loop that may be left -/
theorem loopS_brk {c : Option Nat} {all : List V} {f : V → Rho → Hp → Option (Fl × Rho × Hp)} (I : Nat → Rho → Hp → Prop) (B : Rho → Hp → Prop)
    (hc : ∀ i ρ h, I i ρ h → chk c all h = true)
    (hstep : ∀ i x ρ h, all[i]? = some x → I i ρ h → ∃ ρ' h', (f x ρ h = some (.next, ρ', h') ∧ I (i + 1) ρ' h') ∨ (f x ρ h = some (.brk, ρ', h') ∧ B ρ' h'))
    (hend : ∀ ρ h, I all.length ρ h → B ρ h) {ρ : Rho} {h : Hp} (h0 : I 0 ρ h) :
    ∃ ρ' h', loopS c all f all ρ h = some (.next, ρ', h') ∧ B ρ' h' := by
  suffices H : ∀ (rest : List V) (i : Nat) (ρ : Rho) (h : Hp), all.drop i = rest → I i ρ h → i ≤ all.length → ∃ ρ' h', loopS c all f rest ρ h = some (.next, ρ', h') ∧ B ρ' h' from H all 0 ρ h rfl h0 (Nat.zero_le _)
  intro rest
  induction rest with
  | nil =>
    intro i ρ h hd hi hl
    have : i = all.length := by
      have := congrArg List.length hd
      simp at this
      omega
    subst this
    exact ⟨ρ, h, by simp [loopS, hc _ _ _ hi], hend _ _ hi⟩
  | cons x rest ih =>
    intro i ρ h hd hi hl
    have hx : all[i]? = some x := by rw [← List.head?_drop, hd]; rfl
    have hr : all.drop (i + 1) = rest := by rw [← List.tail_drop, hd]; rfl
    have hlt := (List.getElem?_eq_some_iff.mp hx).1
    unfold loopS
    rw [if_pos (hc _ _ _ hi)]
    obtain ⟨ρ', h', ⟨e, hi'⟩ | ⟨e, hB⟩⟩ := hstep i x ρ h hx hi
    · rw [e]; exact ih (i + 1) ρ' h' hr hi' (by omega)
    · rw [e]; exact ⟨ρ', h', rfl, hB⟩
end Mine
end

section
set_option autoImplicit false
set_option maxRecDepth 100000
namespace Mine
open PySem

noncomputable def ch (h : Hp) (S W : List Nat) : Hp := h ++ [nV S, nV W]
section
variable {h : Hp} {S W : List Nat} {b : Nat}
theorem ch_s : (ch h S W)[h.length]? = some (nV S) := by simp [ch]
theorem ch_w : (ch h S W)[h.length + 1]? = some (nV W) := by simp [ch]
theorem ch_set (W' : List Nat) : (ch h S W).set (h.length + 1) (nV W') = ch h S W' := set2
theorem ch_app (x : Nat) (hb : b ≤ h.length) (hl : S.length ≤ 1000) : callM b m_append (.ref h.length) [.int x] (ch h S W) = some (.none, ch h (S ++ [x]) W) := by
  rw [append_ref _ _ _ ch_s hb (by simp [nV]; omega), nV_app]
  exact congrArg (fun z => some (V.none, z)) (set_mid ..)
theorem ch_push (x : Nat) (hb : b ≤ h.length) (hl : W.length ≤ 1000) : callM b m_append (.ref (h.length + 1)) [.int x] (ch h S W) = some (.none, ch h S (W ++ [x])) := by
  rw [append_ref _ _ _ ch_w (by omega) (by simp [nV]; omega), nV_app, ch_set]
theorem ch_top (x : Nat) : idx (.ref (h.length + 1)) (.int (-1)) (ch h S (W ++ [x])) = some (.int x) := idx_m1 (xs := nV W) (by rw [ch_w, ← nV_app])
theorem ch_del (x : Nat) (hb : b ≤ h.length) : delIdx b (.ref (h.length + 1)) (.int (-1)) (ch h S (W ++ [x])) = some (ch h S W) := by
  rw [delIdx_m1 (xs := nV W) (v := .int x) (by rw [ch_w, ← nV_app]) (by omega), ch_set]
theorem ch_len : callB b_len [.ref (h.length + 1)] (ch h S W) = some (.int W.length, ch h S W) := by rw [len_ref _ ch_w]; simp [nV]
end
theorem nodup_lt (n : Nat) (S : List Nat) (h1 : S.Nodup) (h2 : ∀ x ∈ S, x < n) : S.length ≤ n := by
  have := h1.length_le_of_subset (l₂ := List.range n) fun x hx => List.mem_range.mpr (h2 x hx)
  simpa using this

structure CI (h : Hp) (e : Nat) (S W : List Nat) (ρ : Rho) (h' : Hp) : Prop where
  edges : ρ n_edges = some (.ref e)
  seen : ρ n_seen = some (.ref h.length)
  work : ρ n_work = some (.ref (h.length + 1))
  heap : h' = ch h S W

theorem ed0 (x : Edge) (h : Hp) : idx (edgeV x) (.int 0) h = some (.str x.1) := rfl
theorem ed1 (x : Edge) (h : Hp) : idx (edgeV x) (.int 1) h = some (.int x.2) := rfl
/-- one edge of a state -/
theorem cl_edge (d : Nat) {h : Hp} {e b : Nat} {S W : List Nat} {ρ : Rho} (x : Edge) (hb : b ≤ h.length) (hS : S.length ≤ 1000) (hW : W.length ≤ 1000) (I : CI h e S W ρ (ch h S W)) :
    ∃ ρ' X, closure_l337 d b (edgeV x) ρ (ch h S W) = some (.next, ρ', ch h (S ++ X) (W ++ X)) ∧ CI h e (S ++ X) (W ++ X) ρ' (ch h (S ++ X) (W ++ X)) ∧ (X = [] ∨ (X = [x.2] ∧ x.1 = sE ∧ x.2 ∉ S)) ∧ (x.1 = sE → x.2 ∈ S ++ X) := by
  unfold closure_l337
  simp only [ed0, ed1, Option.bind_some, show (V.str ⟨#[]⟩) = V.str sE from rfl, cs_eq, I.seen, I.work, c_nin ch_s]
  have fin : ∀ S W : List Nat, CI h e S W (upd ρ n_e (edgeV x)) (ch h S W) := fun S W => ⟨by simp only [upd, ne_closure, if_false]; exact I.edges, by simp only [upd, ne_closure, if_false]; exact I.seen, by simp only [upd, ne_closure, if_false]; exact I.work, rfl⟩
  by_cases h1 : x.1 = sE
  · simp only [h1, BEq.rfl, if_true]
    by_cases h2 : x.2 ∈ S
    · simp only [h2, decide_true, Bool.not_true, Bool.false_eq_true, if_false]
      exact ⟨_, [], by rw [List.append_nil, List.append_nil], by rw [List.append_nil, List.append_nil]; exact fin S W, .inl rfl, fun _ => by simpa using h2⟩
    · simp only [h2, decide_false, Bool.not_false, if_true, ch_app x.2 hb hS, Option.bind_some, isN, ch_push x.2 hb hW]
      exact ⟨_, [x.2], rfl, fin _ _, .inr ⟨rfl, trivial, id⟩, fun _ => by simp⟩
  · have : (x.1 == sE) = false := by simpa using h1
    simp only [this, Bool.false_eq_true, if_false]
    exact ⟨_, [], by rw [List.append_nil, List.append_nil], by rw [List.append_nil, List.append_nil]; exact fin S W, .inl rfl, fun q => absurd q h1⟩

/-- all edges of a state -/
theorem cl_row (d : Nat) {h : Hp} {e b r : Nat} {S W : List Nat} {ρ : Rho} {es : List Edge} (hb : b ≤ h.length) (hr : h[r]? = some (rowV es)) (hes : es.length ≤ 400) (hS : S.length ≤ 500) (hW : W.length ≤ 500) (I : CI h e S W ρ (ch h S W)) :
    ∃ ρ' X, loopS (some r) (rowV es) (closure_l337 d b) (rowV es) ρ (ch h S W) = some (.next, ρ', ch h (S ++ X) (W ++ X)) ∧ CI h e (S ++ X) (W ++ X) ρ' (ch h (S ++ X) (W ++ X)) ∧ (S.Nodup → (S ++ X).Nodup) ∧ (∀ v ∈ X, (sE, v) ∈ es) ∧ (∀ v, (sE, v) ∈ es → v ∈ S ++ X) := by
  obtain ⟨ρ', h', e1, X, I', _, h2, h3, h4⟩ := loopS_rule (c := some r) (all := rowV es) (f := closure_l337 d b) (fun i ρ h' => ∃ X, CI h e (S ++ X) (W ++ X) ρ h' ∧ X.length ≤ i ∧ (S.Nodup → (S ++ X).Nodup) ∧ (∀ v ∈ X, (sE, v) ∈ es) ∧ (∀ v, (sE, v) ∈ es.take i → v ∈ S ++ X))
    (fun i x ρ h' hx hi => by
      obtain ⟨X, I, hl, h2, h3, h4⟩ := hi
      have hh := I.heap
      subst hh
      unfold rowV at hx
      rw [List.getElem?_map] at hx
      obtain ⟨y, hy, rfl⟩ := Option.map_eq_some_iff.mp hx
      have hlt := (List.getElem?_eq_some_iff.mp hy).1
      obtain ⟨ρ', Y, q1, q2, q3, q4⟩ := cl_edge d y hb (by simp; omega) (by simp; omega) I
      rw [List.append_assoc, List.append_assoc] at q1 q2
      refine ⟨chk_some (get_pre _ hr), ρ', _, .inl q1, X ++ Y, q2, ?_, fun hn => ?_, fun v hv => ?_, fun v hv => ?_⟩
      · rcases q3 with rfl | ⟨rfl, _⟩ <;> simp <;> omega
      · rw [← List.append_assoc]
        rcases q3 with rfl | ⟨rfl, _, q5⟩
        · simpa using h2 hn
        · rw [List.nodup_append]
          refine ⟨h2 hn, by simp, fun a ha c hc => ?_⟩
          simp at hc
          subst hc
          rintro rfl
          exact q5 ha
      · rcases List.mem_append.mp hv with q | q
        · exact h3 v q
        · rcases q3 with rfl | ⟨rfl, q5, _⟩
          · cases q
          · simp at q
            subst q
            rw [← q5]
            exact List.mem_of_getElem? hy
      · rw [List.take_add_one, hy] at hv
        rw [← List.append_assoc]
        rcases List.mem_append.mp hv with q | q
        · exact List.mem_append_left _ (h4 v q)
        · simp at q
          subst q
          exact q4 rfl)
    (fun ρ h' hi => by
      obtain ⟨X, I, _⟩ := hi
      exact chk_some (by rw [I.heap]; exact get_pre _ hr))
    (ρ := ρ) (h := ch h S W) ⟨[], by simpa using I, by simp, by simp, by simp, by simp⟩
  have hh := I'.heap
  subst hh
  refine ⟨ρ', X, e1, I', h2, h3, fun v hv => h4 v ?_⟩
  rw [List.take_of_length_le (by simp [rowV])]
  exact hv

/-- the work list's state after i turns -/
structure Wk (t : List Nat) (E : List (List Edge)) (ns : List Nat) (p i : Nat) (S W : List Nat) : Prop where
  nodup : S.Nodup
  sound : ∀ v ∈ S, v < E.length ∧ ∃ u ∈ ns, Pth t E u p v p
  sub : ∀ v ∈ W, v ∈ S
  start : ∀ v ∈ ns, v ∈ S
  closed : ∀ u ∈ S, u ∈ W ∨ ∀ es, E[u]? = some es → ∀ y, (sE, y) ∈ es → y ∈ S
  count : S.length = i + W.length
theorem closure_spec (d : Nat) {h : Hp} {e a p : Nat} {E : List (List Edge)} {ns : List Nat} {t : List Nat} (hE : EdgeAt h e E) (ha : h[a]? = some (nV ns)) (hns : ∀ v ∈ ns, v < E.length) (hN : E.length ≤ 60) (hc : ∀ (u : Nat) es, E[u]? = some es → es.length ≤ 400 ∧ ∀ x ∈ es, x.2 < E.length) :
    ∃ R r L, (G (d + 2)).fn f_closure [.ref e, .ref a] h = some (.ref r, h ++ L) ∧ (h ++ L)[r]? = some (nV R) ∧ ∀ v, v ∈ R ↔ ∃ u ∈ ns, Pth t E u p v p := by
  rw [closure_eq]
  unfold closure_s
  have h1 : (h ++ [[]]) ++ [[]] = ch h [] [] := by simp [ch, nV]
  have hi : itemsOf (.ref a) (ch h [] []) = some (nV ns, some a) := by simp only [itemsOf, ch, get_pre _ ha, Option.map_some]
  simp only [h1, hi, Option.bind_some]
  -- the states
  obtain ⟨ρ1, h1', e1, S, I, s1, s2, s3⟩ := loopS_rule (c := some a) (all := nV ns) (f := closure_l309 d h.length) (fun i ρ h' => ∃ S, CI h e S S ρ h' ∧ S.Nodup ∧ (∀ v ∈ S, v ∈ ns) ∧ (∀ v ∈ ns.take i, v ∈ S))
    (fun i x ρ h' hx hi => by
      obtain ⟨S, I, s1, s2, s3⟩ := hi
      have hh := I.heap
      subst hh
      unfold nV at hx
      rw [List.getElem?_map] at hx
      obtain ⟨y, hy, rfl⟩ := Option.map_eq_some_iff.mp hx
      have hlt : y < E.length := hns y (List.mem_of_getElem? hy)
      have hl := nodup_lt E.length S s1 fun v hv => hns v (s2 v hv)
      refine ⟨chk_some (get_pre _ ha), ?_⟩
      unfold closure_l309
      simp only [I.seen, I.work, Option.bind_some, c_nin ch_s]
      have fin : ∀ S : List Nat, CI h e S S (upd ρ n_s (.int y)) (ch h S S) := fun S => ⟨by simp only [upd, ne_closure, if_false]; exact I.edges, by simp only [upd, ne_closure, if_false]; exact I.seen, by simp only [upd, ne_closure, if_false]; exact I.work, rfl⟩
      have tk : ∀ v, v ∈ ns.take (i + 1) → v ∈ ns.take i ∨ v = y := fun v hv => by
        rw [List.take_add_one, hy] at hv
        simpa using hv
      by_cases h2 : y ∈ S
      · simp only [h2, decide_true, Bool.not_true, Bool.false_eq_true, if_false]
        refine ⟨_, _, .inl rfl, S, fin S, s1, s2, fun v hv => ?_⟩
        rcases tk v hv with q | rfl
        · exact s3 v q
        · exact h2
      · simp only [h2, decide_false, Bool.not_false, if_true, ch_app y (Nat.le_refl _) (show S.length ≤ 1000 by omega), Option.bind_some, isN, ch_push y (Nat.le_refl _) (show S.length ≤ 1000 by omega)]
        refine ⟨_, _, .inl rfl, S ++ [y], fin _, ?_, fun v hv => ?_, fun v hv => ?_⟩
        · rw [List.nodup_append]
          exact ⟨s1, by simp, fun a ha c hc => by simp at hc; subst hc; rintro rfl; exact h2 ha⟩
        · rcases List.mem_append.mp hv with q | q
          · exact s2 v q
          · simp at q; subst q; exact List.mem_of_getElem? hy
        · rcases tk v hv with q | rfl
          · exact List.mem_append_left _ (s3 v q)
          · simp)
    (fun ρ h' hi => by
      obtain ⟨S, I, _⟩ := hi
      exact chk_some (by rw [I.heap]; exact get_pre _ ha))
    (ρ := upd (upd (fun x => List.lookup x (List.zip [n_edges, n_states] [V.ref e, V.ref a]).reverse) n_seen (V.ref h.length)) n_work (V.ref (h ++ [[]]).length)) (h := ch h [] [])
    ⟨[], ⟨by simp only [upd, ne_closure, if_false]; rfl, by simp only [upd, ne_closure, if_false, if_true], by simp [upd], rfl⟩, by simp, by simp, by simp⟩
  rw [e1]
  have hh := I.heap
  subst hh
  rw [List.take_of_length_le (by simp [nV])] at s3
  have hSl := nodup_lt E.length S s1 fun v hv => hns v (s2 v hv)
  have hlen : callB b_len [.ref e] (ch h S S) = some (.int E.length, ch h S S) := (hE.app _).len
  simp only [Option.bind_some, I.edges, hlen, I.work, ch_len, bi_add]
  have hk : ((E.length : Int) + S.length) = ((E.length + S.length : Nat) : Int) := by omega
  rw [hk, rA1 (by omega)]
  simp only [Option.bind_some]
  -- the work
  obtain ⟨ρ2, h2', e2, S2, I2, w1, w2⟩ := loopS_brk (c := none) (all := rangeV 0 ((E.length + S.length : Nat) : Int)) (f := closure_l324 d h.length)
    (fun i ρ h' => ∃ S2 W2, CI h e S2 W2 ρ h' ∧ Wk t E ns p i S2 W2)
    (fun ρ h' => ∃ S2, CI h e S2 [] ρ h' ∧ S2.length ≤ E.length ∧ ∀ v, v ∈ S2 ↔ ∃ u ∈ ns, Pth t E u p v p)
    (fun _ _ _ _ => rfl)
    (fun i x ρ h' hx hi => by
      obtain ⟨S2, W2, I2, K⟩ := hi
      have hh := I2.heap
      subst hh
      have hl := nodup_lt E.length S2 K.nodup fun v hv => (K.sound v hv).1
      have hcnt := K.count
      unfold closure_l324
      simp only [I2.work, Option.bind_some, ch_len, ci_eq]
      rcases List.eq_nil_or_concat W2 with rfl | ⟨W3, s, rfl⟩
      · simp only [List.length_nil]
        refine ⟨_, _, .inr ⟨rfl, S2, ⟨?_, ?_, ?_, rfl⟩, hl, fun v => ⟨fun hv => (K.sound v hv).2, ?_⟩⟩⟩
        · simp only [upd, ne_closure, if_false]; exact I2.edges
        · simp only [upd, ne_closure, if_false]; exact I2.seen
        · simp only [upd, ne_closure, if_false]; exact I2.work
        · rintro ⟨u, hu, q⟩
          exact pth_closed (fun x hx => (K.closed x hx).resolve_left (by simp)) q rfl (K.start u hu)
      · rw [List.concat_eq_append] at K I2 ⊢
        have hz : (((W3 ++ [s]).length : Int) == 0) = false := by simp; omega
        obtain ⟨hsl, hsr⟩ := K.sound s (K.sub s (by simp))
        have hes : E[s]? = some E[s] := List.getElem?_eq_getElem hsl
        obtain ⟨r, q1, q2⟩ := hE.at hes
        have q1' : idx (.ref e) (.int s) (ch h S2 W3) = some (.ref r) := by
          obtain ⟨rs, a1, a2, a3⟩ := hE.rows
          obtain ⟨r', b1, b2⟩ := a3 s _ hes
          have c1 : idx (.ref e) (.int s) h = some (.ref r') := idx_ref a1 (by omega) (by simp [b1])
          rw [c1] at q1
          cases q1
          exact idx_ref (get_pre _ a1) (by omega) (by simp [b1])
        have hit : itemsOf (.ref r) (ch h S2 W3) = some (rowV E[s], some r) := by simp only [itemsOf, ch, get_pre _ q2, Option.map_some]
        have hw3 : W3.length ≤ 500 := by simp at hcnt; omega
        have CI3 : CI h e S2 W3 (upd (upd ρ n_k x) n_s (.int s)) (ch h S2 W3) := ⟨by simp only [upd, ne_closure, if_false]; exact I2.edges, by simp only [upd, ne_closure, if_false]; exact I2.seen, by simp only [upd, ne_closure, if_false]; exact I2.work, rfl⟩
        obtain ⟨ρ', X, f1, f2, f3, f4, f5⟩ := cl_row d (Nat.le_refl _) q2 (hc s _ hes).1 (by omega) hw3 CI3
        simp only [hz, Bool.false_eq_true, if_false, um1, ch_top, ch_del s (Nat.le_refl _), I2.edges, q1', hit, f1, Option.bind_some]
        refine ⟨ρ', _, .inl ⟨rfl, S2 ++ X, W3 ++ X, f2, f3 K.nodup, fun v hv => ?_, fun v hv => ?_, fun v hv => List.mem_append_left _ (K.start v hv), fun u hu => ?_, ?_⟩⟩
        · rcases List.mem_append.mp hv with q | q
          · exact K.sound v q
          · have hm := f4 v q
            refine ⟨(hc s _ hes).2 _ hm, ?_⟩
            obtain ⟨u, hu, pu⟩ := hsr
            exact ⟨u, hu, pu.trans (.one (est_eps hes hm))⟩
        · rcases List.mem_append.mp hv with q | q
          · exact List.mem_append_left _ (K.sub v (by simp [q]))
          · exact List.mem_append_right _ q
        · rcases List.mem_append.mp hu with q | q
          · rcases K.closed u q with q' | q'
            · rcases List.mem_append.mp q' with q'' | q''
              · exact .inl (List.mem_append_left _ q'')
              · simp at q''
                subst q''
                refine .inr fun es h1 y hy => ?_
                rw [hes] at h1
                cases h1
                exact f5 y hy
            · exact .inr fun es h1 y hy => List.mem_append_left _ (q' es h1 y hy)
          · exact .inl (List.mem_append_right _ q)
        · simp at hcnt ⊢; omega)
    (fun ρ h' hi => by
      obtain ⟨S2, W2, I2, K⟩ := hi
      have hl := nodup_lt E.length S2 K.nodup fun v hv => (K.sound v hv).1
      have hcnt := K.count
      rw [show ((E.length + S.length : Nat) : Int) = 0 + (E.length + S.length : Nat) by omega, range_len] at hcnt
      have hw : W2 = [] := List.length_eq_zero_iff.mp (by omega)
      subst hw
      refine ⟨S2, I2, hl, fun v => ⟨fun hv => (K.sound v hv).2, ?_⟩⟩
      rintro ⟨u, hu, q⟩
      exact pth_closed (fun x hx => (K.closed x hx).resolve_left (by simp)) q rfl (K.start u hu))
    (ρ := ρ1) (h := ch h S S) ⟨S, S, I, s1, fun v hv => ⟨hns v (s2 v hv), v, s2 v hv, .refl ..⟩, fun v hv => hv, s3, fun u hu => .inl hu, by simp⟩
  rw [e2]
  have hh := I2.heap
  subst hh
  obtain ⟨R, r1, r2⟩ := sorted_nV (h := ch h S2 []) ch_s (by omega)
  simp only [Option.bind_some, I2.seen, r1]
  have hch : ch h S2 [] ++ [nV R] = h ++ [nV S2, nV [], nV R] := by simp [ch]
  exact ⟨R, (ch h S2 []).length, [nV S2, nV [], nV R], by rw [hch], by rw [← hch]; exact get_last _ _, fun v => (r2 v).trans (w2 v)⟩
end Mine
end

section
set_option autoImplicit false
set_option maxRecDepth 100000
namespace Mine
open PySem

noncomputable def RdC (E : List (List Edge)) (c u v : Nat) : Prop := ∃ es l, E[u]? = some es ∧ (l, v) ∈ es ∧ (l = ⟨#[c]⟩ ∨ l = sDot)
structure SI (h : Hp) (e c : Nat) (T : List Nat) (ρ : Rho) (h' : Hp) : Prop where
  edges : ρ n_edges = some (.ref e)
  targets : ρ n_targets = some (.ref h.length)
  sign : ρ n_c = some (.str ⟨#[c]⟩)
  heap : h' = h ++ [nV T]
theorem st_app {h : Hp} {T : List Nat} {b : Nat} (x : Nat) (hb : b ≤ h.length) (hl : T.length ≤ 1000) : callM b m_append (.ref h.length) [.int x] (h ++ [nV T]) = some (.none, h ++ [nV (T ++ [x])]) := by
  rw [append_ref _ _ _ (get_last h _) hb (by simp [nV]; omega), nV_app, set_last]
theorem st_edge (d : Nat) {h : Hp} {e b c : Nat} {T : List Nat} {ρ : Rho} (x : Edge) (hb : b ≤ h.length) (hT : T.length ≤ 1000) (I : SI h e c T ρ (h ++ [nV T])) :
    ∃ ρ' X, step_l360 d b (edgeV x) ρ (h ++ [nV T]) = some (.next, ρ', h ++ [nV (T ++ X)]) ∧ SI h e c (T ++ X) ρ' (h ++ [nV (T ++ X)]) ∧ (X = [] ∨ (X = [x.2] ∧ (x.1 = ⟨#[c]⟩ ∨ x.1 = sDot) ∧ x.2 ∉ T)) ∧ ((x.1 = ⟨#[c]⟩ ∨ x.1 = sDot) → x.2 ∈ T ++ X) := by
  unfold step_l360
  simp (implicitDefEqProofs := false) only [ed0, ed1, Option.bind_some, show (V.str ⟨#[46]⟩) = V.str sDot from rfl, cs_eq, I.targets, I.sign, c_nin (get_last h _)]
  have fin : ∀ T : List Nat, SI h e c T (upd ρ n_e (edgeV x)) (h ++ [nV T]) := fun T => ⟨by simp only [upd, ne_step, if_false]; exact I.edges, by simp only [upd, ne_step, if_false]; exact I.targets, by simp only [upd, ne_step, if_false]; exact I.sign, rfl⟩
  have put : (x.1 = ⟨#[c]⟩ ∨ x.1 = sDot) → ∃ ρ' X, (if (!decide (x.2 ∈ T)) then (callM b m_append (.ref h.length) [.int x.2] (h ++ [nV T])).bind fun p371 => if isNoneV p371.1 then some (Fl.next, (upd ρ n_e (edgeV x)), p371.2) else none else some (Fl.next, (upd ρ n_e (edgeV x)), h ++ [nV T])) = some (.next, ρ', h ++ [nV (T ++ X)]) ∧ SI h e c (T ++ X) ρ' (h ++ [nV (T ++ X)]) ∧ (X = [] ∨ (X = [x.2] ∧ (x.1 = ⟨#[c]⟩ ∨ x.1 = sDot) ∧ x.2 ∉ T)) ∧ ((x.1 = ⟨#[c]⟩ ∨ x.1 = sDot) → x.2 ∈ T ++ X) := by
    intro hx
    by_cases h2 : x.2 ∈ T
    · simp only [h2, decide_true, Bool.not_true, Bool.false_eq_true, if_false]
      exact ⟨_, [], by rw [List.append_nil], by rw [List.append_nil]; exact fin T, .inl rfl, fun _ => by simpa using h2⟩
    · simp only [h2, decide_false, Bool.not_false, if_true, st_app x.2 hb hT, Option.bind_some, isN]
      exact ⟨_, [x.2], rfl, fin _, .inr ⟨rfl, hx, id⟩, fun _ => by simp⟩
  by_cases h1 : x.1 = ⟨#[c]⟩
  · have e1 : (x.1 == (⟨#[c]⟩ : Str)) = true := by simpa using h1
    simp only [e1, if_true]
    exact put (.inl h1)
  · have e1 : (x.1 == (⟨#[c]⟩ : Str)) = false := by simpa using h1
    simp only [e1, Bool.false_eq_true, if_false]
    by_cases h2 : x.1 = sDot
    · have e2 : (x.1 == sDot) = true := by simpa using h2
      simp only [e2, if_true]
      exact put (.inr h2)
    · have e2 : (x.1 == sDot) = false := by simpa using h2
      simp only [e2, Bool.false_eq_true, if_false]
      exact ⟨_, [], by rw [List.append_nil], by rw [List.append_nil]; exact fin T, .inl rfl, fun q => absurd q (by simp [h1, h2])⟩
theorem st_row (d : Nat) {h : Hp} {e b c r : Nat} {T : List Nat} {ρ : Rho} {es : List Edge} (hb : b ≤ h.length) (hr : h[r]? = some (rowV es)) (hes : es.length ≤ 400) (hT : T.length ≤ 500) (I : SI h e c T ρ (h ++ [nV T])) :
    ∃ ρ' X, loopS (some r) (rowV es) (step_l360 d b) (rowV es) ρ (h ++ [nV T]) = some (.next, ρ', h ++ [nV (T ++ X)]) ∧ SI h e c (T ++ X) ρ' (h ++ [nV (T ++ X)]) ∧ (T.Nodup → (T ++ X).Nodup) ∧ (∀ v ∈ X, ∃ l, (l, v) ∈ es ∧ (l = ⟨#[c]⟩ ∨ l = sDot)) ∧ (∀ l v, (l, v) ∈ es → (l = ⟨#[c]⟩ ∨ l = sDot) → v ∈ T ++ X) := by
  obtain ⟨ρ', h', e1, X, I', _, h2, h3, h4⟩ := loopS_rule (c := some r) (all := rowV es) (f := step_l360 d b) (fun i ρ h' => ∃ X, SI h e c (T ++ X) ρ h' ∧ X.length ≤ i ∧ (T.Nodup → (T ++ X).Nodup) ∧ (∀ v ∈ X, ∃ l, (l, v) ∈ es ∧ (l = ⟨#[c]⟩ ∨ l = sDot)) ∧ (∀ l v, (l, v) ∈ es.take i → (l = ⟨#[c]⟩ ∨ l = sDot) → v ∈ T ++ X))
    (fun i x ρ h' hx hi => by
      obtain ⟨X, I, hl, h2, h3, h4⟩ := hi
      have hh := I.heap
      subst hh
      unfold rowV at hx
      rw [List.getElem?_map] at hx
      obtain ⟨y, hy, rfl⟩ := Option.map_eq_some_iff.mp hx
      have hlt := (List.getElem?_eq_some_iff.mp hy).1
      obtain ⟨ρ', Y, q1, q2, q3, q4⟩ := st_edge d y hb (by simp; omega) I
      rw [List.append_assoc] at q1 q2
      refine ⟨chk_some (get_pre _ hr), ρ', _, .inl q1, X ++ Y, q2, ?_, fun hn => ?_, fun v hv => ?_, fun l v hv hq => ?_⟩
      · rcases q3 with rfl | ⟨rfl, _⟩ <;> simp <;> omega
      · rw [← List.append_assoc]
        rcases q3 with rfl | ⟨rfl, _, q5⟩
        · simpa using h2 hn
        · rw [List.nodup_append]
          refine ⟨h2 hn, by simp, fun a ha c hc => ?_⟩
          simp at hc
          subst hc
          rintro rfl
          exact q5 ha
      · rcases List.mem_append.mp hv with q | q
        · exact h3 v q
        · rcases q3 with rfl | ⟨rfl, q5, _⟩
          · cases q
          · simp at q
            subst q
            exact ⟨y.1, List.mem_of_getElem? hy, q5⟩
      · rw [List.take_add_one, hy] at hv
        rw [← List.append_assoc]
        rcases List.mem_append.mp hv with q | q
        · exact List.mem_append_left _ (h4 l v q hq)
        · simp at q
          subst q
          exact q4 hq)
    (fun ρ h' hi => by
      obtain ⟨X, I, _⟩ := hi
      exact chk_some (by rw [I.heap]; exact get_pre _ hr))
    (ρ := ρ) (h := h ++ [nV T]) ⟨[], by simpa using I, by simp, by simp, by simp, by simp⟩
  have hh := I'.heap
  subst hh
  refine ⟨ρ', X, e1, I', h2, h3, fun l v hv => h4 l v ?_⟩
  rw [List.take_of_length_le (by simp [rowV])]
  exact hv
theorem EdgeAt.both {h : Hp} {e : Nat} {E : List (List Edge)} (x : EdgeAt h e E) {u : Nat} {es : List Edge} (hu : E[u]? = some es) : ∃ r, h[r]? = some (rowV es) ∧ ∀ L, idx (.ref e) (.int u) (h ++ L) = some (.ref r) := by
  obtain ⟨rs, h1, h2, h3⟩ := x.rows
  obtain ⟨r, q1, q2⟩ := h3 u es hu
  exact ⟨r, q2, fun L => idx_ref (get_pre L h1) (by omega) (by simp [q1])⟩
theorem step_spec (d : Nat) {h : Hp} {e a c : Nat} {E : List (List Edge)} {ns : List Nat} (hE : EdgeAt h e E) (ha : h[a]? = some (nV ns)) (hns : ∀ v ∈ ns, v < E.length) (hN : E.length ≤ 60) (hc : ∀ (u : Nat) es, E[u]? = some es → es.length ≤ 400 ∧ ∀ x ∈ es, x.2 < E.length) :
    ∃ R r L, (G (d + 2)).fn f_step [.ref e, .ref a, .str ⟨#[c]⟩] h = some (.ref r, h ++ L) ∧ (h ++ L)[r]? = some (nV R) ∧ ∀ v, v ∈ R ↔ ∃ u ∈ ns, RdC E c u v := by
  rw [step_eq]
  unfold step_s
  have hi : itemsOf (.ref a) (h ++ [[]]) = some (nV ns, some a) := by simp only [itemsOf, get_pre _ ha, Option.map_some]
  simp only [hi, Option.bind_some]
  obtain ⟨ρ1, h1', e1, T, I, s1, s2, s3⟩ := loopS_rule (c := some a) (all := nV ns) (f := step_l356 d h.length) (fun i ρ h' => ∃ T, SI h e c T ρ h' ∧ T.Nodup ∧ (∀ v ∈ T, v < E.length ∧ ∃ u ∈ ns, RdC E c u v) ∧ (∀ u ∈ ns.take i, ∀ v, RdC E c u v → v ∈ T))
    (fun i x ρ h' hx hi => by
      obtain ⟨T, I, s1, s2, s3⟩ := hi
      have hh := I.heap
      subst hh
      unfold nV at hx
      rw [List.getElem?_map] at hx
      obtain ⟨y, hy, rfl⟩ := Option.map_eq_some_iff.mp hx
      have hym := List.mem_of_getElem? hy
      have hyl := hns y hym
      have hes : E[y]? = some E[y] := List.getElem?_eq_getElem hyl
      have hl := nodup_lt E.length T s1 fun v hv => (s2 v hv).1
      obtain ⟨r, q1, q2⟩ := hE.both hes
      have hit : itemsOf (.ref r) (h ++ [nV T]) = some (rowV E[y], some r) := by simp only [itemsOf, get_pre _ q1, Option.map_some]
      have I2 : SI h e c T (upd ρ n_s (.int y)) (h ++ [nV T]) := ⟨by simp only [upd, ne_step, if_false]; exact I.edges, by simp only [upd, ne_step, if_false]; exact I.targets, by simp only [upd, ne_step, if_false]; exact I.sign, rfl⟩
      obtain ⟨ρ', X, f1, f2, f3, f4, f5⟩ := st_row d (Nat.le_refl _) q1 (hc y _ hes).1 (by omega) I2
      refine ⟨chk_some (get_pre _ ha), ρ', h ++ [nV (T ++ X)], .inl ?_, T ++ X, f2, f3 s1, fun v hv => ?_, fun u hu v hv => ?_⟩
      · unfold step_l356
        simp only [I.edges, Option.bind_some, q2, hit, f1]
      · rcases List.mem_append.mp hv with q | q
        · exact s2 v q
        · obtain ⟨l, m1, m2⟩ := f4 v q
          exact ⟨(hc y _ hes).2 _ m1, y, hym, _, l, hes, m1, m2⟩
      · rw [List.take_add_one, hy] at hu
        rcases List.mem_append.mp hu with q | q
        · exact List.mem_append_left _ (s3 u q v hv)
        · simp at q
          subst q
          obtain ⟨es, l, m1, m2, m3⟩ := hv
          rw [hes] at m1
          cases m1
          exact f5 l v m2 m3)
    (fun ρ h' hi => by
      obtain ⟨X, I, _⟩ := hi
      exact chk_some (by rw [I.heap]; exact get_pre _ ha))
    (ρ := upd (fun x => List.lookup x (List.zip [n_edges, n_states, n_c] [V.ref e, V.ref a, V.str ⟨#[c]⟩]).reverse) n_targets (V.ref h.length)) (h := h ++ [[]])
    ⟨[], ⟨by simp only [upd, ne_step, if_false]; rfl, by simp [upd], by simp only [upd, ne_step, if_false]; rfl, rfl⟩, by simp, by simp, by simp⟩
  rw [e1]
  have hh := I.heap
  subst hh
  rw [List.take_of_length_le (by simp [nV])] at s3
  have hl := nodup_lt E.length T s1 fun v hv => (s2 v hv).1
  obtain ⟨R, r1, r2⟩ := sorted_nV (h := h ++ [nV T]) (get_last h _) (by omega)
  simp only [Option.bind_some, I.targets, r1]
  refine ⟨R, (h ++ [nV T]).length, [nV T, nV R], by simp, by rw [show h ++ [nV T, nV R] = (h ++ [nV T]) ++ [nV R] by simp]; exact get_last _ _, fun v => (r2 v).trans ⟨fun hv => (s2 v hv).2, ?_⟩⟩
  rintro ⟨u, hu, q⟩
  exact s3 u hu v q

/-- the set machine -/
theorem nfa_spec (d : Nat) {h : Hp} {e s a : Nat} {E : List (List Edge)} {t : List Nat} (hE : EdgeAt h e E) (hs : s < E.length) (hN : E.length ≤ 60) (hc : ∀ (u : Nat) es, E[u]? = some es → es.length ≤ 400 ∧ ∀ x ∈ es, x.2 < E.length) {r : Bool} (hr : Pth t E s 0 a t.length ↔ r = true) :
    ∃ L, (G (d + 3)).fn f_nfa_accepts [.tup [.int s, .int a, .ref e], .str (S t)] h = some (.bool r, h ++ L) := by
  rw [nfa_accepts_eq]
  unfold nfa_accepts_s
  have reach : ∀ {i v : Nat}, Pth t E s 0 v i → v < E.length := fun {i v} p => by
    have key := Pth.back (t := t) (E := E) (a := v) (Ok := fun x _ _ => x < E.length → v < E.length) (fun _ h => h) (fun x i x' i' j q ih hx => by
      obtain ⟨es, l, q1, q2, _⟩ := q
      exact ih ((hc x es q1).2 _ q2)) p
    exact key hs
  have i0 : idx (V.tup [.int s, .int a, .ref e]) (.int 2) h = some (.ref e) := rfl
  have i1 : idx (V.tup [.int s, .int a, .ref e]) (.int 0) h = some (.int s) := rfl
  obtain ⟨R, r1, L, c1, c2, c3⟩ := closure_spec d (p := 0) (t := t) (hE.app [[V.int s]]) (ns := [s]) (get_last h _) (fun v hv => by simp at hv; subst hv; exact hs) hN hc
  simp only [i0, i1, Option.bind_some, show d + 1 + 1 = d + 2 from rfl, c1]
  have hit : ∀ h : Hp, itemsOf (.str (S t)) h = some (t.map fun c => V.str ⟨#[c]⟩, none) := fun _ => rfl
  simp only [hit, Option.bind_some]
  obtain ⟨ρ1, h1', e1, R', rr, L', J1, J2, J3, J4, J5⟩ := loopS_rule (c := none) (all := t.map fun c => V.str ⟨#[c]⟩) (f := nfa_accepts_l388 (d + 1) h.length) (fun i ρ h' => ∃ R r L, ρ n_nfa = some (V.tup [.int s, .int a, .ref e]) ∧ ρ n_edges = some (.ref e) ∧ ρ n_current = some (.ref r) ∧ (h' = h ++ L ∧ h'[r]? = some (nV R)) ∧ ∀ v, v ∈ R ↔ Pth t E s 0 v i)
    (fun i x ρ h' hx hi => by
      obtain ⟨R, r, L, j1, j2, j3, ⟨rfl, j4⟩, j5⟩ := hi
      rw [List.getElem?_map] at hx
      obtain ⟨c, hcc, rfl⟩ := Option.map_eq_some_iff.mp hx
      obtain ⟨R1, r1, L1, k1, k2, k3⟩ := step_spec d (c := c) (hE.app L) j4 (fun v hv => reach ((j5 v).mp hv)) hN hc
      have rd : ∀ {u v : Nat}, RdC E c u v ↔ Rds t E u i v := fun {u v} => ⟨fun ⟨es, l, q1, q2, q3⟩ => ⟨es, l, c, q1, q2, hcc, q3⟩, fun ⟨es, l, c', q1, q2, q3, q4⟩ => by
        rw [hcc] at q3; cases q3; exact ⟨es, l, q1, q2, q4⟩⟩
      obtain ⟨R2, r2, L2, m1, m2, m3⟩ := closure_spec d (p := i + 1) (t := t) ((hE.app L).app L1) k2 (fun v hv => by
        obtain ⟨u, hu, q⟩ := (k3 v).mp hv
        obtain ⟨es, l, q1, q2, _⟩ := q
        exact (hc u es q1).2 _ q2) hN hc
      refine ⟨rfl, upd (upd ρ n_c (V.str ⟨#[c]⟩)) n_current (.ref r2), h ++ L ++ L1 ++ L2, .inl ?_, R2, r2, L ++ L1 ++ L2, ?_, ?_, ?_, ⟨by simp, m2⟩, fun v => (m3 v).trans ?_⟩
      · unfold nfa_accepts_l388
        simp only [j2, j3, Option.bind_some, show d + 1 + 1 = d + 2 from rfl, k1, m1]
      · simp only [upd, ne_nfa_accepts, if_false]; exact j1
      · simp only [upd, ne_nfa_accepts, if_false]; exact j2
      · simp [upd]
      · rw [pth_next]
        constructor
        · rintro ⟨w, hw, q⟩
          obtain ⟨u, hu, q2⟩ := (k3 w).mp hw
          exact ⟨w, ⟨u, (j5 u).mp hu, rd.mp q2⟩, q⟩
        · rintro ⟨w, ⟨u, hu, q2⟩, q⟩
          exact ⟨w, (k3 w).mpr ⟨u, (j5 u).mpr hu, rd.mpr q2⟩, q⟩)
    (fun _ _ _ => rfl)
    (ρ := upd (upd (fun x => List.lookup x (List.zip [n_nfa, n_text] [V.tup [.int s, .int a, .ref e], V.str (S t)]).reverse) n_edges (V.ref e)) n_current (V.ref r1)) (h := h ++ [[V.int s]] ++ L)
    ⟨R, r1, [[V.int s]] ++ L, by simp only [upd, ne_nfa_accepts, if_false]; rfl, by simp only [upd, ne_nfa_accepts, if_false, if_true], by simp [upd], ⟨by simp, c2⟩, fun v => (c3 v).trans ⟨fun ⟨u, hu, q⟩ => by simp at hu; subst hu; exact q, fun q => ⟨s, by simp, q⟩⟩⟩
  rw [e1]
  obtain ⟨J4, J6⟩ := J4
  rw [List.length_map] at J5
  have i2 : idx (V.tup [.int s, .int a, .ref e]) (.int 1) h1' = some (.int a) := rfl
  simp only [Option.bind_some, J1, J3, i2, c_in J6]
  have : decide (a ∈ R') = r := by
    rw [Bool.eq_iff_iff, decide_eq_true_eq, J5 a]
    exact hr
  rw [this, J4]
  exact ⟨L', rfl⟩
end Mine
end

section
set_option autoImplicit false
namespace Mine
open PySem

theorem blank_spec (d : Nat) {m : Nat} (hm : m ≤ 1000) (h : Hp) : (G (d + 2)).fn f_blank_table [.int m] h = some (.ref h.length, tabAt h (mat (m + 1) fun _ _ => false)) := by
  rw [blank_table_eq]
  unfold blank_table_s
  simp only [bi_add, Option.bind_some]
  have e : (m : Int) + 1 = ((m + 1 : Nat) : Int) := by omega
  simp only [e]
  rw [rA1 (by omega)]
  simp only [Option.bind_some]
  have hl : (rangeV 0 ((m + 1 : Nat) : Int)).length = m + 1 := by simp [rangeV]
  rw [tabAt_nil, loopL_tab (row := fun _ => (List.range (m + 1)).map fun _ => false) (fun _ => rfl) _ [] (fun y hy M hM => by
    rw [loopL_app (v := fun _ => V.bool false) _ [] (fun y hy xs hx => appendTo_last _ (by omega)) (by rw [hl]; simp; omega)]
    simp only [Option.bind_some, List.nil_append]
    have : (rangeV 0 ((m + 1 : Nat) : Int)).map (fun _ => V.bool false) = ((List.range (m + 1)).map fun _ => false).map V.bool := by
      simp [rangeV, Function.comp_def]
    rw [this]
    exact tabAt_app _ _ _ (by omega)) (by rw [hl]; simp; omega)]
  simp [rangeV, mat, Function.comp_def]

theorem tc_j (d b : Nat) {h0 : Hp} (hb : b ≤ h0.length) {n : Nat} (hn : n ≤ 1000) {bb lob : Nat} {B : Nat → Nat → Bool} (hB : IsTab h0 lob bb (mat n B)) {i k : Nat} (hi : i < n) (hk : k < n) {f : Nat → Nat → Bool} {ρ : Rho}
    (h1 : ρ n_b = some (.ref bb)) (h2 : ρ n_k = some (.int k)) (h3 : ρ n_i = some (.int i)) (h4 : ρ n_table = some (.ref h0.length)) :
    ∃ ρ' h', loopS none (rangeV 0 n) (table_cat_l54 d b) (rangeV 0 n) ρ (tabAt h0 (mat n f)) = some (.next, ρ', h') ∧ (∃ g, h' = tabAt h0 (mat n g) ∧ ∀ i', i' < n → ∀ j', j' < n → g i' j' = (f i' j' || (decide (i' = i) && B k j'))) ∧ ∀ x, x ≠ n_j → ρ' x = ρ x := by
  obtain ⟨ρ1, h1', q1, ⟨g, rfl, hg⟩, fr⟩ := loop_range (n := n) (f := table_cat_l54 d b) (fun J ρ' h' => (∃ g, h' = tabAt h0 (mat n g) ∧ ∀ i', i' < n → ∀ j', j' < n → g i' j' = (f i' j' || (decide (i' = i) && decide (j' < J) && B k j'))) ∧ ∀ x, x ≠ n_j → ρ' x = ρ x) (fun J hJ ρ' h' I => by
      obtain ⟨⟨g, rfl, hg⟩, fr⟩ := I
      obtain ⟨r, _, e1, e2⟩ := (show IsTab (tabAt h0 (mat n g)) lob bb (mat n B) from hB.app _).cell hk hJ
      obtain ⟨s1, s2⟩ := tab_set (b := b) h0 g true hi hJ hb
      unfold table_cat_l54
      simp only [fr n_b (by decide), fr n_k (by decide), fr n_i (by decide), fr n_table (by decide), h1, h2, h3, h4, Option.bind_some, e1, e2, truth_bool]
      cases hv : B k J
      · refine ⟨_, _, rfl, ⟨g, rfl, fun i' hi' j' hj' => ?_⟩, fun x hx => by simp only [upd, hx, if_false]; exact fr x hx⟩
        rw [hg i' hi' j' hj']
        by_cases hjJ : j' = J
        · subst hjJ; simp [hv]
        · have : decide (j' < J + 1) = decide (j' < J) := by simp; omega
          rw [this]
      · simp only [if_true, s1, Option.bind_some, s2]
        refine ⟨_, _, rfl, ⟨_, rfl, fun i' hi' j' hj' => ?_⟩, fun x hx => by simp only [upd, hx, if_false]; exact fr x hx⟩
        unfold updM
        by_cases hc : i' = i ∧ j' = J
        · obtain ⟨rfl, rfl⟩ := hc
          simp [hv]
        · rw [if_neg hc, hg i' hi' j' hj']
          by_cases hii : i' = i
          · have hjJ : j' ≠ J := fun e => hc ⟨hii, e⟩
            have : decide (j' < J + 1) = decide (j' < J) := by simp; omega
            rw [this]
          · simp [hii])
    (ρ := ρ) (h := tabAt h0 (mat n f)) ⟨⟨f, rfl, fun i' hi' j' hj' => by simp⟩, fun _ _ => rfl⟩
  refine ⟨ρ1, _, q1, ⟨g, rfl, fun i' hi' j' hj' => ?_⟩, fr⟩
  rw [hg i' hi' j' hj']
  simp [hj']
theorem any_succ (n : Nat) (p : Nat → Bool) : (List.range (n + 1)).any p = ((List.range n).any p || p n) := by simp [List.range_succ]
theorem tc_k (d b : Nat) {h0 : Hp} (hb : b ≤ h0.length) {n : Nat} (hn : n ≤ 1000) {aa loa bb lob : Nat} {A B : Nat → Nat → Bool} (hA : IsTab h0 loa aa (mat n A)) (hB : IsTab h0 lob bb (mat n B)) {i : Nat} (hi : i < n) {f : Nat → Nat → Bool} {ρ : Rho}
    (h0' : ρ n_a = some (.ref aa)) (h1 : ρ n_b = some (.ref bb)) (h3 : ρ n_i = some (.int i)) (h4 : ρ n_table = some (.ref h0.length)) (h5 : ρ n_size = some (.int n)) :
    ∃ ρ' h', loopS none (rangeV 0 n) (table_cat_l46 d b) (rangeV 0 n) ρ (tabAt h0 (mat n f)) = some (.next, ρ', h') ∧ (∃ g, h' = tabAt h0 (mat n g) ∧ ∀ i', i' < n → ∀ j', j' < n → g i' j' = (f i' j' || (decide (i' = i) && (List.range n).any fun k => A i k && B k j'))) ∧ ∀ x, x ≠ n_j → x ≠ n_k → ρ' x = ρ x := by
  exact loop_range (n := n) (f := table_cat_l46 d b) (fun K ρ' h' => (∃ g, h' = tabAt h0 (mat n g) ∧ ∀ i', i' < n → ∀ j', j' < n → g i' j' = (f i' j' || (decide (i' = i) && (List.range K).any fun k => A i k && B k j'))) ∧ ∀ x, x ≠ n_j → x ≠ n_k → ρ' x = ρ x) (fun K hK ρ' h' I => by
      obtain ⟨⟨g, rfl, hg⟩, fr⟩ := I
      obtain ⟨r, _, e1, e2⟩ := (show IsTab (tabAt h0 (mat n g)) loa aa (mat n A) from hA.app _).cell hi hK
      unfold table_cat_l46
      simp only [fr n_a (by decide) (by decide), fr n_i (by decide) (by decide), fr n_size (by decide) (by decide), h0', h3, h5, Option.bind_some, e1, e2, truth_bool]
      cases hv : A i K
      · refine ⟨_, _, rfl, ⟨g, rfl, fun i' hi' j' hj' => ?_⟩, fun x hx hx2 => by simp only [upd, hx2, if_false]; exact fr x hx hx2⟩
        rw [hg i' hi' j' hj', any_succ, hv]
        simp
      · simp only [if_true]
        rw [rA1 (by omega)]
        simp only [Option.bind_some]
        obtain ⟨ρ2, h2, q2, ⟨g2, rfl, hg2⟩, fr2⟩ := tc_j d b hb hn hB hi hK (f := g) (ρ := upd ρ' n_k (.int K)) (by simp only [upd, ne_table_cat, if_false]; rw [fr n_b (by decide) (by decide)]; exact h1) (by simp only [upd, if_true]) (by simp only [upd, ne_table_cat, if_false]; rw [fr n_i (by decide) (by decide)]; exact h3) (by simp only [upd, ne_table_cat, if_false]; rw [fr n_table (by decide) (by decide)]; exact h4)
        rw [q2]
        simp only [Option.bind_some]
        refine ⟨_, _, rfl, ⟨g2, rfl, fun i' hi' j' hj' => ?_⟩, fun x hx hx2 => by rw [fr2 x hx]; simp only [upd, hx2, if_false]; exact fr x hx hx2⟩
        rw [hg2 i' hi' j' hj', hg i' hi' j' hj', any_succ, hv]
        cases f i' j' <;> cases decide (i' = i) <;> simp)
    (ρ := ρ) (h := tabAt h0 (mat n f)) ⟨⟨f, rfl, fun i' hi' j' hj' => by simp⟩, fun _ _ _ => rfl⟩
theorem cat_spec (d : Nat) {h : Hp} {n : Nat} (hn : n ≤ 1000) (hn1 : 1 ≤ n) {aa loa bb lob : Nat} {A B : Nat → Nat → Bool} (hA : IsTab h loa aa (mat n A)) (hB : IsTab h lob bb (mat n B)) :
    (G (d + 3)).fn f_table_cat [.ref aa, .ref bb] h = some (.ref h.length, tabAt h (mat n (mcat n A B))) := by
  rw [show d + 3 = (d + 1) + 2 from rfl, table_cat_eq]
  unfold table_cat_s
  rw [hA.len, mat_len]
  simp only [Option.bind_some, bi_sub]
  rw [show (n : Int) - 1 = ((n - 1 : Nat) : Int) by omega, blank_spec d (by omega), show n - 1 + 1 = n by omega]
  simp only [Option.bind_some]
  rw [rA1 (by omega)]
  simp only [Option.bind_some]
  obtain ⟨ρ1, h1, q1, ⟨g, rfl, hg⟩, h4, _⟩ := loop_range (n := n) (f := table_cat_l43 (d + 1) h.length) (fun I ρ' h' => (∃ g, h' = tabAt h (mat n g) ∧ ∀ i', i' < n → ∀ j', j' < n → g i' j' = (decide (i' < I) && mcat n A B i' j')) ∧ ρ' n_table = some (.ref h.length) ∧ ρ' n_a = some (.ref aa) ∧ ρ' n_b = some (.ref bb) ∧ ρ' n_size = some (.int n)) (fun i hi ρ' h' I => by
      obtain ⟨⟨g, rfl, hg⟩, i1, i2, i3, i4⟩ := I
      unfold table_cat_l43
      simp only [i4, Option.bind_some]
      rw [rA1 (by omega)]
      simp only [Option.bind_some]
      obtain ⟨ρ2, h2, q2, ⟨g2, rfl, hg2⟩, fr2⟩ := tc_k (d + 1) h.length (Nat.le_refl _) hn hA hB hi (f := g) (ρ := upd ρ' n_i (.int i)) (by simp only [upd, ne_table_cat, if_false]; exact i2) (by simp only [upd, ne_table_cat, if_false]; exact i3) (by simp only [upd, if_true]) (by simp only [upd, ne_table_cat, if_false]; exact i1) (by simp only [upd, ne_table_cat, if_false]; exact i4)
      rw [q2]
      simp only [Option.bind_some]
      refine ⟨_, _, rfl, ⟨g2, rfl, fun i' hi' j' hj' => ?_⟩, ?_, ?_, ?_, ?_⟩
      · rw [hg2 i' hi' j' hj', hg i' hi' j' hj']
        by_cases hii : i' = i
        · subst hii; simp [mcat]
        · have : decide (i' < i + 1) = decide (i' < i) := by simp; omega
          simp [hii, this]
      · rw [fr2 _ (by decide) (by decide)]; simp only [upd, ne_table_cat, if_false]; exact i1
      · rw [fr2 _ (by decide) (by decide)]; simp only [upd, ne_table_cat, if_false]; exact i2
      · rw [fr2 _ (by decide) (by decide)]; simp only [upd, ne_table_cat, if_false]; exact i3
      · rw [fr2 _ (by decide) (by decide)]; simp only [upd, ne_table_cat, if_false]; exact i4)
    (ρ := upd (upd (fun x => List.lookup x (List.zip [n_a, n_b] [V.ref aa, V.ref bb]).reverse) n_size (.int n)) n_table (V.ref h.length)) (h := tabAt h (mat n fun _ _ => false))
    ⟨⟨_, rfl, fun i' hi' j' hj' => by simp⟩, by simp only [upd, if_true], by simp only [upd, ne_table_cat, if_false]; rfl, by simp only [upd, ne_table_cat, if_false]; rfl, by simp only [upd, ne_table_cat, if_false, if_true]⟩
  rw [q1]
  simp only [Option.bind_some, h4]
  rw [mat_ext (g := mcat n A B) fun i hi j hj => by rw [hg i hi j hj]; simp [hi]]
end Mine
end

section
set_option autoImplicit false
set_option maxRecDepth 100000
namespace Mine
open PySem

/-- a new table behind h -/
noncomputable def Out (r : Option (V × Hp)) (h : Hp) (n : Nat) (f : Bf) : Prop := ∃ a L, r = some (.ref a, h ++ L) ∧ IsTab (h ++ L) h.length a (mat n f)
theorem Out.tab {r : Option (V × Hp)} {h : Hp} {n : Nat} {f : Bf} (e : r = some (.ref h.length, tabAt h (mat n f))) : Out r h n f :=
  ⟨h.length, _, e, tabAt_is h (mat n f)⟩
theorem cat_out (d : Nat) {h : Hp} {n : Nat} (hn : n ≤ 1000) (hn1 : 1 ≤ n) {aa loa bb lob : Nat} {A B : Bf} (hA : IsTab h loa aa (mat n A)) (hB : IsTab h lob bb (mat n B)) : Out ((G (d + 3)).fn f_table_cat [.ref aa, .ref bb] h) h n (mcat n A B) := .tab (cat_spec d hn hn1 hA hB)

theorem rangeV_mem {n : Nat} {y : V} (h : y ∈ rangeV 0 (n : Nat)) : ∃ i : Nat, i < n ∧ y = .int i := by
  simp only [rangeV, List.mem_map, List.mem_range] at h
  obtain ⟨i, hi, rfl⟩ := h
  exact ⟨i, by omega, by simp⟩
noncomputable def vN : V → Nat
  | .int i => i.toNat
  | _ => 0
theorem alt_out (d : Nat) {h : Hp} {n : Nat} (hn : n ≤ 1000) {aa loa bb lob : Nat} {A B : Bf} (hA : IsTab h loa aa (mat n A)) (hB : IsTab h lob bb (mat n B)) : Out ((G (d + 2)).fn f_table_alt [.ref aa, .ref bb] h) h n (malt A B) := by
  refine .tab ?_
  rw [table_alt_eq]
  unfold table_alt_s
  rw [hA.len, mat_len]
  simp only [Option.bind_some]
  rw [rA1 (by omega)]
  simp only [Option.bind_some]
  have hl : (rangeV 0 (n : Int)).length = n := by simp [rangeV]
  rw [tabAt_nil, loopL_tab (row := fun y => (List.range n).map fun j => malt A B (vN y) j) (fun _ => rfl) _ [] (fun y hy M hM => by
    obtain ⟨i, hi, rfl⟩ := rangeV_mem hy
    have hA' : ∀ L, IsTab (tabAt h M ++ L) loa aa (mat n A) := fun L => by
      have : tabAt h M ++ L = h ++ ((((List.range M.length).map fun i => V.ref (h.length + 1 + i)) :: M.map fun row => row.map V.bool) ++ L) := by simp [tabAt]
      rw [this]; exact hA.app _
    have hB' : ∀ L, IsTab (tabAt h M ++ L) lob bb (mat n B) := fun L => by
      have : tabAt h M ++ L = h ++ ((((List.range M.length).map fun i => V.ref (h.length + 1 + i)) :: M.map fun row => row.map V.bool) ++ L) := by simp [tabAt]
      rw [this]; exact hB.app _
    have hA0 : IsTab (tabAt h M) loa aa (mat n A) := by have := hA' []; rwa [List.append_nil] at this
    rw [hA0.len, mat_len]
    simp only [Option.bind_some]
    rw [rA1 (by omega)]
    simp only [Option.bind_some]
    rw [loopL_app (v := fun z => V.bool (malt A B i (vN z))) _ [] (fun z hz xs hx => by
      obtain ⟨j, hj, rfl⟩ := rangeV_mem hz
      obtain ⟨r, _, e1, e2⟩ := (hA' [xs]).cell hi hj
      obtain ⟨r', _, e3, e4⟩ := (hB' [xs]).cell hi hj
      simp only [e1, e2, Option.bind_some, truth_bool]
      cases ha : A i j
      · simp only [Bool.false_eq_true, if_false, e3, e4, Option.bind_some]
        rw [appendTo_last _ (by omega)]
        have : malt A B i (vN (.int j)) = B i j := by show (A i j || B i j) = _; rw [ha]; rfl
        rw [this]
      · simp only [if_true]
        rw [appendTo_last _ (by omega)]
        have : malt A B i (vN (.int j)) = true := by show (A i j || B i j) = _; rw [ha]; rfl
        rw [this]) (by rw [hl]; simp; omega)]
    simp only [Option.bind_some, List.nil_append]
    have : (rangeV 0 (n : Int)).map (fun z => V.bool (malt A B i (vN z))) = ((List.range n).map fun j => malt A B (vN (.int i)) j).map V.bool := by
      simp only [rangeV, List.map_map]
      rw [show ((n : Int) - 0).toNat = n by omega]
      apply List.map_congr_left
      intro j _
      simp [vN]
    rw [this]
    exact tabAt_app _ _ _ (by omega)) (by rw [hl]; simp; omega)]
  simp only [Option.bind_some, List.nil_append]
  congr 3
  unfold mat rangeV
  rw [show ((n : Int) - 0).toNat = n by omega, List.map_map]
  apply List.map_congr_left
  intro i _
  simp [vN]

noncomputable def K8.isEps : K8 → Bool | .eps => true | _ => false
theorem q_eps (k : K8) (h : Hp) : cmpop .Eq (.str k.kind) (V.str ⟨#[101, 112, 115]⟩) h = some k.isEps := by cases k <;> kernel_rfl
/-- what a leaf reads -/
noncomputable def leafF (t : List Nat) : K8 → Bf
  | .chr s => mchr t s
  | .any => mdot t
  | _ => meps (t.length + 1)
theorem sign_out (d : Nat) {h : Hp} {t : List Nat} (k : K8) (hk : k.isLeaf = true) (ht : t.length ≤ 100) : Out ((G (d + 3)).fn f_table_of_sign [.str k.kind, .str k.sign, .str (S t)] h) h (t.length + 1) (leafF t k) := by
  refine .tab ?_
  rw [show d + 3 = (d + 1) + 2 from rfl, table_of_sign_eq]
  unfold table_of_sign_s
  rw [len_str, S_len]
  simp only [Option.bind_some]
  rw [show d + 1 + 1 = d + 2 from rfl, blank_spec d (by omega)]
  simp only [Option.bind_some, bi_add, cast1]
  rw [rA1 (by omega)]
  simp only [Option.bind_some]
  obtain ⟨ρ1, h1, q1, ⟨g, rfl, hg⟩, h4, _⟩ := loop_range (n := t.length + 1) (f := table_of_sign_l14 (d + 1) h.length) (fun I ρ' h' => (∃ g, h' = tabAt h (mat (t.length + 1) g) ∧ ∀ i', i' < t.length + 1 → ∀ j', j' < t.length + 1 → g i' j' = (decide (i' < I) && leafF t k i' j')) ∧ ρ' n_table = some (.ref h.length) ∧ ρ' n_kind = some (.str k.kind) ∧ ρ' n_c = some (.str k.sign) ∧ ρ' n_text = some (.str (S t)) ∧ ρ' n_n = some (.int t.length)) (fun i hi ρ' h' I => by
      obtain ⟨⟨g, rfl, hg⟩, i1, i2, i3, i4, i5⟩ := I
      have fin : ∀ g' : Bf, (∀ i', i' < t.length + 1 → ∀ j', j' < t.length + 1 → g' i' j' = if i' = i then leafF t k i' j' else g i' j') → ∃ ρ'' h'', some (Fl.next, upd ρ' n_i (V.int i), tabAt h (mat (t.length + 1) g')) = some (.next, ρ'', h'') ∧ ((∃ g, h'' = tabAt h (mat (t.length + 1) g) ∧ ∀ i', i' < t.length + 1 → ∀ j', j' < t.length + 1 → g i' j' = (decide (i' < i + 1) && leafF t k i' j')) ∧ ρ'' n_table = some (.ref h.length) ∧ ρ'' n_kind = some (.str k.kind) ∧ ρ'' n_c = some (.str k.sign) ∧ ρ'' n_text = some (.str (S t)) ∧ ρ'' n_n = some (.int t.length)) := fun g' hg' => by
        refine ⟨_, _, rfl, ⟨g', rfl, fun i' hi' j' hj' => ?_⟩, ?_, ?_, ?_, ?_, ?_⟩
        · rw [hg' i' hi' j' hj']
          by_cases e : i' = i
          · subst e; simp
          · rw [if_neg e, hg i' hi' j' hj']
            have : decide (i' < i + 1) = decide (i' < i) := by simp; omega
            rw [this]
        · simp only [upd, ne_table_of_sign, if_false]; exact i1
        · simp only [upd, ne_table_of_sign, if_false]; exact i2
        · simp only [upd, ne_table_of_sign, if_false]; exact i3
        · simp only [upd, ne_table_of_sign, if_false]; exact i4
        · simp only [upd, ne_table_of_sign, if_false]; exact i5
      have row0 : ∀ j', j' < t.length + 1 → g i j' = false := fun j' hj' => by rw [hg i hi j' hj']; simp
      unfold table_of_sign_l14
      simp (implicitDefEqProofs := false) only [i1, i2, i3, i4, i5, Option.bind_some, q_eps]
      cases he : k.isEps
      · simp (implicitDefEqProofs := false) only [Bool.false_eq_true, if_false, ci_lt]
        by_cases hlt : i < t.length
        · have hlt' : (i : Int) < t.length := by omega
          obtain ⟨c, hc⟩ : ∃ c, t[i]? = some c := ⟨t[i], List.getElem?_eq_getElem hlt⟩
          have hix : ∀ h : Hp, idx (.str (S t)) (.int i) h = some (.str ⟨#[c]⟩) := fun h => idx_str (by omega) (by show (t.toArray)[_]? = _; rw [List.getElem?_toArray]; simpa using hc)
          obtain ⟨u1, u2⟩ := tab_set (b := h.length) h g true hi (show i + 1 < t.length + 1 by omega) (Nat.le_refl _)
          simp (implicitDefEqProofs := false) only [hlt', decide_true, if_true, q_any, Option.bind_some]
          cases k with
          | any =>
            simp (implicitDefEqProofs := false) only [K8.isAny, if_true, Option.bind_some, u1, bi_add, cast1, u2]
            refine fin _ fun i' hi' j' hj' => ?_
            unfold updM
            by_cases e : i' = i
            · subst e
              simp only [true_and, if_true]
              show _ = mdot t i' j'
              unfold mdot
              rw [hc, row0 j' hj']
              by_cases e2 : j' = i' + 1 <;> simp [e2]
            · simp [e]
          | chr s =>
            simp (implicitDefEqProofs := false) only [K8.isAny, Bool.false_eq_true, if_false, Option.bind_some, hix, cs_eq, u1, bi_add, cast1, u2]
            rw [show K8.sign (.chr s) = s from rfl]
            cases hs : ((⟨#[c]⟩ : Str) == s)
            · simp only [Bool.false_eq_true, if_false]
              refine fin g fun i' hi' j' hj' => ?_
              by_cases e : i' = i
              · subst e
                rw [if_pos rfl, row0 j' hj']
                show _ = mchr t s i' j'
                unfold mchr
                rw [hc]
                simp [hs]
              · rw [if_neg e]
            · simp only [if_true]
              refine fin _ fun i' hi' j' hj' => ?_
              unfold updM
              by_cases e : i' = i
              · subst e
                simp only [true_and, if_true]
                show _ = mchr t s i' j'
                unfold mchr
                rw [hc, row0 j' hj']
                by_cases e2 : j' = i' + 1 <;> simp [e2, hs]
              · simp [e]
          | eps => cases he
          | _ => cases hk
        · have hlt' : ¬ (i : Int) < t.length := by omega
          simp only [hlt', decide_false, Bool.false_eq_true, if_false]
          refine fin g fun i' hi' j' hj' => ?_
          by_cases e : i' = i
          · subst e
            have hnone : t[i']? = none := List.getElem?_eq_none (by omega)
            rw [if_pos rfl, row0 j' hj']
            cases k with
            | any => show _ = mdot t i' j'; unfold mdot; rw [hnone]; simp
            | chr s => show _ = mchr t s i' j'; unfold mchr; rw [hnone]; simp
            | eps => cases he
            | _ => cases hk
          · rw [if_neg e]
      · obtain ⟨u1, u2⟩ := tab_set (b := h.length) h g true hi hi (Nat.le_refl _)
        simp (implicitDefEqProofs := false) only [if_true, u1, u2, Option.bind_some]
        cases k <;> cases he
        refine fin _ fun i' hi' j' hj' => ?_
        unfold updM
        by_cases e : i' = i
        · subst e
          simp only [true_and, if_true]
          show _ = meps (t.length + 1) i' j'
          unfold meps
          rw [row0 j' hj']
          by_cases e2 : j' = i'
          · subst e2; simp; omega
          · have : ¬ i' = j' := fun q => e2 q.symm
            simp [e2, this]
        · simp [e])
    (ρ := upd (upd (fun x => List.lookup x (List.zip [n_kind, n_c, n_text] [V.str k.kind, V.str k.sign, V.str (S t)]).reverse) n_n (.int t.length)) n_table (V.ref h.length)) (h := tabAt h (mat (t.length + 1) fun _ _ => false))
    ⟨⟨_, rfl, fun i' hi' j' hj' => by simp⟩, by simp only [upd, if_true], by simp only [upd, ne_table_of_sign, if_false]; rfl, by simp only [upd, ne_table_of_sign, if_false]; rfl, by simp only [upd, ne_table_of_sign, if_false]; rfl, by simp only [upd, ne_table_of_sign, if_false, if_true]⟩
  rw [q1]
  simp only [Option.bind_some, h4]
  rw [mat_ext (g := leafF t k) fun i hi j hj => by rw [hg i hi j hj]; simp [hi]]
end Mine
end

section
set_option autoImplicit false
set_option maxRecDepth 100000
namespace Mine
open PySem

theorem star_out (d : Nat) {h : Hp} {n : Nat} (hn : n ≤ 1000) (hn1 : 1 ≤ n) {aa loa : Nat} {A : Bf} (hA : IsTab h loa aa (mat n A)) : Out ((G (d + 4)).fn f_table_star [.ref aa] h) h n (mstar n A) := by
  rw [show d + 4 = (d + 2) + 2 from rfl, table_star_eq]
  unfold table_star_s
  rw [hA.len, mat_len]
  simp only [Option.bind_some, bi_sub]
  rw [show (n : Int) - 1 = ((n - 1 : Nat) : Int) by omega, show d + 2 + 1 = d + 1 + 2 from rfl, blank_spec (d + 1) (by omega), show n - 1 + 1 = n by omega]
  simp only [Option.bind_some]
  rw [rA1 (by omega)]
  simp only [Option.bind_some]
  obtain ⟨ρ1, h1, q1, ⟨g, rfl, hg⟩, h4, h5, h6⟩ := loop_range (n := n) (f := table_star_l91 (d + 2) h.length) (fun I ρ' h' => (∃ g, h' = tabAt h (mat n g) ∧ ∀ i', i' < n → ∀ j', j' < n → g i' j' = (decide (i' < I) && meps n i' j')) ∧ ρ' n_table = some (.ref h.length) ∧ ρ' n_a = some (.ref aa) ∧ ρ' n_size = some (.int n)) (fun i hi ρ' h' I => by
      obtain ⟨⟨g, rfl, hg⟩, i1, i2, i3⟩ := I
      obtain ⟨u1, u2⟩ := tab_set (b := h.length) h g true hi hi (Nat.le_refl _)
      unfold table_star_l91
      simp only [i1, Option.bind_some, u1, u2]
      refine ⟨_, _, rfl, ⟨_, rfl, fun i' hi' j' hj' => ?_⟩, ?_, ?_, ?_⟩
      · unfold updM
        rw [hg i' hi' j' hj']
        unfold meps
        by_cases e : i' = i
        · subst e
          by_cases e2 : j' = i'
          · subst e2; simp [hi]
          · have : ¬ i' = j' := fun q => e2 q.symm
            simp [e2, this]
        · have : decide (i' < i + 1) = decide (i' < i) := by simp; omega
          simp [e, this]
      · simp only [upd, ne_table_star, if_false]; exact i1
      · simp only [upd, ne_table_star, if_false]; exact i2
      · simp only [upd, ne_table_star, if_false]; exact i3)
    (ρ := upd (upd (fun x => List.lookup x (List.zip [n_a] [V.ref aa]).reverse) n_size (.int n)) n_table (V.ref h.length)) (h := tabAt h (mat n fun _ _ => false))
    ⟨⟨_, rfl, fun i' hi' j' hj' => by simp⟩, by simp only [upd, if_true], by simp only [upd, ne_table_star, if_false]; rfl, by simp only [upd, ne_table_star, if_false, if_true]⟩
  rw [q1]
  simp only [Option.bind_some, h6]
  rw [rA1 (by omega)]
  simp only [Option.bind_some]
  have hm : mat n g = mat n (mit n A 0) := mat_ext fun i hi j hj => by rw [hg i hi j hj]; simp [hi]; rfl
  obtain ⟨ρ2, h2, q2, r, L, ht, rfl, hI, _⟩ := loop_range (n := n) (f := table_star_l99 (d + 2) h.length) (fun m ρ' h' => ∃ r L, ρ' n_table = some (.ref r) ∧ h' = h ++ L ∧ IsTab h' h.length r (mat n (mit n A m)) ∧ ρ' n_a = some (.ref aa)) (fun m hm ρ' h' I => by
      obtain ⟨r, L, i1, rfl, i2, i3⟩ := I
      obtain ⟨r1, L1, c1, c2⟩ := cat_out d hn hn1 i2 (hA.app L)
      obtain ⟨r2, L2, a1, a2⟩ := alt_out (d + 1) hn (i2.app L1) c2
      unfold table_star_l99
      simp only [i1, i3, Option.bind_some, show d + 2 + 1 = d + 3 from rfl, c1]
      rw [show d + 3 = d + 1 + 2 from rfl, a1]
      refine ⟨_, _, rfl, r2, L ++ L1 ++ L2, by simp [upd], by simp, a2.lower (by simp), ?_⟩
      simp only [upd, ne_table_star, if_false]; exact i3)
    (ρ := ρ1) (h := tabAt h (mat n g)) ⟨h.length, _, h4, rfl, by rw [← hm]; exact tabAt_is h (mat n g), h5⟩
  rw [q2]
  simp only [Option.bind_some, ht]
  exact ⟨r, L, rfl, hI⟩

/-! the meaning -/
inductive TStk (h : Hp) (lo n : Nat) : List Nat → List Bf → Prop
  | nil : TStk h lo n [] []
  | cons {r rs f fs} : IsTab h lo r (mat n f) → TStk h lo n rs fs → TStk h lo n (r :: rs) (f :: fs)
theorem TStk.app {h : Hp} {lo n : Nat} {rs : List Nat} {fs : List Bf} (x : TStk h lo n rs fs) (L : Hp) : TStk (h ++ L) lo n rs fs := by
  induction x with
  | nil => exact .nil
  | cons t _ ih => exact .cons (t.app L) ih
theorem TStk.set {h : Hp} {lo n a : Nat} {rs : List Nat} {fs : List Bf} (x : TStk h lo n rs fs) (ha : a < lo) (ys : List V) : TStk (h.set a ys) lo n rs fs := by
  induction x with
  | nil => exact .nil
  | cons t _ ih => exact .cons (t.set ha ys) ih
noncomputable def rfs (rs : List Nat) : List V := (rs.map V.ref).reverse
theorem rfs_cons (r : Nat) (rs : List Nat) : rfs (r :: rs) = rfs rs ++ [V.ref r] := by simp [rfs]
theorem rfs_cons2 (r l : Nat) (rs : List Nat) : rfs (r :: l :: rs) = rfs rs ++ [V.ref l, V.ref r] := by simp [rfs]
structure MI (h : Hp) (t : List Nat) (rs : List Nat) (fs : List Bf) (ρ : Rho) (h' : Hp) : Prop where
  stack : ρ n_stack = some (.ref h.length)
  text : ρ n_text = some (.str (S t))
  pre : ∃ L, h' = h ++ L
  at_ : h'[h.length]? = some (rfs rs)
  tabs : TStk h' (h.length + 1) (t.length + 1) rs fs
  small : rs.length ≤ 100000
theorem pre_set {h h' : Hp} (x : ∃ L, h' = h ++ L) (ys : List V) : ∃ L, h'.set h.length ys = h ++ L := by
  obtain ⟨L, rfl⟩ := x
  cases L with
  | nil => exact ⟨[], by rw [List.append_nil, List.set_eq_of_length_le (Nat.le_refl _)]⟩
  | cons y L => exact ⟨ys :: L, set_mid ..⟩
section
variable {h : Hp} {t : List Nat} {rs : List Nat} {fs : List Bf} {ρ : Rho} {h' : Hp} {b : Nat}
theorem MI.lt (I : MI h t rs fs ρ h') : h.length < h'.length := (List.getElem?_eq_some_iff.mp I.at_).1
/-- the stack is changed; behind it all stands -/
theorem MI.put (I : MI h t rs fs ρ h') (L1 : Hp) {rs' : List Nat} {fs' : List Bf} {ρ' : Rho} (h1 : ρ' n_stack = some (.ref h.length)) (h2 : ρ' n_text = some (.str (S t))) (hT : TStk (h' ++ L1) (h.length + 1) (t.length + 1) rs' fs') (hl : rs'.length ≤ 100000) : MI h t rs' fs' ρ' ((h' ++ L1).set h.length (rfs rs')) := by
  have hlt := I.lt
  refine ⟨h1, h2, pre_set (by obtain ⟨L, rfl⟩ := I.pre; exact ⟨L ++ L1, by simp⟩) _, ?_, hT.set (by omega) _, hl⟩
  rw [List.getElem?_set_self (by simp; omega)]
end
theorem means_step (d : Nat) {h : Hp} {t : List Nat} {rs : List Nat} {fs fs' : List Bf} {ρ : Rho} {h' : Hp} {k : K8} (ht : t.length ≤ 100) (hr : rs.length ≤ 1000) (I : MI h t rs fs ρ h') (hk : smStep t k fs = some fs') :
    ∃ ρ' h'' rs', means_l109 (d + 3) h.length k.tup ρ h' = some (.next, ρ', h'') ∧ MI h t rs' fs' ρ' h'' ∧ rs'.length ≤ rs.length + 1 := by
  have hN : t.length + 1 ≤ 1000 := by omega
  have hlt := I.lt
  have T := I.tabs
  have hat := I.at_
  have low : ∀ {hh : Hp} {r : Nat} {M : List (List Bool)}, IsTab hh h'.length r M → IsTab hh (h.length + 1) r M := fun x => x.lower (by omega)
  have r1 : upd (upd ρ n_item k.tup) n_kind (.str k.kind) n_stack = some (.ref h.length) := by simp only [upd, ne_means, if_false]; exact I.stack
  have r2 : upd (upd ρ n_item k.tup) n_kind (.str k.kind) n_text = some (.str (S t)) := by simp only [upd, ne_means, if_false]; exact I.text
  have r3 : ∀ l r : Nat, upd (upd (upd (upd ρ n_item k.tup) n_kind (.str k.kind)) n_left (.ref l)) n_right (.ref r) n_stack = some (.ref h.length) := fun l r => by simp only [upd, ne_means, if_false]; exact I.stack
  have r4 : ∀ l r : Nat, upd (upd (upd (upd ρ n_item k.tup) n_kind (.str k.kind)) n_left (.ref l)) n_right (.ref r) n_text = some (.str (S t)) := fun l r => by simp only [upd, ne_means, if_false]; exact I.text
  have leafCase : k.isLeaf = true → fs' = leafF t k :: fs → ∃ ρ' h'' rs', means_l109 (d + 3) h.length k.tup ρ h' = some (.next, ρ', h'') ∧ MI h t rs' fs' ρ' h'' ∧ rs'.length ≤ rs.length + 1 := fun hl hf => by
    obtain ⟨r, L1, s1, s2⟩ := sign_out (d + 1) (h := h') (t := t) k hl ht
    unfold means_l109
    simp (implicitDefEqProofs := false) only [k_idx0, k_idx1, Option.bind_some, q_leaf, hl, if_true, I.stack, I.text, show d + 3 + 1 = d + 1 + 3 from rfl, s1, append_ref _ _ (V.ref r) (get_pre L1 hat) (Nat.le_refl _) (show (rfs rs).length ≤ 1000000 by simp [rfs]; omega), isN, ← rfs_cons]
    subst hf
    exact ⟨_, _, r :: rs, rfl, I.put L1 r1 r2 (.cons (low s2) (T.app L1)) (by simp; omega), by simp⟩
  have setL : ∀ {x r : Nat} {rs0 : List Nat} (L1 : Hp) {hh : Hp}, hh[h.length]? = some (rfs (x :: rs0)) → setIdx h.length (.ref h.length) (.int (-1)) (.ref r) (hh ++ L1) = some ((hh ++ L1).set h.length (rfs (r :: rs0))) := fun {x r rs0} L1 {hh} q => by
    rw [rfs_cons] at q
    rw [setIdx_m1 (get_pre L1 q) (Nat.le_refl _), ← rfs_cons]
  cases k with
  | chr s => cases hk; exact leafCase rfl rfl
  | any => cases hk; exact leafCase rfl rfl
  | eps => cases hk; exact leafCase rfl rfl
  | star => cases T with
    | nil => simp [smStep] at hk
    | @cons x rs0 f fs0 X T =>
      cases hk
      obtain ⟨r, L1, s1, s2⟩ := star_out d hN (by omega) X
      have top : idx (.ref h.length) (.int (-1)) h' = some (.ref x) := idx_m1 (xs := rfs rs0) (by rw [hat, rfs_cons])
      unfold means_l109
      simp (implicitDefEqProofs := false) only [k_idx0, Option.bind_some, q_leaf, K8.isLeaf, Bool.false_eq_true, if_false, I.stack, um1, top, show d + 3 + 1 = d + 4 from rfl, s1, setL L1 hat, show (cmpop .Eq (.str K8.star.kind) (V.str ⟨#[115, 116, 97, 114]⟩) h') = some true by kernel_rfl, if_true]
      exact ⟨_, _, r :: rs0, rfl, I.put L1 r1 r2 (.cons (low s2) (T.app L1)) (by have := I.small; simp at this ⊢; omega), by simp⟩
  | plus => cases T with
    | nil => simp [smStep] at hk
    | @cons x rs0 f fs0 X T =>
      cases hk
      obtain ⟨r, L1, s1, s2⟩ := star_out d hN (by omega) X
      obtain ⟨r5, L2, c1, c2⟩ := cat_out (d + 1) hN (by omega) (X.app L1) s2
      have top : idx (.ref h.length) (.int (-1)) h' = some (.ref x) := idx_m1 (xs := rfs rs0) (by rw [hat, rfs_cons])
      have st : setIdx h.length (.ref h.length) (.int (-1)) (.ref r5) (h' ++ L1 ++ L2) = some ((h' ++ (L1 ++ L2)).set h.length (rfs (r5 :: rs0))) := by rw [List.append_assoc]; exact setL _ hat
      unfold means_l109
      simp (implicitDefEqProofs := false) only [k_idx0, Option.bind_some, q_leaf, K8.isLeaf, Bool.false_eq_true, if_false, I.stack, um1, top, show d + 3 + 1 = d + 4 from rfl, s1, show (cmpop .Eq (.str K8.plus.kind) (V.str ⟨#[115, 116, 97, 114]⟩) h') = some false by kernel_rfl, show (cmpop .Eq (.str K8.plus.kind) (V.str ⟨#[112, 108, 117, 115]⟩) h') = some true by kernel_rfl, if_true]
      rw [show d + 4 = d + 1 + 3 from rfl, c1]
      simp (implicitDefEqProofs := false) only [Option.bind_some, st]
      refine ⟨_, _, r5 :: rs0, rfl, I.put (L1 ++ L2) r1 r2 (.cons ?_ (T.app _)) (by have := I.small; simp at this ⊢; omega), by simp⟩
      rw [← List.append_assoc]; exact c2.lower (by simp; omega)
  | opt => cases T with
    | nil => simp [smStep] at hk
    | @cons x rs0 f fs0 X T =>
      cases hk
      obtain ⟨r, L1, s1, s2⟩ := sign_out (d + 1) (h := h') (t := t) .eps rfl ht
      obtain ⟨r5, L2, c1, c2⟩ := alt_out (d + 2) hN (X.app L1) s2
      have top : idx (.ref h.length) (.int (-1)) h' = some (.ref x) := idx_m1 (xs := rfs rs0) (by rw [hat, rfs_cons])
      have st : setIdx h.length (.ref h.length) (.int (-1)) (.ref r5) (h' ++ L1 ++ L2) = some ((h' ++ (L1 ++ L2)).set h.length (rfs (r5 :: rs0))) := by rw [List.append_assoc]; exact setL _ hat
      have s1' : (G (d + 4)).fn f_table_of_sign [(V.str ⟨#[101, 112, 115]⟩), (V.str ⟨#[]⟩), .str (S t)] h' = some (.ref r, h' ++ L1) := s1
      unfold means_l109
      simp (implicitDefEqProofs := false) only [k_idx0, Option.bind_some, q_leaf, K8.isLeaf, Bool.false_eq_true, if_false, I.stack, I.text, um1, top, show d + 3 + 1 = d + 4 from rfl, s1', show (cmpop .Eq (.str K8.opt.kind) (V.str ⟨#[115, 116, 97, 114]⟩) h') = some false by kernel_rfl, show (cmpop .Eq (.str K8.opt.kind) (V.str ⟨#[112, 108, 117, 115]⟩) h') = some false by kernel_rfl, show (cmpop .Eq (.str K8.opt.kind) (V.str ⟨#[111, 112, 116]⟩) h') = some true by kernel_rfl, if_true]
      rw [show d + 4 = d + 2 + 2 from rfl, c1]
      simp (implicitDefEqProofs := false) only [Option.bind_some, st]
      refine ⟨_, _, r5 :: rs0, rfl, I.put (L1 ++ L2) r1 r2 (.cons ?_ (T.app _)) (by have := I.small; simp at this ⊢; omega), by simp⟩
      rw [← List.append_assoc]; exact c2.lower (by simp; omega)
  | cat => cases T with
    | nil => simp [smStep] at hk
    | @cons x rs0 g fs0 X T => cases T with
      | nil => simp [smStep] at hk
      | @cons y rs1 f fs1 Y T =>
        cases hk
        have hl2 : h.length < h.length + 1 := by omega
        have X' := X.set (x := h.length) hl2 (rfs (y :: rs1))
        have Y' := Y.set (x := h.length) hl2 (rfs (y :: rs1))
        have T' := T.set (a := h.length) hl2 (rfs (y :: rs1))
        obtain ⟨r, L1, s1, s2⟩ := cat_out (d + 1) hN (by omega) Y' X'
        have top : idx (.ref h.length) (.int (-1)) h' = some (.ref x) := idx_m1' (xs := rfs rs1) (by rw [hat, rfs_cons2])
        have sec : idx (.ref h.length) (.int (-2)) h' = some (.ref y) := idx_m2 (xs := rfs rs1) (v := .ref x) (by rw [hat, rfs_cons2])
        have del : delIdx h.length (.ref h.length) (.int (-1)) h' = some (h'.set h.length (rfs (y :: rs1))) := delIdx_m1 (v := .ref x) (by rw [hat, rfs_cons]) (Nat.le_refl _)
        have at2 : (h'.set h.length (rfs (y :: rs1)))[h.length]? = some (rfs (y :: rs1)) := by rw [List.getElem?_set_self hlt]
        have I2 : MI h t (y :: rs1) (f :: fs1) ρ (h'.set h.length (rfs (y :: rs1))) := ⟨I.stack, I.text, pre_set I.pre _, at2, .cons Y' T', by have := I.small; simp at this ⊢; omega⟩
        unfold means_l109
        simp (implicitDefEqProofs := false) only [k_idx0, Option.bind_some, q_leaf, K8.isLeaf, Bool.false_eq_true, if_false, I.stack, um1, um2, top, sec, del, q_cat, K8.isCat, show d + 3 + 1 = d + 1 + 3 from rfl, s1, setL L1 at2, show (cmpop .Eq (.str K8.cat.kind) (V.str ⟨#[115, 116, 97, 114]⟩) h') = some false by kernel_rfl, show (cmpop .Eq (.str K8.cat.kind) (V.str ⟨#[112, 108, 117, 115]⟩) h') = some false by kernel_rfl, show (cmpop .Eq (.str K8.cat.kind) (V.str ⟨#[111, 112, 116]⟩) h') = some false by kernel_rfl, if_true]
        refine ⟨_, _, r :: rs1, rfl, I2.put L1 (r3 y x) (r4 y x) (.cons (s2.lower (by rw [List.length_set]; omega)) (T'.app L1)) (by have := I.small; simp at this ⊢; omega), by simp⟩
  | alt => cases T with
    | nil => simp [smStep] at hk
    | @cons x rs0 g fs0 X T => cases T with
      | nil => simp [smStep] at hk
      | @cons y rs1 f fs1 Y T =>
        cases hk
        have hl2 : h.length < h.length + 1 := by omega
        have X' := X.set (x := h.length) hl2 (rfs (y :: rs1))
        have Y' := Y.set (x := h.length) hl2 (rfs (y :: rs1))
        have T' := T.set (a := h.length) hl2 (rfs (y :: rs1))
        obtain ⟨r, L1, s1, s2⟩ := alt_out (d + 2) hN Y' X'
        have top : idx (.ref h.length) (.int (-1)) h' = some (.ref x) := idx_m1' (xs := rfs rs1) (by rw [hat, rfs_cons2])
        have sec : idx (.ref h.length) (.int (-2)) h' = some (.ref y) := idx_m2 (xs := rfs rs1) (v := .ref x) (by rw [hat, rfs_cons2])
        have del : delIdx h.length (.ref h.length) (.int (-1)) h' = some (h'.set h.length (rfs (y :: rs1))) := delIdx_m1 (v := .ref x) (by rw [hat, rfs_cons]) (Nat.le_refl _)
        have at2 : (h'.set h.length (rfs (y :: rs1)))[h.length]? = some (rfs (y :: rs1)) := by rw [List.getElem?_set_self hlt]
        have I2 : MI h t (y :: rs1) (f :: fs1) ρ (h'.set h.length (rfs (y :: rs1))) := ⟨I.stack, I.text, pre_set I.pre _, at2, .cons Y' T', by have := I.small; simp at this ⊢; omega⟩
        unfold means_l109
        simp (implicitDefEqProofs := false) only [k_idx0, Option.bind_some, q_leaf, K8.isLeaf, Bool.false_eq_true, if_false, I.stack, um1, um2, top, sec, del, q_cat, K8.isCat, show d + 3 + 1 = d + 2 + 2 from rfl, s1, setL L1 at2, show (cmpop .Eq (.str K8.alt.kind) (V.str ⟨#[115, 116, 97, 114]⟩) h') = some false by kernel_rfl, show (cmpop .Eq (.str K8.alt.kind) (V.str ⟨#[112, 108, 117, 115]⟩) h') = some false by kernel_rfl, show (cmpop .Eq (.str K8.alt.kind) (V.str ⟨#[111, 112, 116]⟩) h') = some false by kernel_rfl, if_true]
        refine ⟨_, _, r :: rs1, rfl, I2.put L1 (r3 y x) (r4 y x) (.cons (s2.lower (by rw [List.length_set]; omega)) (T'.app L1)) (by have := I.small; simp at this ⊢; omega), by simp⟩

theorem means_spec (d : Nat) {h : Hp} {a0 : Nat} {ks : List K8} {t : List Nat} {f : Bf} (ha : h[a0]? = some (ks.map K8.tup)) (hs : sms t ks [] = some [f]) (hn : ks.length ≤ 90) (ht : t.length ≤ 100) :
    ∃ L, (G (d + 5)).fn f_means [.ref a0, .str (S t)] h = some (.bool (f 0 t.length), h ++ L) := by
  rw [show d + 5 = (d + 3) + 2 from rfl, means_eq]
  unfold means_s
  have hi : itemsOf (.ref a0) (h ++ [[]]) = some (ks.map K8.tup, some a0) := by simp only [itemsOf, get_pre _ ha, Option.map_some]
  simp only [hi, Option.bind_some]
  have keep : ∀ {h' : Hp}, (∃ L, h' = h ++ L) → h'[a0]? = some (ks.map K8.tup) := fun ⟨L, e⟩ => by subst e; exact get_pre L ha
  obtain ⟨ρ', h', e1, rs, fs, I, _, hr⟩ := loopS_rule (c := some a0) (all := ks.map K8.tup) (f := means_l109 (d + 3) h.length) (fun i ρ h' => ∃ rs fs, MI h t rs fs ρ h' ∧ rs.length ≤ i ∧ sms t (ks.drop i) fs = some [f])
    (fun i x ρ h' hx hi => by
      obtain ⟨rs, fs, I, hl, hr⟩ := hi
      rw [List.getElem?_map] at hx
      obtain ⟨k, hk, rfl⟩ := Option.map_eq_some_iff.mp hx
      have hlt := (List.getElem?_eq_some_iff.mp hk).1
      obtain ⟨fs', h2, h3⟩ := sms_drop hk hr
      obtain ⟨ρ', h'', rs', e, I', hl'⟩ := means_step d ht (by omega) I h2
      exact ⟨chk_some (keep I.pre), ρ', h'', .inl e, rs', fs', I', by omega, h3⟩)
    (fun ρ h' hi => by
      obtain ⟨rs, fs, I, _⟩ := hi
      exact chk_some (keep I.pre))
    (ρ := upd (fun x => List.lookup x (List.zip [n_post, n_text] [V.ref a0, V.str (S t)]).reverse) n_stack (V.ref h.length)) (h := h ++ [[]])
    ⟨[], [], ⟨by simp [upd], by simp only [upd, ne_means, if_false]; rfl, ⟨_, rfl⟩, get_last h _, .nil, by simp⟩, by simp, hs⟩
  rw [e1]
  rw [List.length_map, List.drop_length] at hr
  cases hr
  have T := I.tabs
  have hat := I.at_
  obtain ⟨L, hL⟩ := I.pre
  cases T with
  | @cons x rs0 f fs0 X T =>
    cases T
    have top : idx (.ref h.length) (.int (-1)) h' = some (.ref x) := idx_m1 (xs := rfs []) (by rw [hat, rfs_cons])
    obtain ⟨r, _, c1, c2⟩ := X.cell (show 0 < t.length + 1 by omega) (show t.length < t.length + 1 by omega)
    rw [show ((0 : Nat) : Int) = 0 from rfl] at c1
    simp only [Option.bind_some, I.stack, I.text, um1, top, c1, len_str, S_len, c2]
    exact ⟨L, by rw [hL]⟩
end Mine
end

section
set_option autoImplicit false
set_option maxRecDepth 100000
namespace Mine
open PySem

/-! lists of words -/
noncomputable def wV (ws : List (List Nat)) : List V := ws.map fun w => V.str (S w)
noncomputable def Wok (w : List Nat) : Prop := ∀ c ∈ w, c < 0x110000
noncomputable def AllW (ws : List (List Nat)) : Prop := ∀ w ∈ ws, Wok w
theorem Wok.all {w : List Nat} (h : Wok w) : (S w).cps.all (· < 0x110000) = true := by
  simp only [S, List.all_toArray, List.all_eq_true, decide_eq_true_eq]
  exact h
theorem rd_w {w : List Nat} (h : Wok w) (n : Nat) (hp : Hp) : rd n hp (.str (S w)) = some (.str (S w)) := by
  cases n <;> simp only [rd, h.all, if_true]
theorem rd_wV {n : Nat} {h : Hp} : ∀ {ws : List (List Nat)}, AllW ws → rdAll (rd n h) (wV ws) = some (ws.map fun w => PyData.str (S w))
  | [], _ => rfl
  | w :: ws, ha => by
    show ((rd n h (.str (S w))).bind fun d => (rdAll (rd n h) (wV ws)).map (d :: ·)) = _
    rw [rd_w (ha w (List.mem_cons_self ..)), rd_wV fun x hx => ha x (List.mem_cons_of_mem _ hx)]
    rfl
theorem S_inj {a b : List Nat} (h : S a = S b) : a = b := congrArg (fun s : Str => s.cps.toList) h
theorem in_wV {h : Hp} {a : Nat} {ws : List (List Nat)} {w : List Nat} (e : h[a]? = some (wV ws)) (ha : AllW ws) (hw : Wok w) : cmpop .In (.str (S w)) (.ref a) h = some (decide (w ∈ ws)) := by
  show ((h[a]?).bind fun vs => (rd 8 h (.str (S w))).bind fun d => (rdAll (rd 8 h) vs).map fun ds => ds.any fun y => PyData.eqv y d) = _
  rw [e]
  simp only [Option.bind_some, rd_wV ha, Option.map_some, rd_w hw]
  congr 1
  rw [Bool.eq_iff_iff]
  simp only [List.any_map, List.any_eq_true, Function.comp_def, decide_eq_true_eq]
  constructor
  · rintro ⟨y, hy, e⟩
    have : (S y == S w) = true := e
    rw [← S_inj (beq_iff_eq.mp this)]; exact hy
  · intro hx
    exact ⟨w, hx, by show (S w == S w) = true; simp⟩
theorem loopL_inv {c : Option Nat} {all : List V} {f : V → Hp → Option Hp} (I : Nat → Hp → Prop)
    (hstep : ∀ i x h, all[i]? = some x → I i h → chk c all h = true ∧ ∃ h', f x h = some h' ∧ I (i + 1) h')
    (hend : ∀ h, I all.length h → chk c all h = true) {h : Hp} (h0 : I 0 h) : ∃ h', loopL c all f all h = some h' ∧ I all.length h' := by
  suffices H : ∀ (rest : List V) (i : Nat) (h : Hp), all.drop i = rest → I i h → i ≤ all.length → ∃ h', loopL c all f rest h = some h' ∧ I all.length h' from H all 0 h rfl h0 (Nat.zero_le _)
  intro rest
  induction rest with
  | nil =>
    intro i h hd hi hl
    have : i = all.length := by
      have := congrArg List.length hd
      simp at this
      omega
    subst this
    exact ⟨h, by simp [loopL, hend _ hi], hi⟩
  | cons x rest ih =>
    intro i h hd hi hl
    have hx : all[i]? = some x := by rw [← List.head?_drop, hd]; rfl
    have hr : all.drop (i + 1) = rest := by rw [← List.tail_drop, hd]; rfl
    have hlt := (List.getElem?_eq_some_iff.mp hx).1
    obtain ⟨hc, h', e, hi'⟩ := hstep i x h hx hi
    obtain ⟨h2, e2, i2⟩ := ih (i + 1) h' hr hi' (by omega)
    exact ⟨h2, by unfold loopL; rw [if_pos hc, e]; exact e2, i2⟩
theorem boolsOf_map : ∀ bs : List Bool, boolsOf (bs.map V.bool) = some bs
  | [] => rfl
  | b :: bs => by simp only [List.map_cons, boolsOf, boolsOf_map bs, Option.map_some]
theorem any_bools {h : Hp} {a : Nat} {bs : List Bool} (e : h[a]? = some (bs.map V.bool)) : callB b_any [.ref a] h = some (.bool (bs.any id), h) := by
  rw [callB_any]
  simp only [e, Option.bind_some, boolsOf_map, Option.map_some]
theorem appendTo_mid {h : Hp} {xs : List V} {L : Hp} (v : V) (hl : xs.length ≤ 1000000) : appendTo h.length v (h ++ xs :: L) = some (h ++ (xs ++ [v]) :: L) := by
  unfold appendTo
  rw [get_ref]
  simp only [Option.bind_some, hl, if_true, set_mid]

/-- the cut of a word that both lists hold -/
noncomputable def cutB (A B : List (List Nat)) (w : List Nat) : Bool := (List.range (w.length + 1)).any fun k => decide (w.take k ∈ A) && decide (w.drop k ∈ B)
theorem join_spec (d : Nat) {h : Hp} {pp aa ab : Nat} {ps A B : List (List Nat)} (hp : h[pp]? = some (wV ps)) (hA : h[aa]? = some (wV A)) (hB : h[ab]? = some (wV B)) (wp : AllW ps) (wA : AllW A) (wB : AllW B) (hl : ps.length ≤ 1000) (hw : ∀ w ∈ ps, w.length ≤ 100) :
    ∃ L, (G (d + 2)).fn f_law_join [.ref pp, .ref aa, .ref ab] h = some (.ref h.length, h ++ wV (ps.filter (cutB A B)) :: L) := by
  rw [law_join_eq]
  unfold law_join_s
  have hi : itemsOf (.ref pp) h = some (wV ps, some pp) := by simp only [itemsOf, hp, Option.map_some]
  simp only [hi, Option.bind_some]
  obtain ⟨h', e1, L, rfl⟩ := loopL_inv (c := some pp) (all := wV ps) (f := fun x545 h546 => 
      (callB b_len [x545] h546).bind fun p548 =>
      (binop .Add p548.1 (V.int (1)) p548.2).bind fun p549 =>
      (rangeArgs [p549.1]).bind fun r550 =>
      (loopL none (rangeV r550.1 r550.2) (fun x551 h552 => 
      (slice x545 V.none x551 V.none h552).bind fun p554 =>
      (cmpop .In p554.1 (.ref aa) p554.2).bind fun t555 =>
      (truthV (V.bool t555)).bind fun t556 =>
      if t556 then
      (slice x545 x551 V.none V.none p554.2).bind fun p557 =>
      (cmpop .In p557.1 (.ref ab) p557.2).bind fun t558 =>
      appendTo p549.2.length (V.bool t558) p557.2
      else
      appendTo p549.2.length (V.bool t555) p554.2) (rangeV r550.1 r550.2) (p549.2 ++ [[]])).bind fun h553 =>
      (callB b_any [(V.ref p549.2.length)] h553).bind fun p559 =>
      (truthV p559.1).bind fun t560 =>
      if t560 then
      appendTo h.length x545 p559.2
      else
      if false then appendTo h.length x545 p559.2 else some p559.2) (fun i h' => ∃ L, h' = h ++ wV ((ps.take i).filter (cutB A B)) :: L)
    (fun i x h' hx hI => by
      obtain ⟨L, rfl⟩ := hI
      unfold wV at hx
      rw [List.getElem?_map] at hx
      obtain ⟨w, hw1, rfl⟩ := Option.map_eq_some_iff.mp hx
      have hwm := List.mem_of_getElem? hw1
      have wok := wp w hwm
      have wl := hw w hwm
      refine ⟨chk_some (get_pre _ hp), ?_⟩
      generalize hH : h ++ wV ((ps.take i).filter (cutB A B)) :: L = H
      have hAH : ∀ L', (H ++ L')[aa]? = some (wV A) := fun L' => by rw [← hH]; exact get_pre _ (get_pre _ hA)
      have hBH : ∀ L', (H ++ L')[ab]? = some (wV B) := fun L' => by rw [← hH]; exact get_pre _ (get_pre _ hB)
      simp only [len_str, S_len, Option.bind_some, bi_add, cast1]
      rw [rA1 (by omega)]
      simp only [Option.bind_some]
      have hrl : (rangeV 0 ((w.length + 1 : Nat) : Int)).length = w.length + 1 := by simp [rangeV]
      rw [loopL_app (v := fun z => V.bool (decide (w.take (vN z) ∈ A) && decide (w.drop (vN z) ∈ B))) _ [] (fun z hz xs hxs => by
        obtain ⟨k, hk, rfl⟩ := rangeV_mem hz
        have hkl : (w.take k).length = k := by rw [List.length_take]; omega
        have s1 : slice (.str (S w)) V.none (.int k) V.none (H ++ [xs]) = some (.str (S (w.take k)), H ++ [xs]) := by
          have := S_slice_to (h := H ++ [xs]) (u := w.take k) (v := w.drop k)
          rw [List.take_append_drop, hkl] at this
          exact this
        have s2 : slice (.str (S w)) (.int k) V.none V.none (H ++ [xs]) = some (.str (S (w.drop k)), H ++ [xs]) := by
          have := S_slice_from (h := H ++ [xs]) (u := w.take k) (v := w.drop k) (i := k) (by rw [hkl])
          rw [List.take_append_drop] at this
          exact this
        have o1 : Wok (w.take k) := fun c hc => wok c (List.mem_of_mem_take hc)
        have o2 : Wok (w.drop k) := fun c hc => wok c (List.mem_of_mem_drop hc)
        simp only [s1, Option.bind_some, in_wV (hAH [xs]) wA o1, truth_bool, s2, in_wV (hBH [xs]) wB o2]
        show _ = some (H ++ [xs ++ [V.bool (decide (w.take k ∈ A) && decide (w.drop k ∈ B))]])
        by_cases q : w.take k ∈ A
        · simp only [q, decide_true, if_true, Bool.true_and]
          rw [appendTo_last _ (by omega)]
        · simp only [q, decide_false, Bool.false_eq_true, if_false, Bool.false_and]
          rw [appendTo_last _ (by omega)]) (by rw [hrl]; simp; omega)]
      have hbs : (rangeV 0 ((w.length + 1 : Nat) : Int)).map (fun z => V.bool (decide (w.take (vN z) ∈ A) && decide (w.drop (vN z) ∈ B))) = ((List.range (w.length + 1)).map fun k => decide (w.take k ∈ A) && decide (w.drop k ∈ B)).map V.bool := by
        simp only [rangeV, List.map_map]
        rw [show (((w.length + 1 : Nat) : Int) - 0).toNat = w.length + 1 by omega]
        apply List.map_congr_left
        intro j _
        have : vN (.int (0 + (j : Int))) = j := by simp [vN]
        simp only [Function.comp_def, this]
      simp only [Option.bind_some, List.nil_append, hbs, any_bools (get_last H _), truth_bool]
      have hany : ((List.range (w.length + 1)).map fun k => decide (w.take k ∈ A) && decide (w.drop k ∈ B)).any id = cutB A B w := by
        unfold cutB; rw [List.any_map]; rfl
      rw [hany, ← hH]
      have htk : (ps.take (i + 1)).filter (cutB A B) = (ps.take i).filter (cutB A B) ++ if cutB A B w then [w] else [] := by
        rw [List.take_add_one, hw1, List.filter_append]
        congr 1
        cases hcb : cutB A B w <;> simp [hcb]
      cases hcb : cutB A B w
      · simp only [Bool.false_eq_true, if_false]
        refine ⟨_, rfl, L ++ [((List.range (w.length + 1)).map fun k => decide (w.take k ∈ A) && decide (w.drop k ∈ B)).map V.bool], ?_⟩
        rw [htk, hcb]
        simp
      · simp only [if_true]
        rw [List.append_assoc, List.cons_append, appendTo_mid _ (by
          have : ((ps.take i).filter (cutB A B)).length ≤ (ps.take i).length := List.length_filter_le ..
          have h2 : (ps.take i).length ≤ ps.length := by rw [List.length_take]; omega
          simp [wV]; omega)]
        refine ⟨_, rfl, L ++ [((List.range (w.length + 1)).map fun k => decide (w.take k ∈ A) && decide (w.drop k ∈ B)).map V.bool], ?_⟩
        rw [htk, hcb]
        simp [wV])
    (fun h' hI => by
      obtain ⟨L, rfl⟩ := hI
      exact chk_some (get_pre _ hp))
    (h := h ++ [[]]) ⟨[], by simp [wV]⟩
  rw [e1]
  rw [List.take_of_length_le (by simp [wV])]
  exact ⟨L, rfl⟩
end Mine
end

section
set_option autoImplicit false
set_option maxRecDepth 100000
namespace Mine
open PySem

/-- the piece of the text from i up to j -/
noncomputable def sb (t : List Nat) (i j : Nat) : List Nat := (t.take j).drop i
theorem sb_len {t : List Nat} {i j : Nat} (hj : j ≤ t.length) : (sb t i j).length = j - i := by
  unfold sb; rw [List.length_drop, List.length_take]; omega
theorem sb_take {t : List Nat} {i j k : Nat} (hk : i + k ≤ j) : (sb t i j).take k = sb t i (i + k) := by
  unfold sb; rw [List.take_drop, List.take_take]; congr 2; omega
theorem sb_drop {t : List Nat} {i j k : Nat} : (sb t i j).drop k = sb t (i + k) j := by
  unfold sb; rw [List.drop_drop]
theorem sb_one {t : List Nat} {i : Nat} (h : i < t.length) : sb t i (i + 1) = [t[i]] := by
  unfold sb
  rw [List.drop_take, List.drop_eq_getElem_cons h, show i + 1 - i = 1 by omega]
  rfl
structure Lg (t : List Nat) (ws : List (List Nat)) (f : Bf) : Prop where
  mem : ∀ i j, i ≤ j → j ≤ t.length → (sb t i j ∈ ws ↔ f i j = true)
  ok : AllW ws
/-- the pieces -/
structure Pcs (t : List Nat) (ps : List (List Nat)) : Prop where
  all : ∀ i j, i ≤ j → j ≤ t.length → sb t i j ∈ ps
  ok : AllW ps
  len : ps.length ≤ 10
  wlen : ∀ w ∈ ps, w.length ≤ 100
  tlen : t.length ≤ 100
  tok : Wok t
section
variable {t : List Nat} {ps A B : List (List Nat)} {f g : Bf}
theorem Lg.congr {ws : List (List Nat)} (x : Lg t ws f) (h : ∀ i j, i ≤ j → j ≤ t.length → (f i j = true ↔ g i j = true)) : Lg t ws g := ⟨fun i j h1 h2 => (x.mem i j h1 h2).trans (h i j h1 h2), x.ok⟩
theorem Lg.join (P : Pcs t ps) (hA : Lg t A f) (hB : Lg t B g) (rf : Rd (t.length + 1) f) (rg : Rd (t.length + 1) g) : Lg t (ps.filter (cutB A B)) (mcat (t.length + 1) f g) := by
  refine ⟨fun i j h1 h2 => ?_, fun w hw => P.ok w (List.mem_filter.mp hw).1⟩
  rw [List.mem_filter, ← mcat_ex rf]
  unfold cutB
  simp only [List.any_eq_true, List.mem_range, Bool.and_eq_true, decide_eq_true_eq, sb_len h2, sb_drop]
  constructor
  · rintro ⟨_, k, hk, m1, m2⟩
    rw [sb_take (by omega)] at m1
    exact ⟨i + k, (hA.mem _ _ (by omega) (by omega)).mp m1, (hB.mem _ _ (by omega) h2).mp m2⟩
  · rintro ⟨m, m1, m2⟩
    have := rf _ _ m1; have := rg _ _ m2
    refine ⟨P.all i j h1 h2, m - i, by omega, ?_, ?_⟩
    · rw [sb_take (by omega), show i + (m - i) = m by omega]
      exact (hA.mem _ _ (by omega) (by omega)).mpr m1
    · rw [show i + (m - i) = m by omega]
      exact (hB.mem _ _ (by omega) h2).mpr m2
theorem Lg.eps : Lg t [[]] (meps (t.length + 1)) := by
  refine ⟨fun i j h1 h2 => ?_, fun w hw => by simp at hw; subst hw; intro c hc; cases hc⟩
  rw [meps_iff, List.mem_singleton, ← List.length_eq_zero_iff, sb_len h2]
  omega
theorem Lg.alt (hA : Lg t A f) (hB : Lg t B g) : Lg t (A ++ B) (malt f g) := by
  refine ⟨fun i j h1 h2 => ?_, fun w hw => (List.mem_append.mp hw).elim (hA.ok w) (hB.ok w)⟩
  rw [List.mem_append, malt_iff, hA.mem i j h1 h2, hB.mem i j h1 h2]
theorem Lg.chr {c : Nat} (hc : c < 0x110000) : Lg t [[c]] (mchr t ⟨#[c]⟩) := by
  refine ⟨fun i j h1 h2 => ?_, fun w hw => by simp at hw; subst hw; intro x hx; simp at hx; subst hx; exact hc⟩
  rw [mchr_iff, List.mem_singleton]
  constructor
  · intro h
    have hl := congrArg List.length h
    rw [sb_len h2] at hl
    simp at hl
    have hj : j = i + 1 := by omega
    subst hj
    rw [sb_one (by omega)] at h
    injection h with h _
    exact ⟨rfl, c, by rw [List.getElem?_eq_getElem (by omega), h], rfl⟩
  · rintro ⟨rfl, c', h3, h4⟩
    obtain ⟨q1, q2⟩ := List.getElem?_eq_some_iff.mp h3
    have : c = c' := by
      have := congrArg (fun s : Str => s.cps.toList) h4
      simpa using this
    subst this
    rw [sb_one q1, q2]
theorem Lg.dot (P : Pcs t ps) : Lg t (ps.filter fun w => decide (w.length = 1)) (mdot t) := by
  refine ⟨fun i j h1 h2 => ?_, fun w hw => P.ok w (List.mem_filter.mp hw).1⟩
  rw [mdot_iff, List.mem_filter, decide_eq_true_eq, sb_len h2]
  constructor
  · rintro ⟨_, h⟩
    have hj : j = i + 1 := by omega
    exact ⟨hj, t[i], List.getElem?_eq_getElem (by omega)⟩
  · rintro ⟨rfl, _⟩
    exact ⟨P.all _ _ h1 h2, by omega⟩
theorem mit_step {m i j : Nat} (h2 : j ≤ t.length) : mcat (t.length + 1) (mit (t.length + 1) f m) (malt f (meps (t.length + 1))) i j = true ↔ mit (t.length + 1) f (m + 1) i j = true := by
  show _ ↔ malt _ _ i j = true
  rw [mcat_iff, malt_iff, mcat_iff]
  constructor
  · rintro ⟨k, h3, h4, h5⟩
    rcases malt_iff.mp h5 with h5 | h5
    · exact .inr ⟨k, h3, h4, h5⟩
    · obtain ⟨rfl, _⟩ := meps_iff.mp h5
      exact .inl h4
  · rintro (h | ⟨k, h3, h4, h5⟩)
    · exact ⟨j, by omega, h, malt_iff.mpr (.inr (meps_iff.mpr ⟨rfl, by omega⟩))⟩
    · exact ⟨k, h3, h4, malt_iff.mpr (.inl h5)⟩
end

/-- a list of words at r that reads f -/
structure LgAt (h : Hp) (t : List Nat) (lo r n : Nat) (f : Bf) : Prop where
  lg : ∃ ws, h[r]? = some (wV ws) ∧ Lg t ws f ∧ ws.length ≤ n
  ge : lo ≤ r
theorem LgAt.app {h : Hp} {t : List Nat} {lo r n : Nat} {f : Bf} (x : LgAt h t lo r n f) (L : Hp) : LgAt (h ++ L) t lo r n f :=
  ⟨let ⟨ws, a, b⟩ := x.lg; ⟨ws, get_pre L a, b⟩, x.ge⟩
theorem LgAt.set {h : Hp} {t : List Nat} {lo r n a : Nat} {f : Bf} (x : LgAt h t lo r n f) (ha : a < lo) (ys : List V) : LgAt (h.set a ys) t lo r n f :=
  ⟨let ⟨ws, q, b⟩ := x.lg; ⟨ws, by have := x.ge; rw [List.getElem?_set_ne (by omega)]; exact q, b⟩, x.ge⟩
theorem LgAt.weak {h : Hp} {t : List Nat} {lo lo' r n n' : Nat} {f : Bf} (x : LgAt h t lo r n f) (h1 : lo' ≤ lo) (h2 : n ≤ n') : LgAt h t lo' r n' f :=
  ⟨let ⟨ws, q, b, c⟩ := x.lg; ⟨ws, q, b, Nat.le_trans c h2⟩, Nat.le_trans h1 x.ge⟩
section
variable {t : List Nat} {ps : List (List Nat)} {f g : Bf} {h : Hp} {pp : Nat}
theorem join_lg (d : Nat) (P : Pcs t ps) (hp : h[pp]? = some (wV ps)) {aa ab la lb na nb : Nat} (A : LgAt h t la aa na f) (B : LgAt h t lb ab nb g) (rf : Rd (t.length + 1) f) (rg : Rd (t.length + 1) g) :
    ∃ L, (G (d + 2)).fn f_law_join [.ref pp, .ref aa, .ref ab] h = some (.ref h.length, h ++ L) ∧ LgAt (h ++ L) t h.length h.length 10 (mcat (t.length + 1) f g) := by
  obtain ⟨A', a1, a2, _⟩ := A.lg
  obtain ⟨B', b1, b2, _⟩ := B.lg
  obtain ⟨L, e⟩ := join_spec d hp a1 b1 P.ok a2.ok b2.ok (by have := P.len; omega) P.wlen
  exact ⟨_, e, ⟨_, get_ref, a2.join P b2 rf rg, Nat.le_trans (List.length_filter_le ..) P.len⟩, Nat.le_refl _⟩
theorem add_eps {aa la na : Nat} (A : LgAt h t la aa na f) (hn : na ≤ 100000) :
    binop .Add (.ref aa) (.ref h.length) (h ++ [[V.str ⟨#[]⟩]]) = some (.ref (h ++ [[V.str ⟨#[]⟩]]).length, h ++ [[V.str ⟨#[]⟩]] ++ [wV (A.lg.choose ++ [[]])]) ∧ LgAt (h ++ [[V.str ⟨#[]⟩]] ++ [wV (A.lg.choose ++ [[]])]) t h.length (h ++ [[V.str ⟨#[]⟩]]).length (na + 1) (malt f (meps (t.length + 1))) := by
  obtain ⟨a1, a2, a3⟩ := A.lg.choose_spec
  generalize A.lg.choose = ws at a1 a2 a3
  refine ⟨?_, ⟨_, get_last _ _, a2.alt Lg.eps, by simp; omega⟩, by simp⟩
  rw [bl_add _ (get_pre _ a1) (get_last h _) (by rw [sizeLine_val]; simp [wV]; omega)]
  congr 3
  simp [wV, S]
theorem many_lg (d : Nat) (P : Pcs t ps) (hp : h[pp]? = some (wV ps)) {aa la na : Nat} (A : LgAt h t la aa na f) (rf : Rd (t.length + 1) f) (hn : na ≤ 100000) :
    ∃ r L, (G (d + 3)).fn f_law_many [.ref pp, .ref aa, .int t.length] h = some (.ref r, h ++ L) ∧ LgAt (h ++ L) t h.length r 10 (mstar (t.length + 1) f) := by
  rw [show d + 3 = (d + 1) + 2 from rfl, law_many_eq]
  unfold law_many_s
  rw [rA1 (by have := P.tlen; omega)]
  simp only [Option.bind_some]
  obtain ⟨ρ1, h1, q1, r, L, i1, rfl, X, _⟩ := loop_range (n := t.length) (f := law_many_l562 (d + 1) h.length) (fun m ρ' h' => ∃ r L, ρ' n_out = some (.ref r) ∧ h' = h ++ L ∧ LgAt h' t h.length r 10 (mit (t.length + 1) f m) ∧ ρ' n_pieces = some (.ref pp) ∧ ρ' n_a = some (.ref aa)) (fun m hm ρ' h' I => by
      obtain ⟨r, L, i1, rfl, X, i2, i3⟩ := I
      obtain ⟨e1, Y⟩ := add_eps (A.app L) hn
      generalize (A.app L).lg.choose = ws at e1 Y
      obtain ⟨L1, e2, Z⟩ := join_lg d P (get_pre _ (get_pre _ (get_pre L hp))) ((X.app [[V.str ⟨#[]⟩]]).app [wV (ws ++ [[]])]) Y (Rd.it rf m) (rf.alt (Rd.eps _))
      unfold law_many_l562
      simp only [i1, i2, i3, Option.bind_some, e1, show d + 1 + 1 = d + 2 from rfl, e2]
      refine ⟨_, _, rfl, (h ++ L ++ [[V.str ⟨#[]⟩]] ++ [wV (ws ++ [[]])]).length, L ++ [[V.str ⟨#[]⟩]] ++ [wV (ws ++ [[]])] ++ L1, by simp only [upd, if_true], by simp only [List.append_assoc], ?_, ?_, ?_⟩
      · obtain ⟨W, w1, w2, w3⟩ := Z.lg
        exact ⟨⟨W, w1, w2.congr fun i j _ h2 => mit_step h2, w3⟩, by simp⟩
      · simp only [upd, ne_law_many, if_false]; exact i2
      · simp only [upd, ne_law_many, if_false]; exact i3)
    (ρ := upd (fun x => List.lookup x (List.zip [n_pieces, n_a, n_n] [V.ref pp, V.ref aa, V.int t.length]).reverse) n_out (V.ref h.length)) (h := h ++ [[V.str ⟨#[]⟩]])
    ⟨h.length, [[V.str ⟨#[]⟩]], by simp [upd], rfl, ⟨⟨[[]], by simp [wV, S], Lg.eps, by simp⟩, Nat.le_refl _⟩, by simp only [upd, ne_law_many, if_false]; rfl, by simp only [upd, ne_law_many, if_false]; rfl⟩
  rw [q1]
  simp only [Option.bind_some, i1]
  refine ⟨r, L, rfl, ?_⟩
  obtain ⟨W, w1, w2, w3⟩ := X.lg
  refine ⟨⟨W, w1, w2.congr fun i j h1 h2 => ?_, w3⟩, X.ge⟩
  rw [star_iff rf (by omega), it_star rf (by omega) (by omega)]
end
end Mine
end

section
set_option autoImplicit false
set_option maxRecDepth 100000
namespace Mine
open PySem

inductive WStk (h : Hp) (t : List Nat) (lo n : Nat) : List Nat → List Bf → Prop
  | nil : WStk h t lo n [] []
  | cons {r rs f fs} : LgAt h t lo r n f → WStk h t lo n rs fs → WStk h t lo n (r :: rs) (f :: fs)
theorem WStk.app {h : Hp} {t : List Nat} {lo n : Nat} {rs : List Nat} {fs : List Bf} (x : WStk h t lo n rs fs) (L : Hp) : WStk (h ++ L) t lo n rs fs := by
  induction x with
  | nil => exact .nil
  | cons t _ ih => exact .cons (t.app L) ih
theorem WStk.set {h : Hp} {t : List Nat} {lo n a : Nat} {rs : List Nat} {fs : List Bf} (x : WStk h t lo n rs fs) (ha : a < lo) (ys : List V) : WStk (h.set a ys) t lo n rs fs := by
  induction x with
  | nil => exact .nil
  | cons t _ ih => exact .cons (t.set ha ys) ih
theorem WStk.weak {h : Hp} {t : List Nat} {lo n n' : Nat} {rs : List Nat} {fs : List Bf} (x : WStk h t lo n rs fs) (hn : n ≤ n') : WStk h t lo n' rs fs := by
  induction x with
  | nil => exact .nil
  | cons t _ ih => exact .cons (t.weak (Nat.le_refl _) hn) ih
/-- the heap of a reading: the stack lies right behind h -/
structure WH (h : Hp) (t : List Nat) (n : Nat) (rs : List Nat) (fs : List Bf) (h' : Hp) : Prop where
  pre : ∃ L, h' = h ++ L
  at_ : h'[h.length]? = some (rfs rs)
  stk : WStk h' t (h.length + 1) n rs fs
  small : rs.length ≤ 1000
structure WE (h : Hp) (t : List Nat) (pp : Nat) (ρ : Rho) : Prop where
  stack : ρ n_stack = some (.ref h.length)
  pieces : ρ n_pieces = some (.ref pp)
  nn : ρ n_n = some (.int t.length)
  text : ρ n_text = some (.str (S t))
section
variable {h : Hp} {t : List Nat} {n pp b : Nat} {rs : List Nat} {fs : List Bf} {h' : Hp} {f g : Bf} {r : Nat} {ρ : Rho}
theorem WH.lt (x : WH h t n rs fs h') : h.length < h'.length := (List.getElem?_eq_some_iff.mp x.at_).1
theorem WH.pop (x : WH h t n (r :: rs) (f :: fs) h') (hb : b ≤ h.length) : callM b m_pop (.ref h.length) [] h' = some (.ref r, h'.set h.length (rfs rs)) ∧ WH h t n rs fs (h'.set h.length (rfs rs)) ∧ LgAt (h'.set h.length (rfs rs)) t (h.length + 1) r n f := by
  have hl := x.lt
  have st := x.stk
  have sm := x.small
  cases st with
  | cons X T =>
    refine ⟨?_, ⟨pre_set x.pre _, by rw [List.getElem?_set_self hl], T.set (by omega) _, by simp at sm; omega⟩, X.set (by omega) _⟩
    rw [pop_ref _ _ x.at_ hb, rfs_cons]
    simp
theorem WH.push (x : WH h t n rs fs h') (L1 : Hp) (X : LgAt (h' ++ L1) t h'.length r (2 * n) f) (hb : b ≤ h.length) (hs : rs.length ≤ 900) : callM b m_append (.ref h.length) [.ref r] (h' ++ L1) = some (.none, (h' ++ L1).set h.length (rfs (r :: rs))) ∧ WH h t (2 * n) (r :: rs) (f :: fs) ((h' ++ L1).set h.length (rfs (r :: rs))) := by
  have hl := x.lt
  refine ⟨?_, ⟨pre_set (by obtain ⟨L, rfl⟩ := x.pre; exact ⟨L ++ L1, by simp⟩) _, by rw [List.getElem?_set_self (by simp; omega)], ?_, by simp; omega⟩⟩
  · rw [append_ref _ _ _ (get_pre L1 x.at_) hb (by simp [rfs]; omega), ← rfs_cons]
  · exact (WStk.cons (X.weak (by omega) (Nat.le_refl _)) ((x.stk.app L1).weak (by omega))).set (by omega) _
theorem WH.keep (x : WH h t n rs fs h') {ws : List V} (hp : h[pp]? = some ws) : h'[pp]? = some ws := by
  obtain ⟨L, rfl⟩ := x.pre
  exact get_pre L hp
end
noncomputable def K8.isChr : K8 → Bool | .chr _ => true | _ => false
noncomputable def K8.isStar : K8 → Bool | .star => true | _ => false
section
variable (k : K8) (h : Hp)
theorem e_chr : cmpop .Eq (.str k.kind) (V.str ⟨#[99, 104, 114]⟩) h = some k.isChr := by cases k <;> kernel_rfl
theorem e_star : cmpop .Eq (.str k.kind) (V.str ⟨#[115, 116, 97, 114]⟩) h = some k.isStar := by cases k <;> kernel_rfl
theorem e_plus : cmpop .Eq (.str k.kind) (V.str ⟨#[112, 108, 117, 115]⟩) h = some k.isPlus := by cases k <;> kernel_rfl
theorem e_opt : cmpop .Eq (.str k.kind) (V.str ⟨#[111, 112, 116]⟩) h = some k.isOpt := by cases k <;> kernel_rfl
end
theorem K8.okc {s : Str} (h : (K8.chr s).ok) : ∃ c, s = S [c] ∧ c ≠ 46 := h
noncomputable def K8.fine (k : K8) : Prop := k.ok ∧ ∀ c ∈ k.sign.cps.toList, c < 0x110000

theorem reads_step (d : Nat) {h : Hp} {t : List Nat} {pp b n : Nat} {ps : List (List Nat)} {rs : List Nat} {fs fs' : List Bf} {ρ : Rho} {h' : Hp} {k : K8} (P : Pcs t ps) (hp : h[pp]? = some (wV ps)) (hb : b ≤ h.length) (hok : k.fine) (hn : 10 ≤ n) (hn2 : n ≤ 50000) (hrs : rs.length ≤ 900)
    (en : WE h t pp ρ) (I : WH h t n rs fs h') (rd : AllRd (t.length + 1) fs) (hk : smStep t k fs = some fs') :
    ∃ ρ' h'' rs', law_reads_l584 (d + 2) b k.tup ρ h' = some (.next, ρ', h'') ∧ WE h t pp ρ' ∧ WH h t (2 * n) rs' fs' h'' ∧ rs'.length ≤ rs.length + 1 := by
  generalize hρ : upd (upd ρ n_kind (.str k.kind)) n_sign (.str k.sign) = ρ1
  have en1 : WE h t pp ρ1 := by
    subst hρ
    exact ⟨by simp only [upd, ne_law_reads, if_false]; exact en.stack, by simp only [upd, ne_law_reads, if_false]; exact en.pieces, by simp only [upd, ne_law_reads, if_false]; exact en.nn, by simp only [upd, ne_law_reads, if_false]; exact en.text⟩
  have kd : ρ1 n_kind = some (.str k.kind) := by subst hρ; simp only [upd, ne_law_reads, if_false, if_true]
  have sg : ρ1 n_sign = some (.str k.sign) := by subst hρ; simp only [upd, if_true]
  have enT : ∀ v, WE h t pp (upd ρ1 n_top v) := fun v => ⟨by simp only [upd, ne_law_reads, if_false]; exact en1.stack, by simp only [upd, ne_law_reads, if_false]; exact en1.pieces, by simp only [upd, ne_law_reads, if_false]; exact en1.nn, by simp only [upd, ne_law_reads, if_false]; exact en1.text⟩
  have enR : ∀ v, WE h t pp (upd ρ1 n_right v) := fun v => ⟨by simp only [upd, ne_law_reads, if_false]; exact en1.stack, by simp only [upd, ne_law_reads, if_false]; exact en1.pieces, by simp only [upd, ne_law_reads, if_false]; exact en1.nn, by simp only [upd, ne_law_reads, if_false]; exact en1.text⟩
  have hb2 : bind2 n_kind n_sign k.tup ρ = some ρ1 := by rw [← hρ]; rfl
  have tl : ∀ {f : Bf} {st : List Bf}, AllRd (t.length + 1) (f :: st) → Rd (t.length + 1) f ∧ AllRd (t.length + 1) st := fun h => ⟨h _ (List.mem_cons_self ..), fun g hg => h g (List.mem_cons_of_mem _ hg)⟩
  unfold law_reads_l584
  cases k with
  | chr s =>
    cases hk
    obtain ⟨c, rfl, _⟩ := K8.okc hok.1
    have hc : c < 0x110000 := hok.2 c (by simp [K8.sign, S])
    obtain ⟨e1, W1⟩ := I.push (r := h'.length) [wV [[c]]] ⟨⟨[[c]], get_last h' _, Lg.chr hc, by simp; omega⟩, Nat.le_refl _⟩ hb hrs
    simp (implicitDefEqProofs := false) only [hb2, Option.bind_some, kd, e_chr, K8.isChr, if_true, en1.stack, sg, show [V.str (K8.sign (.chr (S [c])))] = wV [[c]] from rfl, e1, isN]
    exact ⟨_, _, _, rfl, en1, W1, by simp⟩
  | any =>
    cases hk
    have hpp := I.keep hp
    have hi : itemsOf (.ref pp) h' = some (wV ps, some pp) := by simp only [itemsOf, hpp, Option.map_some]
    obtain ⟨h2, e2, rfl⟩ := loopL_inv (c := some pp) (all := wV ps) (f := fun x595 h596 => 
        (callB b_len [x595] h596).bind fun p598 =>
        (cmpop .Eq p598.1 (V.int (1)) p598.2).bind fun t599 =>
        if t599 then
        appendTo h'.length x595 p598.2
        else
        if false then appendTo h'.length x595 p598.2 else some p598.2) (fun i hh => hh = h' ++ [wV ((ps.take i).filter fun w => decide (w.length = 1))])
      (fun i x hh hx hI => by
        subst hI
        unfold wV at hx
        rw [List.getElem?_map] at hx
        obtain ⟨w, hw1, rfl⟩ := Option.map_eq_some_iff.mp hx
        refine ⟨chk_some (get_pre _ hpp), ?_⟩
        simp only [len_str, S_len, Option.bind_some, ci_eq]
        have htk : (ps.take (i + 1)).filter (fun w => decide (w.length = 1)) = (ps.take i).filter (fun w => decide (w.length = 1)) ++ if w.length = 1 then [w] else [] := by
          rw [List.take_add_one, hw1, List.filter_append]
          congr 1
          by_cases q : w.length = 1 <;> simp [q]
        have hfl : ((ps.take i).filter fun w => decide (w.length = 1)).length ≤ 10 := by
          have h1 : ((ps.take i).filter fun w => decide (w.length = 1)).length ≤ (ps.take i).length := List.length_filter_le ..
          have h2 : (ps.take i).length ≤ ps.length := by rw [List.length_take]; omega
          have := P.len
          omega
        by_cases q : w.length = 1
        · have : ((w.length : Int) == 1) = true := by rw [q]; rfl
          simp only [this, if_true]
          rw [appendTo_last _ (by simp [wV]; omega)]
          exact ⟨_, rfl, by rw [htk, if_pos q]; simp [wV]⟩
        · have : ((w.length : Int) == 1) = false := by
            rw [beq_eq_false_iff_ne]
            omega
          simp only [this, Bool.false_eq_true, if_false]
          exact ⟨_, rfl, by rw [htk, if_neg q]; simp⟩)
      (fun hh hI => by subst hI; exact chk_some (get_pre _ hpp))
      (h := h' ++ [[]]) (by simp [wV])
    rw [List.take_of_length_le (by simp [wV])] at e2
    obtain ⟨e1, W1⟩ := I.push (r := h'.length) [wV (ps.filter fun w => decide (w.length = 1))] ⟨⟨_, get_last h' _, Lg.dot P, by
      have := List.length_filter_le (fun w : List Nat => decide (w.length = 1)) ps
      have := P.len
      omega⟩, Nat.le_refl _⟩ hb hrs
    simp (implicitDefEqProofs := false) only [hb2, Option.bind_some, kd, e_chr, K8.isChr, Bool.false_eq_true, if_false, q_any, K8.isAny, if_true, en1.stack, en1.pieces, hi]
    simp (implicitDefEqProofs := false) only [Bool.false_eq_true, if_false] at e2
    rw [e2]
    simp (implicitDefEqProofs := false) only [Option.bind_some, e1, isN, if_true]
    exact ⟨_, _, _, rfl, en1, W1, by simp⟩
  | eps =>
    cases hk
    obtain ⟨e1, W1⟩ := I.push (r := h'.length) [wV [[]]] ⟨⟨[[]], get_last h' _, Lg.eps, by simp; omega⟩, Nat.le_refl _⟩ hb hrs
    simp (implicitDefEqProofs := false) only [hb2, Option.bind_some, kd, e_chr, K8.isChr, Bool.false_eq_true, if_false, q_any, K8.isAny, q_eps, K8.isEps, if_true, en1.stack, show [V.str ⟨#[]⟩] = wV [[]] from rfl, e1, isN]
    exact ⟨_, _, _, rfl, en1, W1, by simp⟩
  | opt =>
    have st := I.stk
    cases st with
    | nil => simp [smStep] at hk
    | @cons r rs0 f fs0 X T =>
      cases hk
      obtain ⟨p1, W0, Y⟩ := I.pop hb
      obtain ⟨e1, Z⟩ := add_eps Y (by omega)
      generalize Y.lg.choose = ws at e1 Z
      have hap : ∀ H : Hp, H ++ [[V.str ⟨#[]⟩]] ++ [wV (ws ++ [[]])] = H ++ [[V.str ⟨#[]⟩], wV (ws ++ [[]])] := fun H => by simp
      rw [hap] at e1 Z
      obtain ⟨e2, W1⟩ := W0.push _ (Z.weak (Nat.le_refl _) (show n + 1 ≤ 2 * n by omega)) hb (by simp at hrs; omega)
      simp (implicitDefEqProofs := false) only [hb2, Option.bind_some, kd, e_chr, K8.isChr, Bool.false_eq_true, if_false, q_any, K8.isAny, q_eps, K8.isEps, e_opt, K8.isOpt, if_true, en1.stack, p1, e1, e2, isN]
      exact ⟨_, _, _, rfl, en1, W1, by simp⟩
  | star =>
    have st := I.stk
    cases st with
    | nil => simp [smStep] at hk
    | @cons r rs0 f fs0 X T =>
      cases hk
      obtain ⟨p1, W0, Y⟩ := I.pop hb
      obtain ⟨r2, L1, e1, Z⟩ := many_lg d P (W0.keep hp) Y (tl rd).1 (by omega)
      obtain ⟨e2, W1⟩ := W0.push L1 (Z.weak (Nat.le_refl _) (show 10 ≤ 2 * n by omega)) hb (by simp at hrs; omega)
      simp (implicitDefEqProofs := false) only [hb2, Option.bind_some, kd, e_chr, K8.isChr, Bool.false_eq_true, if_false, q_any, K8.isAny, q_eps, K8.isEps, e_opt, K8.isOpt, e_star, K8.isStar, if_true, en1.stack, en1.pieces, en1.nn, p1, show d + 2 + 1 = d + 3 from rfl, e1, e2, isN]
      exact ⟨_, _, _, rfl, en1, W1, by simp⟩
  | plus =>
    have st := I.stk
    cases st with
    | nil => simp [smStep] at hk
    | @cons r rs0 f fs0 X T =>
      cases hk
      obtain ⟨p1, W0, Y⟩ := I.pop hb
      obtain ⟨r2, L1, e1, Z⟩ := many_lg d P (W0.keep hp) Y (tl rd).1 (by omega)
      obtain ⟨L2, e3, Z2⟩ := join_lg (d + 1) P (get_pre L1 (W0.keep hp)) (Y.app L1) Z (tl rd).1 (Rd.it (tl rd).1 _)
      rw [List.append_assoc] at e3 Z2
      obtain ⟨e2, W1⟩ := W0.push (L1 ++ L2) (Z2.weak (by simp) (show 10 ≤ 2 * n by omega)) hb (by simp at hrs; omega)
      simp (implicitDefEqProofs := false) only [hb2, Option.bind_some, kd, e_chr, K8.isChr, Bool.false_eq_true, if_false, q_any, K8.isAny, q_eps, K8.isEps, e_opt, K8.isOpt, e_star, K8.isStar, e_plus, K8.isPlus, if_true, en1.stack, en1.pieces, en1.nn, p1, show d + 2 + 1 = d + 3 from rfl, e1]
      rw [show d + 3 = d + 1 + 2 from rfl, e3]
      simp (implicitDefEqProofs := false) only [Option.bind_some, e2, isN, if_true]
      exact ⟨_, _, _, rfl, enT _, W1, by simp⟩
  | cat =>
    have st := I.stk
    cases st with
    | nil => simp [smStep] at hk
    | @cons r rs0 g fs0 X T => cases T with
      | nil => simp [smStep] at hk
      | @cons l rs1 f fs1 X2 T =>
        cases hk
        obtain ⟨p1, W0, Y⟩ := I.pop hb
        obtain ⟨p2, W2, Y2⟩ := W0.pop hb
        have Y' := Y.set (a := h.length) (by omega) (rfs rs1)
        obtain ⟨L2, e3, Z2⟩ := join_lg (d + 1) P (W2.keep hp) Y2 Y' (tl (tl rd).2).1 (tl rd).1
        obtain ⟨e2, W1⟩ := W2.push L2 (Z2.weak (Nat.le_refl _) (show 10 ≤ 2 * n by omega)) hb (by simp at hrs; omega)
        simp (implicitDefEqProofs := false) only [hb2, Option.bind_some, kd, e_chr, K8.isChr, Bool.false_eq_true, if_false, q_any, K8.isAny, q_eps, K8.isEps, e_opt, K8.isOpt, e_star, K8.isStar, e_plus, K8.isPlus, q_cat, K8.isCat, if_true, en1.stack, en1.pieces, p1, p2, show d + 2 + 1 = d + 1 + 2 from rfl, e3, e2, isN]
        exact ⟨_, _, _, rfl, enR _, W1, by simp⟩
  | alt =>
    have st := I.stk
    cases st with
    | nil => simp [smStep] at hk
    | @cons r rs0 g fs0 X T => cases T with
      | nil => simp [smStep] at hk
      | @cons l rs1 f fs1 X2 T =>
        cases hk
        obtain ⟨p1, W0, Y⟩ := I.pop hb
        obtain ⟨p2, W2, Y2⟩ := W0.pop hb
        have Y' := Y.set (a := h.length) (by omega) (rfs rs1)
        obtain ⟨A, a1, a2, a3⟩ := Y2.lg
        obtain ⟨B, b1, b2, b3⟩ := Y'.lg
        have e1 := bl_add _ a1 b1 (by rw [sizeLine_val]; simp [wV]; omega)
        rw [show wV A ++ wV B = wV (A ++ B) by simp [wV]] at e1
        obtain ⟨e2, W1⟩ := W2.push [wV (A ++ B)] ⟨⟨_, get_last _ _, a2.alt b2, by simp; omega⟩, Nat.le_refl _⟩ hb (by simp at hrs; omega)
        simp (implicitDefEqProofs := false) only [hb2, Option.bind_some, kd, e_chr, K8.isChr, Bool.false_eq_true, if_false, q_any, K8.isAny, q_eps, K8.isEps, e_opt, K8.isOpt, e_star, K8.isStar, e_plus, K8.isPlus, q_cat, K8.isCat, if_true, en1.stack, p1, p2, e1, e2, isN]
        exact ⟨_, _, _, rfl, enR _, W1, by simp⟩
end Mine
end

section
set_option autoImplicit false
set_option maxRecDepth 100000
namespace Mine
open PySem

theorem sb_slice {t : List Nat} {i j : Nat} (h1 : i ≤ j) (h2 : j ≤ t.length) (h : Hp) : slice (.str (S t)) (.int i) (.int j) .none h = some (.str (S (sb t i j)), h) := by
  simp only [slice, partV, Option.bind_some, S_list, cutL, Option.elim]
  have c1 : clipAt t.length (i : Int) = i := by unfold clipAt; rw [if_neg (by omega)]; omega
  have c2 : clipAt t.length (j : Int) = j := by unfold clipAt; rw [if_neg (by omega)]; omega
  rw [c1, c2]
  unfold sb
  rw [List.drop_take]
  rfl
noncomputable def rowQ (t : List Nat) (i : Nat) : List (List Nat) := (List.range (t.length - i)).map fun b => sb t i (i + 1 + b)
noncomputable def Qs (t : List Nat) : Nat → List (List Nat)
  | 0 => []
  | i + 1 => Qs t i ++ rowQ t i
theorem Qs_mem {t : List Nat} : ∀ {n i j : Nat}, i < n → i < j → j ≤ t.length → sb t i j ∈ Qs t n
  | n + 1, i, j, h1, h2, h3 => by
    unfold Qs
    rw [List.mem_append]
    by_cases e : i = n
    · subst e
      refine .inr (List.mem_map.mpr ⟨j - i - 1, List.mem_range.mpr (by omega), ?_⟩)
      rw [show i + 1 + (j - i - 1) = j by omega]
    · exact .inl (Qs_mem (by omega) h2 h3)
theorem Qs_of {t : List Nat} : ∀ {n : Nat} {w : List Nat}, w ∈ Qs t n → ∃ i j, j ≤ t.length ∧ w = sb t i j
  | n + 1, w, h => by
    unfold Qs at h
    rcases List.mem_append.mp h with h | h
    · exact Qs_of h
    · obtain ⟨b, hb, rfl⟩ := List.mem_map.mp h
      have := List.mem_range.mp hb
      exact ⟨n, n + 1 + b, by omega, rfl⟩
theorem pcs_of {t : List Nat} (ht : t.length ≤ 3) (hw : Wok t) : Pcs t ([[]] ++ Qs t t.length) := by
  have ok : AllW ([[]] ++ Qs t t.length) := fun w hm => by
    rcases List.mem_append.mp hm with q | q
    · simp at q; subst q; intro c hc; cases hc
    · obtain ⟨i, j, _, rfl⟩ := Qs_of q
      exact fun c hc => hw c (List.mem_of_mem_take (List.mem_of_mem_drop hc))
  refine ⟨fun i j h1 h2 => ?_, ok, ?_, fun w hm => ?_, by omega, hw⟩
  · by_cases e : i = j
    · subst e
      have : sb t i i = [] := List.length_eq_zero_iff.mp (by rw [sb_len h2]; omega)
      rw [this]; simp
    · exact List.mem_append_right _ (Qs_mem (by omega) (by omega) h2)
  · have : t.length = 0 ∨ t.length = 1 ∨ t.length = 2 ∨ t.length = 3 := by omega
    rcases this with e | e | e | e <;> rw [e] <;> simp [Qs, rowQ, e]
  · rcases List.mem_append.mp hm with q | q
    · simp at q; subst q; simp
    · obtain ⟨i, j, hj, rfl⟩ := Qs_of q
      rw [sb_len hj]; omega
theorem range_from {lo n : Nat} (h : lo ≤ n) : rangeV (lo : Int) (n : Int) = (List.range (n - lo)).map fun b : Nat => V.int ((lo + b : Nat) : Int) := by
  unfold rangeV
  rw [show ((n : Int) - lo).toNat = n - lo by omega]
  apply List.map_congr_left
  intro b _
  congr 1
/-- the inner turns -/
theorem pieces_row {t : List Nat} {hh : Hp} {xs : List (List Nat)} {i : Nat} (hi : i < t.length) (ht : t.length ≤ 3) (hx : xs.length ≤ 1000) :
    loopL none (rangeV ((i + 1 : Nat) : Int) ((t.length + 1 : Nat) : Int)) (fun x579 h580 => (slice (.str (S t)) (.int i) x579 V.none h580).bind fun p581 => appendTo hh.length p581.1 p581.2) (rangeV ((i + 1 : Nat) : Int) ((t.length + 1 : Nat) : Int)) (hh ++ [wV xs]) = some (hh ++ [wV (xs ++ rowQ t i)]) := by
  rw [range_from (show i + 1 ≤ t.length + 1 by omega)]
  rw [loopL_app (v := fun z => V.str (S (sb t i (vN z)))) _ (wV xs) (fun z hz ys hy => by
    obtain ⟨b, hb, rfl⟩ := List.mem_map.mp hz
    have hb := List.mem_range.mp hb
    rw [sb_slice (show i ≤ i + 1 + b by omega) (by omega)]
    simp only [Option.bind_some]
    rw [appendTo_last _ (by omega)]
    rfl) (by simp [wV]; omega)]
  congr 2
  simp only [wV, rowQ, List.map_append, List.map_map, show t.length + 1 - (i + 1) = t.length - i by omega]
  congr 2
theorem reads_spec (d : Nat) {h : Hp} {a0 : Nat} {ks : List K8} {t : List Nat} {f : Bf} (ha : h[a0]? = some (ks.map K8.tup)) (hs : sms t ks [] = some [f]) (hn : ks.length ≤ 12) (ht : t.length ≤ 3) (hw : Wok t) (hok : ∀ k ∈ ks, k.fine) :
    ∃ L, (G (d + 4)).fn f_law_reads [.ref a0, .str (S t)] h = some (.bool (f 0 t.length), h ++ L) := by
  rw [show d + 4 = (d + 2) + 2 from rfl, law_reads_eq]
  unfold law_reads_s
  simp only [len_str, S_len, Option.bind_some]
  rw [rA1 (by omega)]
  simp only [Option.bind_some]
  generalize hhh : h ++ [[V.str ⟨#[]⟩]] = hh
  obtain ⟨h1, e1, rfl⟩ := loopL_inv (c := none) (all := rangeV 0 (t.length : Nat)) (f := fun x573 h574 => 
      (binop .Add x573 (V.int (1)) h574).bind fun p576 =>
      (binop .Add (V.int t.length) (V.int (1)) p576.2).bind fun p577 =>
      (rangeArgs [p576.1, p577.1]).bind fun r578 =>
      loopL none (rangeV r578.1 r578.2) (fun x579 h580 => 
      (slice (.str (S t)) x573 x579 V.none h580).bind fun p581 =>
      appendTo hh.length p581.1 p581.2) (rangeV r578.1 r578.2) p577.2) (fun i h' => h' = hh ++ [wV (Qs t i)])
    (fun i x h' hx hI => by
      subst hI
      have e0 : ∀ m : Nat, (m : Int) = 0 + m := fun m => (Int.zero_add _).symm
      have hlt : i < t.length := by
        have h1 := (List.getElem?_eq_some_iff.mp hx).1
        rw [e0 t.length, range_len] at h1; exact h1
      rw [e0 t.length, range_at hlt, ← e0 i] at hx
      cases hx
      have hl : (Qs t i).length ≤ 1000 := by
        have : ∀ n, (Qs t n).length ≤ n * t.length := by
          intro n
          induction n with
          | zero => simp [Qs]
          | succ n ih => simp only [Qs, rowQ, List.length_append, List.length_map, List.length_range, Nat.succ_mul]; omega
        have h2 := this i
        have h3 : i * t.length ≤ 3 * 3 := Nat.mul_le_mul (by omega) ht
        omega
      refine ⟨rfl, hh ++ [wV (Qs t i ++ rowQ t i)], ?_, rfl⟩
      simp only [bi_add, Option.bind_some, cast1]
      rw [rA2 (by omega) (by omega)]
      simp only [Option.bind_some]
      exact pieces_row hlt ht hl)
    (fun _ _ => rfl) (h := hh ++ [[]]) (by simp [Qs, wV])
  rw [e1]
  rw [show (rangeV 0 (t.length : Int)).length = t.length by simp [rangeV]]
  have hg : (hh ++ [wV (Qs t t.length)])[h.length]? = some [V.str ⟨#[]⟩] := by rw [← hhh]; simp
  have P := pcs_of ht hw
  have hpl := P.len
  have hadd : binop .Add (V.ref h.length) (V.ref hh.length) (hh ++ [wV (Qs t t.length)]) = some (.ref (hh ++ [wV (Qs t t.length)]).length, hh ++ [wV (Qs t t.length)] ++ [wV ([[]] ++ Qs t t.length)]) := by
    rw [bl_add _ hg (get_last hh _) (by rw [sizeLine_val]; simp [wV] at hpl ⊢; omega)]
    rfl
  simp only [Option.bind_some, hadd]
  generalize hH : hh ++ [wV (Qs t t.length)] ++ [wV ([[]] ++ Qs t t.length)] = H
  have hpp : H[(hh ++ [wV (Qs t t.length)]).length]? = some (wV ([[]] ++ Qs t t.length)) := by rw [← hH]; exact get_last _ _
  generalize (hh ++ [wV (Qs t t.length)]).length = pp at hpp
  have hpre : ∃ L, H = h ++ L := ⟨[[V.str ⟨#[]⟩], wV (Qs t t.length), wV ([[]] ++ Qs t t.length)], by rw [← hH, ← hhh]; simp⟩
  have haH : H[a0]? = some (ks.map K8.tup) := by obtain ⟨L, rfl⟩ := hpre; exact get_pre L ha
  have hlen : h.length ≤ H.length := by obtain ⟨L, rfl⟩ := hpre; simp
  have hi : itemsOf (.ref a0) (H ++ [[]]) = some (ks.map K8.tup, some a0) := by simp only [itemsOf, get_pre _ haH, Option.map_some]
  simp only [hi, Option.bind_some]
  have keep : ∀ {h' : Hp}, (∃ L, h' = H ++ L) → h'[a0]? = some (ks.map K8.tup) := fun ⟨L, e⟩ => by subst e; exact get_pre L haH
  obtain ⟨ρ', h', e2, rs, fs, en, I, _, rd, hr⟩ := loopS_rule (c := some a0) (all := ks.map K8.tup) (f := law_reads_l584 (d + 2) h.length) (fun i ρ h' => ∃ rs fs, WE H t pp ρ ∧ WH H t (10 * 2 ^ i) rs fs h' ∧ rs.length ≤ i ∧ AllRd (t.length + 1) fs ∧ sms t (ks.drop i) fs = some [f])
    (fun i x ρ h' hx hi => by
      obtain ⟨rs, fs, en, I, hl, rd, hr⟩ := hi
      rw [List.getElem?_map] at hx
      obtain ⟨k, hk, rfl⟩ := Option.map_eq_some_iff.mp hx
      have hlt := (List.getElem?_eq_some_iff.mp hk).1
      obtain ⟨fs', h2, h3⟩ := sms_drop hk hr
      have hp2 : 2 ^ i ≤ 2 ^ 12 := Nat.pow_le_pow_right (by decide) (by omega)
      have hp1 : 1 ≤ 2 ^ i := Nat.one_le_two_pow
      obtain ⟨ρ', h'', rs', e, en', I', hl'⟩ := reads_step d P hpp hlen (hok k (List.mem_of_getElem? hk)) (by omega) (by omega) (by omega) en I rd h2
      refine ⟨chk_some (keep I.pre), ρ', h'', .inl e, rs', fs', en', ?_, by omega, sm_rd h2 rd, h3⟩
      rw [show 10 * 2 ^ (i + 1) = 2 * (10 * 2 ^ i) by rw [Nat.pow_succ]; omega]
      exact I')
    (fun ρ h' hi => by
      obtain ⟨rs, fs, en, I, _⟩ := hi
      exact chk_some (keep I.pre))
    (ρ := upd (upd (upd (fun x => List.lookup x (List.zip [n_post, n_text] [V.ref a0, V.str (S t)]).reverse) n_n (.int t.length)) n_pieces (V.ref pp)) n_stack (V.ref H.length)) (h := H ++ [[]])
    ⟨[], [], ⟨by simp [upd], by simp only [upd, ne_law_reads, if_false, if_true], by simp only [upd, ne_law_reads, if_false, if_true], by simp only [upd, ne_law_reads, if_false]; rfl⟩, ⟨⟨_, rfl⟩, get_last H _, .nil, by simp⟩, by simp, (fun _ hf => (nomatch hf) : AllRd (t.length + 1) []), hs⟩
  rw [e2]
  rw [List.length_map, List.drop_length] at hr
  cases hr
  have T := I.stk
  obtain ⟨L2, hL2⟩ := I.pre
  cases T with
  | @cons x rs0 f fs0 X T =>
    cases T
    have top : idx (.ref H.length) (.int 0) h' = some (.ref x) := idx_ref (xs := rfs [x]) I.at_ (by omega) rfl
    obtain ⟨ws, w1, w2, _⟩ := X.lg
    have hin : cmpop .In (.str (S t)) (.ref x) h' = some (f 0 t.length) := by
      rw [in_wV w1 w2.ok hw]
      congr 1
      rw [Bool.eq_iff_iff, decide_eq_true_eq]
      have := w2.mem 0 t.length (Nat.zero_le _) (Nat.le_refl _)
      rw [show sb t 0 t.length = t by simp [sb]] at this
      exact this
    simp only [Option.bind_some, en.text, en.stack, top, hin]
    obtain ⟨L1, rfl⟩ := hpre
    exact ⟨L1 ++ L2, by rw [hL2, List.append_assoc]⟩
end Mine
end

section
set_option autoImplicit false
set_option maxRecDepth 100000
namespace Mine
open PySem

theorem cell_spec (d : Nat) (ns : List Int) (k : Nat) (h : Hp) (h0 : h[0]? = some (ns.map V.int)) : (G (d + 2)).fn f_law_cell [.ref 0, .int k] h = some (.int (cell ns k), h) := by
  rw [law_cell_eq]
  unfold law_cell_s
  simp only [len_ref h h0, Option.bind_some, cmpop, List.length_map]
  by_cases hk : k < ns.length
  · have : (k : Int) < ns.length := by omega
    have e : idx (V.ref 0) (V.int k) h = some (.int (cell ns k)) := idx_ref h0 (by omega) (by simp [cell, hk])
    simp [this, e]
  · have : ¬ (k : Int) < ns.length := by omega
    simp [this, hk, cell]

theorem sms_app {t : List Nat} : ∀ {ks : List K8} {st : List Bf} {k : K8}, sms t (ks ++ [k]) st = (sms t ks st).bind (smStep t k)
  | [], st, k => by
    show (smStep t k st).bind (sms t []) = smStep t k st
    cases smStep t k st <;> rfl
  | x :: ks, st, k => by
    show (smStep t x st).bind (sms t (ks ++ [k])) = ((smStep t x st).bind (sms t ks)).bind (smStep t k)
    cases smStep t x st with
    | none => rfl
    | some st' => exact sms_app
/-- a postfix list that leaves D meanings -/
structure PX (t : List Nat) (ks : List K8) (D : Nat) : Prop where
  sem : ∃ fs, sms t ks [] = some fs ∧ fs.length = D
  fine : ∀ k ∈ ks, k.fine
theorem PX.add {t : List Nat} {ks : List K8} {D D' : Nat} (x : PX t ks D) {k : K8} (hk : k.fine) (h : ∀ fs : List Bf, fs.length = D → ∃ fs', smStep t k fs = some fs' ∧ fs'.length = D') : PX t (ks ++ [k]) D' := by
  obtain ⟨fs, e, hl⟩ := x.sem
  obtain ⟨fs', e', hl'⟩ := h fs hl
  refine ⟨⟨fs', by rw [sms_app, e]; exact e', hl'⟩, fun y hy => ?_⟩
  rcases List.mem_append.mp hy with q | q
  · exact x.fine y q
  · simp at q; subst q; exact hk
theorem PX.leaf {t : List Nat} {ks : List K8} {D : Nat} (x : PX t ks D) {k : K8} (hk : k.fine) (hl : k.isLeaf = true) : PX t (ks ++ [k]) (D + 1) :=
  x.add hk fun fs h => by cases k <;> first | exact ⟨_, rfl, by simp [h]⟩ | cases hl
noncomputable def K8.isUn : K8 → Bool | .star => true | .plus => true | .opt => true | _ => false
theorem PX.un {t : List Nat} {ks : List K8} {D : Nat} (x : PX t ks (D + 1)) {k : K8} (hk : k.fine) (hl : k.isUn = true) : PX t (ks ++ [k]) (D + 1) :=
  x.add hk fun fs h => by
    cases fs with
    | nil => simp at h
    | cons f fs => cases k <;> first | exact ⟨_, rfl, by simpa using h⟩ | cases hl
noncomputable def K8.isBin : K8 → Bool | .cat => true | .alt => true | _ => false
theorem PX.bin {t : List Nat} {ks : List K8} {D : Nat} (x : PX t ks (D + 2)) {k : K8} (hk : k.fine) (hl : k.isBin = true) : PX t (ks ++ [k]) (D + 1) :=
  x.add hk fun fs h => by
    cases fs with
    | nil => simp at h
    | cons f fs => cases fs with
      | nil => simp at h
      | cons g fs => cases k <;> first | exact ⟨_, rfl, by simpa using h⟩ | cases hl
theorem fine0 {k : K8} (h : k.isChr = false) : k.fine := by
  cases k with
  | chr s => cases h
  | _ => exact ⟨trivial, fun c hc => by cases hc⟩
theorem fineC {c : Nat} (h1 : c ≠ 46) (h2 : c < 0x110000) : (K8.chr ⟨#[c]⟩).fine := ⟨⟨c, rfl, h1⟩, fun x hx => by
  have : x = c := by simpa [K8.sign] using hx
  subst this; exact h2⟩

noncomputable def kindsV : V := (V.tup [(V.str ⟨#[99, 104, 114]⟩), (V.str ⟨#[97, 110, 121]⟩), (V.str ⟨#[101, 112, 115]⟩), (V.str ⟨#[115, 116, 97, 114]⟩), (V.str ⟨#[112, 108, 117, 115]⟩), (V.str ⟨#[111, 112, 116]⟩), (V.str ⟨#[99, 97, 116]⟩), (V.str ⟨#[97, 108, 116]⟩)])
structure LP (ns : List Int) (h : Hp) (t : List Nat) (i : Nat) (ks : List K8) (D : Nat) (ρ : Rho) (h' : Hp) : Prop where
  script : ρ n_script = some (.ref 0)
  post : ρ n_post = some (.ref h.length)
  depth : ρ n_depth = some (.int D)
  heap : h' = h ++ [ks.map K8.tup]
  px : PX t ks D
  len : ks.length = i
structure LQ (ns : List Int) (h : Hp) (t : List Nat) (i : Nat) (ks : List K8) (D : Nat) (ρ : Rho) (h' : Hp) : Prop where
  script : ρ n_script = some (.ref 0)
  post : ρ n_post = some (.ref h.length)
  heap : h' = h ++ [ks.map K8.tup]
  px : PX t ks D
  len : ks.length = i
theorem lp_app {h : Hp} {ks : List K8} (k : K8) (hl : ks.length ≤ 1000) : callM h.length m_append (.ref h.length) [.tup [.str k.kind, .str k.sign]] (h ++ [ks.map K8.tup]) = some (.none, h ++ [(ks ++ [k]).map K8.tup]) := by
  rw [append_ref _ _ _ (get_last h _) (Nat.le_refl _) (by simp; omega), set_last]
  simp [K8.tup]
theorem lt8 : ∀ {n : Nat}, n < 8 → n = 0 ∨ n = 1 ∨ n = 2 ∨ n = 3 ∨ n = 4 ∨ n = 5 ∨ n = 6 ∨ n = 7 := fun {n} h => (show ∀ n : Fin 8, n.1 = 0 ∨ n.1 = 1 ∨ n.1 = 2 ∨ n.1 = 3 ∨ n.1 = 4 ∨ n.1 = 5 ∨ n.1 = 6 ∨ n.1 = 7 by decide) ⟨n, h⟩
theorem lt3 : ∀ {n : Nat}, n < 3 → n = 0 ∨ n = 1 ∨ n = 2 := fun {n} h => (show ∀ n : Fin 3, n.1 = 0 ∨ n.1 = 1 ∨ n.1 = 2 by decide) ⟨n, h⟩
theorem ab0 (x : Int) : ∃ c, (c ≠ 46 ∧ c < 0x110000) ∧ ∀ h : Hp, idx (V.str ⟨#[97, 98, 48]⟩) (.int ((x.fdiv 8).fmod 3)) h = some (.str ⟨#[c]⟩) := by
  have g0 := fmod_lo (x.fdiv 8) (b := 3) (by decide)
  have g1 := fmod_hi (x.fdiv 8) (b := 3) (by decide)
  obtain ⟨m, hm⟩ := Int.eq_ofNat_of_zero_le g0
  rw [hm] at g1 ⊢
  rcases lt3 (show m < 3 by omega) with rfl | rfl | rfl
  · exact ⟨97, by decide, fun _ => rfl⟩
  · exact ⟨98, by decide, fun _ => rfl⟩
  · exact ⟨48, by decide, fun _ => rfl⟩
theorem kx1 (h : Hp) : idx (V.tup [(V.str ⟨#[99, 104, 114]⟩), (V.str ⟨#[97, 110, 121]⟩), (V.str ⟨#[101, 112, 115]⟩), (V.str ⟨#[115, 116, 97, 114]⟩), (V.str ⟨#[112, 108, 117, 115]⟩), (V.str ⟨#[111, 112, 116]⟩), (V.str ⟨#[99, 97, 116]⟩), (V.str ⟨#[97, 108, 116]⟩)]) (V.int ((1 : Nat) : Int)) h = some (V.str ⟨#[97, 110, 121]⟩) := rfl
theorem kx2 (h : Hp) : idx (V.tup [(V.str ⟨#[99, 104, 114]⟩), (V.str ⟨#[97, 110, 121]⟩), (V.str ⟨#[101, 112, 115]⟩), (V.str ⟨#[115, 116, 97, 114]⟩), (V.str ⟨#[112, 108, 117, 115]⟩), (V.str ⟨#[111, 112, 116]⟩), (V.str ⟨#[99, 97, 116]⟩), (V.str ⟨#[97, 108, 116]⟩)]) (V.int ((2 : Nat) : Int)) h = some (V.str ⟨#[101, 112, 115]⟩) := rfl
theorem kx3 (h : Hp) : idx (V.tup [(V.str ⟨#[99, 104, 114]⟩), (V.str ⟨#[97, 110, 121]⟩), (V.str ⟨#[101, 112, 115]⟩), (V.str ⟨#[115, 116, 97, 114]⟩), (V.str ⟨#[112, 108, 117, 115]⟩), (V.str ⟨#[111, 112, 116]⟩), (V.str ⟨#[99, 97, 116]⟩), (V.str ⟨#[97, 108, 116]⟩)]) (V.int ((3 : Nat) : Int)) h = some (V.str ⟨#[115, 116, 97, 114]⟩) := rfl
theorem kx4 (h : Hp) : idx (V.tup [(V.str ⟨#[99, 104, 114]⟩), (V.str ⟨#[97, 110, 121]⟩), (V.str ⟨#[101, 112, 115]⟩), (V.str ⟨#[115, 116, 97, 114]⟩), (V.str ⟨#[112, 108, 117, 115]⟩), (V.str ⟨#[111, 112, 116]⟩), (V.str ⟨#[99, 97, 116]⟩), (V.str ⟨#[97, 108, 116]⟩)]) (V.int ((4 : Nat) : Int)) h = some (V.str ⟨#[112, 108, 117, 115]⟩) := rfl
theorem kx5 (h : Hp) : idx (V.tup [(V.str ⟨#[99, 104, 114]⟩), (V.str ⟨#[97, 110, 121]⟩), (V.str ⟨#[101, 112, 115]⟩), (V.str ⟨#[115, 116, 97, 114]⟩), (V.str ⟨#[112, 108, 117, 115]⟩), (V.str ⟨#[111, 112, 116]⟩), (V.str ⟨#[99, 97, 116]⟩), (V.str ⟨#[97, 108, 116]⟩)]) (V.int ((5 : Nat) : Int)) h = some (V.str ⟨#[111, 112, 116]⟩) := rfl
theorem kx6 (h : Hp) : idx (V.tup [(V.str ⟨#[99, 104, 114]⟩), (V.str ⟨#[97, 110, 121]⟩), (V.str ⟨#[101, 112, 115]⟩), (V.str ⟨#[115, 116, 97, 114]⟩), (V.str ⟨#[112, 108, 117, 115]⟩), (V.str ⟨#[111, 112, 116]⟩), (V.str ⟨#[99, 97, 116]⟩), (V.str ⟨#[97, 108, 116]⟩)]) (V.int ((6 : Nat) : Int)) h = some (V.str ⟨#[99, 97, 116]⟩) := rfl
theorem kx7 (h : Hp) : idx (V.tup [(V.str ⟨#[99, 104, 114]⟩), (V.str ⟨#[97, 110, 121]⟩), (V.str ⟨#[101, 112, 115]⟩), (V.str ⟨#[115, 116, 97, 114]⟩), (V.str ⟨#[112, 108, 117, 115]⟩), (V.str ⟨#[111, 112, 116]⟩), (V.str ⟨#[99, 97, 116]⟩), (V.str ⟨#[97, 108, 116]⟩)]) (V.int ((7 : Nat) : Int)) h = some (V.str ⟨#[97, 108, 116]⟩) := rfl
theorem lp_step (d : Nat) {ns : List Int} {h : Hp} {t : List Nat} {i D : Nat} {ks : List K8} {ρ : Rho} {h' : Hp} (h0 : h[0]? = some (ns.map V.int)) (hi : i ≤ 100) (I : LP ns h t i ks D ρ h') :
    ∃ ρ' h'' ks' D', law_post_l411 (d + 1) h.length (.int i) ρ h' = some (.next, ρ', h'') ∧ LP ns h t (i + 1) ks' D' ρ' h'' ∧ 1 ≤ D' := by
  have hh := I.heap
  subst hh
  have hl := I.len
  have c1 : (G (d + 2)).fn f_law_cell [.ref 0, .int (5 + i)] (h ++ [ks.map K8.tup]) = some (.int (cell ns (5 + i)), h ++ [ks.map K8.tup]) := by
    have := cell_spec d ns (5 + i) (h ++ [ks.map K8.tup]) (get_pre _ h0)
    rw [show (((5 + i : Nat) : Int)) = 5 + (i : Int) by omega] at this
    exact this
  generalize cell ns (5 + i) = x at c1
  have m0 := fmod_lo x (b := 8) (by decide)
  have m1 := fmod_hi x (b := 8) (by decide)
  obtain ⟨m, hm⟩ := Int.eq_ofNat_of_zero_le m0
  rw [hm] at m1
  obtain ⟨c, ⟨hc1, hc2⟩, hc⟩ := ab0 x
  have app : ∀ k : K8, callM h.length m_append (.ref h.length) [.tup [.str k.kind, .str k.sign]] (h ++ [ks.map K8.tup]) = some (.none, h ++ [(ks ++ [k]).map K8.tup]) := fun k => lp_app k (by omega)
  have lp : ∀ (k : K8) (D' : Nat) (ρ' : Rho), PX t (ks ++ [k]) D' → ρ' n_script = some (.ref 0) → ρ' n_post = some (.ref h.length) → ρ' n_depth = some (.int D') → LP ns h t (i + 1) (ks ++ [k]) D' ρ' (h ++ [(ks ++ [k]).map K8.tup]) := fun k D' ρ' p a1 a2 a3 => ⟨a1, a2, a3, rfl, p, by simp [hl]⟩
  have s1 : ∀ v w y z, upd (upd (upd (upd ρ n_i v) n_x w) n_k y) n_depth z n_script = some (.ref 0) := fun v w y z => by simp only [upd, ne_law_post, if_false]; exact I.script
  have s2 : ∀ v w y z, upd (upd (upd (upd ρ n_i v) n_x w) n_k y) n_depth z n_post = some (.ref h.length) := fun v w y z => by simp only [upd, ne_law_post, if_false]; exact I.post
  have s3 : ∀ v w y z, upd (upd (upd (upd ρ n_i v) n_x w) n_k y) n_depth z n_depth = some z := fun v w y z => by simp only [upd, if_true]
  have s4 : ∀ v w y, upd (upd (upd ρ n_i v) n_x w) n_k y n_script = some (.ref 0) := fun v w y => by simp only [upd, ne_law_post, if_false]; exact I.script
  have s5 : ∀ v w y, upd (upd (upd ρ n_i v) n_x w) n_k y n_post = some (.ref h.length) := fun v w y => by simp only [upd, ne_law_post, if_false]; exact I.post
  have s6 : ∀ v w y, upd (upd (upd ρ n_i v) n_x w) n_k y n_depth = some (.int D) := fun v w y => by simp only [upd, ne_law_post, if_false]; exact I.depth
  -- a leaf is put on
  have leafR : ∀ (k : K8) (v : V), k.fine → k.isLeaf = true → ∃ ρ' h'' ks' D', (some (Fl.next, (upd (upd (upd (upd ρ n_i (V.int i)) n_x (V.int x)) n_k v) n_depth (V.int ((D + 1 : Nat) : Int))), h ++ [(ks ++ [k]).map K8.tup]) : Option (Fl × Rho × Hp)) = some (.next, ρ', h'') ∧ LP ns h t (i + 1) ks' D' ρ' h'' ∧ 1 ≤ D' := fun k v hk hlf =>
    ⟨_, _, ks ++ [k], D + 1, rfl, lp k (D + 1) _ (I.px.leaf hk hlf) (s1 ..) (s2 ..) (s3 ..), by omega⟩
  have aC := app (.chr ⟨#[c]⟩)
  have aA := app .any
  have aE := app .eps
  rw [show K8.kind (.chr ⟨#[c]⟩) = ⟨#[99, 104, 114]⟩ from rfl, show K8.sign (.chr ⟨#[c]⟩) = ⟨#[c]⟩ from rfl] at aC
  rw [show K8.kind .any = ⟨#[97, 110, 121]⟩ from rfl, show K8.sign .any = ⟨#[]⟩ from rfl] at aA
  rw [show K8.kind .eps = ⟨#[101, 112, 115]⟩ from rfl, show K8.sign .eps = ⟨#[]⟩ from rfl] at aE
  unfold law_post_l411
  simp (implicitDefEqProofs := false) only [I.script, I.depth, I.post, Option.bind_some, bi_add, show d + 1 + 1 = d + 2 from rfl, c1, bi_mod _ x (b := 8) (by decide), hm, ci_ge, ci_lt]
  rcases lt8 (show m < 8 by omega) with rfl | rfl | rfl | rfl | rfl | rfl | rfl | rfl
  · simp (implicitDefEqProofs := false) only [show decide ((6 : Int) ≤ ((0 : Nat) : Int)) = false from rfl, show decide ((3 : Int) ≤ ((0 : Nat) : Int)) = false from rfl, show decide (((0 : Nat) : Int) < 6) = true from rfl, Bool.false_eq_true, if_false, if_true, bi_mod _ ((0 : Nat) : Int) (b := 3) (by decide), Option.bind_some, ci_eq, show ((((0 : Nat) : Int).fmod 3) == 0) = true from rfl, isN, cast1, bi_fdiv _ x (b := 8) (by decide) (by decide), bi_mod _ (x.fdiv 8) (b := 3) (by decide), hc, aC]
    exact leafR (.chr ⟨#[c]⟩) _ (fineC hc1 hc2) rfl
  · simp (implicitDefEqProofs := false) only [show decide ((6 : Int) ≤ ((1 : Nat) : Int)) = false from rfl, show decide ((3 : Int) ≤ ((1 : Nat) : Int)) = false from rfl, show decide (((1 : Nat) : Int) < 6) = true from rfl, Bool.false_eq_true, if_false, if_true, bi_mod _ ((1 : Nat) : Int) (b := 3) (by decide), Option.bind_some, ci_eq, show ((((1 : Nat) : Int).fmod 3) == 0) = false from rfl, isN, cast1, show (((1 : Nat) : Int).fmod 3) = ((1 : Nat) : Int) from rfl, kx1, aA]
    exact leafR .any _ (fine0 rfl) rfl
  · simp (implicitDefEqProofs := false) only [show decide ((6 : Int) ≤ ((2 : Nat) : Int)) = false from rfl, show decide ((3 : Int) ≤ ((2 : Nat) : Int)) = false from rfl, show decide (((2 : Nat) : Int) < 6) = true from rfl, Bool.false_eq_true, if_false, if_true, bi_mod _ ((2 : Nat) : Int) (b := 3) (by decide), Option.bind_some, ci_eq, show ((((2 : Nat) : Int).fmod 3) == 0) = false from rfl, isN, cast1, show (((2 : Nat) : Int).fmod 3) = ((2 : Nat) : Int) from rfl, kx2, aE]
    exact leafR .eps _ (fine0 rfl) rfl
  · cases D with
    | zero =>
      simp (implicitDefEqProofs := false) only [show decide ((6 : Int) ≤ ((3 : Nat) : Int)) = false from rfl, show decide ((3 : Int) ≤ ((3 : Nat) : Int)) = true from rfl, show decide (((3 : Nat) : Int) < 6) = true from rfl, Bool.false_eq_true, if_false, if_true, bi_mod _ ((3 : Nat) : Int) (b := 3) (by decide), Option.bind_some, ci_eq, show ((((3 : Nat) : Int).fmod 3) == 0) = true from rfl, isN, cast1, show decide ((1 : Int) ≤ ((0 : Nat) : Int)) = false from rfl, bi_fdiv _ x (b := 8) (by decide) (by decide), bi_mod _ (x.fdiv 8) (b := 3) (by decide), hc, aC]
      exact leafR (.chr ⟨#[c]⟩) _ (fineC hc1 hc2) rfl
    | succ D =>
      have hd : decide ((1 : Int) ≤ ((D + 1 : Nat) : Int)) = true := decide_eq_true (by omega)
      have aK := app .star
      rw [show K8.kind .star = ⟨#[115, 116, 97, 114]⟩ from rfl, show K8.sign .star = ⟨#[]⟩ from rfl] at aK
      simp (implicitDefEqProofs := false) only [show decide ((6 : Int) ≤ ((3 : Nat) : Int)) = false from rfl, show decide ((3 : Int) ≤ ((3 : Nat) : Int)) = true from rfl, show decide (((3 : Nat) : Int) < 6) = true from rfl, Bool.false_eq_true, if_false, if_true, Option.bind_some, hd, kx3, aK, isN]
      exact ⟨_, _, ks ++ [.star], D + 1, rfl, lp .star (D + 1) _ (I.px.un (fine0 rfl) rfl) (s4 ..) (s5 ..) (s6 ..), by omega⟩
  · cases D with
    | zero =>
      simp (implicitDefEqProofs := false) only [show decide ((6 : Int) ≤ ((4 : Nat) : Int)) = false from rfl, show decide ((3 : Int) ≤ ((4 : Nat) : Int)) = true from rfl, show decide (((4 : Nat) : Int) < 6) = true from rfl, Bool.false_eq_true, if_false, if_true, bi_mod _ ((4 : Nat) : Int) (b := 3) (by decide), Option.bind_some, ci_eq, show ((((4 : Nat) : Int).fmod 3) == 0) = false from rfl, isN, cast1, show decide ((1 : Int) ≤ ((0 : Nat) : Int)) = false from rfl, show (((4 : Nat) : Int).fmod 3) = ((1 : Nat) : Int) from rfl, kx1, aA]
      exact leafR .any _ (fine0 rfl) rfl
    | succ D =>
      have hd : decide ((1 : Int) ≤ ((D + 1 : Nat) : Int)) = true := decide_eq_true (by omega)
      have aK := app .plus
      rw [show K8.kind .plus = ⟨#[112, 108, 117, 115]⟩ from rfl, show K8.sign .plus = ⟨#[]⟩ from rfl] at aK
      simp (implicitDefEqProofs := false) only [show decide ((6 : Int) ≤ ((4 : Nat) : Int)) = false from rfl, show decide ((3 : Int) ≤ ((4 : Nat) : Int)) = true from rfl, show decide (((4 : Nat) : Int) < 6) = true from rfl, Bool.false_eq_true, if_false, if_true, Option.bind_some, hd, kx4, aK, isN]
      exact ⟨_, _, ks ++ [.plus], D + 1, rfl, lp .plus (D + 1) _ (I.px.un (fine0 rfl) rfl) (s4 ..) (s5 ..) (s6 ..), by omega⟩
  · cases D with
    | zero =>
      simp (implicitDefEqProofs := false) only [show decide ((6 : Int) ≤ ((5 : Nat) : Int)) = false from rfl, show decide ((3 : Int) ≤ ((5 : Nat) : Int)) = true from rfl, show decide (((5 : Nat) : Int) < 6) = true from rfl, Bool.false_eq_true, if_false, if_true, bi_mod _ ((5 : Nat) : Int) (b := 3) (by decide), Option.bind_some, ci_eq, show ((((5 : Nat) : Int).fmod 3) == 0) = false from rfl, isN, cast1, show decide ((1 : Int) ≤ ((0 : Nat) : Int)) = false from rfl, show (((5 : Nat) : Int).fmod 3) = ((2 : Nat) : Int) from rfl, kx2, aE]
      exact leafR .eps _ (fine0 rfl) rfl
    | succ D =>
      have hd : decide ((1 : Int) ≤ ((D + 1 : Nat) : Int)) = true := decide_eq_true (by omega)
      have aK := app .opt
      rw [show K8.kind .opt = ⟨#[111, 112, 116]⟩ from rfl, show K8.sign .opt = ⟨#[]⟩ from rfl] at aK
      simp (implicitDefEqProofs := false) only [show decide ((6 : Int) ≤ ((5 : Nat) : Int)) = false from rfl, show decide ((3 : Int) ≤ ((5 : Nat) : Int)) = true from rfl, show decide (((5 : Nat) : Int) < 6) = true from rfl, Bool.false_eq_true, if_false, if_true, Option.bind_some, hd, kx5, aK, isN]
      exact ⟨_, _, ks ++ [.opt], D + 1, rfl, lp .opt (D + 1) _ (I.px.un (fine0 rfl) rfl) (s4 ..) (s5 ..) (s6 ..), by omega⟩
  · by_cases hD2 : 2 ≤ D
    · obtain ⟨D, rfl⟩ : ∃ e, D = e + 2 := ⟨D - 2, by omega⟩
      have hd : decide ((2 : Int) ≤ ((D + 2 : Nat) : Int)) = true := decide_eq_true (by omega)
      have aK := app .cat
      rw [show K8.kind .cat = ⟨#[99, 97, 116]⟩ from rfl, show K8.sign .cat = ⟨#[]⟩ from rfl] at aK
      simp (implicitDefEqProofs := false) only [show decide ((6 : Int) ≤ ((6 : Nat) : Int)) = true from rfl, show decide ((3 : Int) ≤ ((6 : Nat) : Int)) = true from rfl, show decide (((6 : Nat) : Int) < 6) = false from rfl, Bool.false_eq_true, if_false, if_true, Option.bind_some, hd, kx6, aK, isN, bi_sub, show ((D + 2 : Nat) : Int) - 1 = ((D + 1 : Nat) : Int) by omega]
      exact ⟨_, _, ks ++ [.cat], D + 1, rfl, lp .cat (D + 1) _ (I.px.bin (fine0 rfl) rfl) (s1 ..) (s2 ..) (s3 ..), by omega⟩
    · have hd : decide ((2 : Int) ≤ (D : Int)) = false := decide_eq_false (by omega)
      simp (implicitDefEqProofs := false) only [show decide ((6 : Int) ≤ ((6 : Nat) : Int)) = true from rfl, show decide ((3 : Int) ≤ ((6 : Nat) : Int)) = true from rfl, show decide (((6 : Nat) : Int) < 6) = false from rfl, Bool.false_eq_true, if_false, if_true, bi_mod _ ((6 : Nat) : Int) (b := 3) (by decide), Option.bind_some, ci_eq, show ((((6 : Nat) : Int).fmod 3) == 0) = true from rfl, isN, cast1, hd, bi_fdiv _ x (b := 8) (by decide) (by decide), bi_mod _ (x.fdiv 8) (b := 3) (by decide), hc, aC]
      exact leafR (.chr ⟨#[c]⟩) _ (fineC hc1 hc2) rfl
  · by_cases hD2 : 2 ≤ D
    · obtain ⟨D, rfl⟩ : ∃ e, D = e + 2 := ⟨D - 2, by omega⟩
      have hd : decide ((2 : Int) ≤ ((D + 2 : Nat) : Int)) = true := decide_eq_true (by omega)
      have aK := app .alt
      rw [show K8.kind .alt = ⟨#[97, 108, 116]⟩ from rfl, show K8.sign .alt = ⟨#[]⟩ from rfl] at aK
      simp (implicitDefEqProofs := false) only [show decide ((6 : Int) ≤ ((7 : Nat) : Int)) = true from rfl, show decide ((3 : Int) ≤ ((7 : Nat) : Int)) = true from rfl, show decide (((7 : Nat) : Int) < 6) = false from rfl, Bool.false_eq_true, if_false, if_true, Option.bind_some, hd, kx7, aK, isN, bi_sub, show ((D + 2 : Nat) : Int) - 1 = ((D + 1 : Nat) : Int) by omega]
      exact ⟨_, _, ks ++ [.alt], D + 1, rfl, lp .alt (D + 1) _ (I.px.bin (fine0 rfl) rfl) (s1 ..) (s2 ..) (s3 ..), by omega⟩
    · have hd : decide ((2 : Int) ≤ (D : Int)) = false := decide_eq_false (by omega)
      simp (implicitDefEqProofs := false) only [show decide ((6 : Int) ≤ ((7 : Nat) : Int)) = true from rfl, show decide ((3 : Int) ≤ ((7 : Nat) : Int)) = true from rfl, show decide (((7 : Nat) : Int) < 6) = false from rfl, Bool.false_eq_true, if_false, if_true, bi_mod _ ((7 : Nat) : Int) (b := 3) (by decide), Option.bind_some, ci_eq, show ((((7 : Nat) : Int).fmod 3) == 0) = false from rfl, isN, cast1, hd, show (((7 : Nat) : Int).fmod 3) = ((1 : Nat) : Int) from rfl, kx1, aA]
      exact leafR .any _ (fine0 rfl) rfl

theorem lp_tail (d : Nat) {ns : List Int} {h : Hp} {t : List Nat} {i D : Nat} {ks : List K8} {ρ : Rho} {h' : Hp} {y : V} (h0 : h[0]? = some (ns.map V.int)) (hi : i ≤ 100) (I : LQ ns h t i ks (D + 2) ρ h') :
    ∃ ρ' h'' ks', law_post_l533 (d + 1) h.length y ρ h' = some (.next, ρ', h'') ∧ LQ ns h t (i + 1) ks' (D + 1) ρ' h'' := by
  have hh := I.heap
  subst hh
  have hl := I.len
  have c1 : (G (d + 2)).fn f_law_cell [.ref 0, .int 10] (h ++ [ks.map K8.tup]) = some (.int (cell ns 10), h ++ [ks.map K8.tup]) := cell_spec d ns 10 (h ++ [ks.map K8.tup]) (get_pre _ h0)
  generalize cell ns 10 = x at c1
  have m0 := fmod_lo x (b := 2) (by decide)
  have m1 := fmod_hi x (b := 2) (by decide)
  obtain ⟨m, hm⟩ := Int.eq_ofNat_of_zero_le m0
  rw [hm] at m1
  have fin : ∀ k : K8, k.isChr = false → k.isBin = true → LQ ns h t (i + 1) (ks ++ [k]) (D + 1) (upd ρ n_i y) (h ++ [(ks ++ [k]).map K8.tup]) := fun k h1 h2 =>
    ⟨by simp only [upd, ne_law_post, if_false]; exact I.script, by simp only [upd, ne_law_post, if_false]; exact I.post, rfl, I.px.bin (fine0 h1) h2, by simp [hl]⟩
  unfold law_post_l533
  simp (implicitDefEqProofs := false) only [I.script, I.post, Option.bind_some, show d + 1 + 1 = d + 2 from rfl, c1, bi_mod _ x (b := 2) (by decide), hm, bi_add]
  have : m = 0 ∨ m = 1 := by omega
  rcases this with rfl | rfl
  · have aK := lp_app (h := h) .cat (ks := ks) (by omega)
    rw [show K8.kind .cat = ⟨#[99, 97, 116]⟩ from rfl, show K8.sign .cat = ⟨#[]⟩ from rfl] at aK
    simp (implicitDefEqProofs := false) only [show (6 : Int) + ((0 : Nat) : Int) = ((6 : Nat) : Int) from rfl, kx6, aK, Option.bind_some, isN, if_true]
    exact ⟨_, _, ks ++ [.cat], rfl, fin .cat rfl rfl⟩
  · have aK := lp_app (h := h) .alt (ks := ks) (by omega)
    rw [show K8.kind .alt = ⟨#[97, 108, 116]⟩ from rfl, show K8.sign .alt = ⟨#[]⟩ from rfl] at aK
    simp (implicitDefEqProofs := false) only [show (6 : Int) + ((1 : Nat) : Int) = ((7 : Nat) : Int) from rfl, kx7, aK, Option.bind_some, isN, if_true]
    exact ⟨_, _, ks ++ [.alt], rfl, fin .alt rfl rfl⟩

theorem post_spec (d : Nat) {ns : List Int} {h : Hp} (t : List Nat) (h0 : h[0]? = some (ns.map V.int)) :
    ∃ ks f, (G (d + 3)).fn f_law_post [.ref 0] h = some (.ref h.length, h ++ [ks.map K8.tup]) ∧ sms t ks [] = some [f] ∧ (∀ k ∈ ks, k.fine) ∧ ks.length ≤ 12 := by
  rw [show d + 3 = (d + 1) + 2 from rfl, law_post_eq]
  unfold law_post_s
  have c1 : (G (d + 2)).fn f_law_cell [.ref 0, .int 4] (h ++ [[]]) = some (.int (cell ns 4), h ++ [[]]) := cell_spec d ns 4 (h ++ [[]]) (get_pre _ h0)
  generalize cell ns 4 = x at c1
  have m0 := fmod_lo x (b := 5) (by decide)
  have m1 := fmod_hi x (b := 5) (by decide)
  obtain ⟨m, hm⟩ := Int.eq_ofNat_of_zero_le m0
  rw [hm] at m1
  simp only [show d + 1 + 1 = d + 2 from rfl, c1, Option.bind_some, bi_mod _ x (b := 5) (by decide), hm, bi_add, show (1 : Int) + (m : Int) = ((m + 1 : Nat) : Int) by omega]
  rw [rA1 (by omega)]
  simp only [Option.bind_some]
  obtain ⟨ρ1, h1, e1, ks, D, I, hD⟩ := loop_range (n := m + 1) (f := law_post_l411 (d + 1) h.length) (fun i ρ h' => ∃ ks D, LP ns h t i ks D ρ h' ∧ (i = 0 ∨ (1 ≤ D ∧ D ≤ i))) (fun i hi ρ h' hI => by
      obtain ⟨ks, D, I, hD⟩ := hI
      obtain ⟨ρ', h'', ks', D', e, I', hD'⟩ := lp_step d h0 (by omega) I
      refine ⟨ρ', h'', e, ks', D', I', .inr ⟨hD', ?_⟩⟩
      obtain ⟨fs, f1, f2⟩ := I'.px.sem
      have key : ∀ (ks : List K8) (st fs : List Bf), sms t ks st = some fs → fs.length ≤ ks.length + st.length := by
        intro ks
        induction ks with
        | nil => intro st fs h; cases h; simp
        | cons k ks ih =>
          intro st fs h
          obtain ⟨st', a1, a2⟩ := Option.bind_eq_some_iff.mp h
          have b1 := ih st' fs a2
          have b2 : st'.length ≤ st.length + 1 := by
            unfold smStep at a1
            split at a1 <;> cases a1 <;> simp <;> omega
          simp only [List.length_cons]
          omega
      have b1 := key _ _ _ f1
      have b2 := I'.len
      rw [List.length_nil] at b1
      omega)
    (ρ := upd (upd (fun x => List.lookup x (List.zip [n_script] [V.ref 0]).reverse) n_post (V.ref h.length)) n_depth (V.int 0)) (h := h ++ [[]])
    ⟨[], 0, ⟨by simp only [upd, ne_law_post, if_false]; rfl, by simp only [upd, ne_law_post, if_false, if_true], by simp [upd], rfl, ⟨⟨[], rfl, rfl⟩, by simp⟩, rfl⟩, .inl rfl⟩
  rw [e1]
  have hD1 : 1 ≤ D ∧ D ≤ m + 1 := by rcases hD with q | q; omega; exact q
  simp only [Option.bind_some, I.depth, bi_sub, show (D : Int) - 1 = ((D - 1 : Nat) : Int) by omega]
  rw [rA1 (by omega)]
  simp only [Option.bind_some]
  obtain ⟨ρ2, h2, e2, ks2, I2⟩ := loop_range (n := D - 1) (f := law_post_l533 (d + 1) h.length) (fun i ρ h' => ∃ ks2, LQ ns h t (m + 1 + i) ks2 (D - i) ρ h') (fun i hi ρ h' hI => by
      obtain ⟨ks2, I⟩ := hI
      obtain ⟨E, hE⟩ : ∃ E, D - i = E + 2 := ⟨D - i - 2, by omega⟩
      rw [hE] at I
      obtain ⟨ρ', h'', ks', e, I'⟩ := lp_tail d (y := .int i) h0 (by omega) I
      refine ⟨ρ', h'', e, ks', ?_⟩
      rw [show D - (i + 1) = E + 1 by omega]
      exact I')
    (ρ := ρ1) (h := h1) ⟨ks, I.script, I.post, I.heap, I.px, I.len⟩
  rw [e2]
  have hh := I2.heap
  subst hh
  simp only [Option.bind_some, I2.post]
  obtain ⟨fs, f1, f2⟩ := I2.px.sem
  have hl := I2.len
  rw [show D - (D - 1) = 1 by omega] at f2
  match fs, f2 with
  | [f], _ => exact ⟨ks2, f, rfl, f1, I2.px.fine, by omega⟩
end Mine
end

section
set_option autoImplicit false
set_option maxRecDepth 100000
namespace Mine
open PySem Builtin Builtin.Str

theorem foldl_app (z : Str) : ∀ (ps : List Str) (acc : Array Nat),
    (ps.foldl (fun acc p => acc ++ z.cps ++ p.cps) acc).toList = acc.toList ++ (ps.map (fun p => z.cps.toList ++ p.cps.toList)).flatten
  | [], acc => by simp
  | p :: ps, acc => by rw [List.foldl_cons, foldl_app z ps]; simp
theorem strsOf_marks : ∀ l : List Nat, strsOf (l.map fun m => V.str ⟨#[m]⟩) = some (l.map fun m => (⟨#[m]⟩ : Str))
  | [] => rfl
  | m :: l => by simp only [List.map_cons, strsOf, strsOf_marks l, Option.map_some]
theorem foldl_len : ∀ (l : List Nat) (n : Nat), (l.map fun m => (⟨#[m]⟩ : Str)).foldl (fun a s => a + s.length + (⟨#[]⟩ : Str).length) n = n + l.length
  | [], n => by simp
  | m :: l, n => by
    rw [List.map_cons, List.foldl_cons, foldl_len l]
    simp [Str.length]
    omega
theorem join_marks (b : Nat) {h : Hp} {a : Nat} {l : List Nat} (e : h[a]? = some (l.map fun m => V.str ⟨#[m]⟩)) (hl : l.length ≤ 1000) : callM b m_join (.str ⟨#[]⟩) [.ref a] h = some (.str (S l), h) := by
  rw [join_str]
  simp only [e, Option.bind_some, strsOf_marks]
  have hj : JoinOk ⟨#[]⟩ (l.map fun m => (⟨#[m]⟩ : Str)) = true := by
    unfold JoinOk Builtin.Str.tooLong
    rw [List.foldl_toArray, foldl_len, sizeLine_val]
    simp
    omega
  rw [if_pos hj]
  congr 3
  unfold Txt.join Builtin.Str.glued
  have : ((((l.map fun m => (⟨#[m]⟩ : Str)).drop 1).foldl (fun acc p => acc ++ (⟨#[]⟩ : Str).cps ++ p.cps) ((l.map fun m => (⟨#[m]⟩ : Str)).headD Str.empty).cps)) = l.toArray := by
    rw [← Array.toList_inj, foldl_app ⟨#[]⟩]
    cases l with
    | nil => rfl
    | cons m l =>
      simp only [List.map_cons, List.headD_cons, List.drop_succ_cons, List.drop_zero, List.map_map]
      simp only [List.cons_append, List.nil_append, Function.comp_def, List.flatten_eq_flatMap, List.flatMap_map]
      simp
  rw [this]
  rfl

theorem nfa_of (d : Nat) {h0 : Hp} {t : List Nat} {E : List (List Edge)} {s a n : Nat} {f : Bf} {st : List (Nat × Nat)} (F : Frag t E 0 E.length s a f) (hl : E.length ≤ 2 * n) (hsm : ∀ es ∈ E, es.length ≤ 4 * n) (hn : n ≤ 12) :
    ∃ L, (G (d + 3)).fn f_nfa_accepts [.tup [.int s, .int a, .ref h0.length], .str (S t)] (th h0 E st) = some (.bool (f 0 t.length), th h0 E st ++ L) := by
  refine nfa_spec d th_edges F.s2 (by omega) (fun u es hu => ⟨?_, fun x hx => (F.cl u es (Nat.zero_le _) (List.getElem?_eq_some_iff.mp hu).1 hu x hx).2⟩) (F.ok 0 t.length (Nat.zero_le _))
  have := hsm es (List.mem_of_getElem? hu)
  omega
theorem machine_spec (d : Nat) {h : Hp} {a0 : Nat} {ks : List K8} {t : List Nat} {f : Bf} (ha : h[a0]? = some (ks.map K8.tup)) (hok : ∀ k ∈ ks, k.fine) (hs : sms t ks [] = some [f]) (hn : ks.length ≤ 12) (ht : t.length ≤ 3) :
    ∃ L, (G (d + 6)).fn f_law_the_set_machine_means_it [.ref a0, .str (S t)] h = some (.bool true, h ++ L) := by
  rw [show d + 6 = (d + 4) + 2 from rfl, law_the_set_machine_means_it_eq]
  unfold law_the_set_machine_means_it_s
  obtain ⟨E, s, a, e1, F, hl, hsm⟩ := thompson_spec (d + 3) ha (fun k hk => (hok k hk).1) hs (by omega)
  obtain ⟨L1, e2⟩ := nfa_of (d + 2) (h0 := h) (st := [(s, a)]) F hl hsm hn
  have ha2 : (th h E [(s, a)] ++ L1)[a0]? = some (ks.map K8.tup) := get_pre _ (th_pre ha)
  obtain ⟨L2, e3⟩ := means_spec d ha2 hs (by omega) (by omega)
  simp only [show d + 4 + 1 = d + 3 + 2 from rfl, e1, Option.bind_some]
  rw [show d + 3 + 2 = d + 2 + 3 from rfl, e2]
  simp only [Option.bind_some]
  rw [show d + 2 + 3 = d + 5 from rfl, e3]
  simp only [Option.bind_some, cb_eq, BEq.rfl]
  have hth : ∃ L, th h E [(s, a)] = h ++ L := ⟨_, rfl⟩
  obtain ⟨L0, h0⟩ := hth
  exact ⟨L0 ++ L1 ++ L2, by rw [h0]; simp⟩

noncomputable def sgn (x : Int) : Nat := (([97, 97, 98, 98, 48, 46, 90, 42] : List Nat)[(x.fmod 8).toNat]?).getD 97
theorem sgn_idx (x : Int) (h : Hp) : idx (V.str ⟨#[97, 97, 98, 98, 48, 46, 90, 42]⟩) (.int (x.fmod 8)) h = some (.str ⟨#[sgn x]⟩) := by
  have g0 := fmod_lo x (b := 8) (by decide)
  have g1 := fmod_hi x (b := 8) (by decide)
  obtain ⟨m, hm⟩ := Int.eq_ofNat_of_zero_le g0
  unfold sgn
  rw [hm] at g1 ⊢
  rcases lt8 (show m < 8 by omega) with rfl | rfl | rfl | rfl | rfl | rfl | rfl | rfl <;> rfl
theorem sgn_lt (x : Int) : sgn x < 0x110000 := by
  unfold sgn
  generalize (x.fmod 8).toNat = m
  cases h : ([97, 97, 98, 98, 48, 46, 90, 42] : List Nat)[m]? with
  | none => decide
  | some c => exact (show ∀ c ∈ ([97, 97, 98, 98, 48, 46, 90, 42] : List Nat), c < 0x110000 by decide) c (List.mem_of_getElem? h)

theorem run40 (ns : List Int) : ∃ H', (G 8).fn f_law [.ref 0] [ns.map V.int] = some (.bool true, H') := by
  rw [show (8 : Nat) = 6 + 2 from rfl, law_eq]
  unfold law_s
  generalize hh : ([ns.map V.int] : Hp) = h
  have h0 : h[0]? = some (ns.map V.int) := by rw [← hh]; rfl
  have c0 : (G (6 + 1)).fn f_law_cell [.ref 0, .int 0] h = some (.int (cell ns 0), h) := cell_spec 5 ns 0 h h0
  have g0 := fmod_lo (cell ns 0) (b := 4) (by decide)
  have g1 := fmod_hi (cell ns 0) (b := 4) (by decide)
  obtain ⟨n, hn⟩ := Int.eq_ofNat_of_zero_le g0
  rw [hn] at g1
  simp only [c0, Option.bind_some, bi_mod _ _ (b := 4) (by decide), hn]
  rw [rA1 (by omega)]
  simp only [Option.bind_some]
  have hrl : (rangeV 0 (n : Int)).length = n := by simp [rangeV]
  generalize ht : ((List.range n).map fun i => sgn (cell ns (1 + i))) = t
  have hcomp : loopL none (rangeV 0 (n : Int)) (fun x658 h659 => 
      (binop .Add (V.int (1)) x658 h659).bind fun p661 =>
      ((G (6 + 1)).fn f_law_cell [V.ref 0, p661.1] p661.2).bind fun p662 =>
      (binop .Mod p662.1 (V.int (8)) p662.2).bind fun p663 =>
      (idx (V.str ⟨#[97, 97, 98, 98, 48, 46, 90, 42]⟩) p663.1 p663.2).bind fun v664 =>
      appendTo h.length v664 p663.2) (rangeV 0 (n : Int)) (h ++ [[]]) = some (h ++ [t.map fun m => V.str ⟨#[m]⟩]) := by
    rw [loopL_app (v := fun z => V.str ⟨#[sgn (cell ns (1 + vN z))]⟩) _ [] (fun z hz xs hx => by
      obtain ⟨i, hi, rfl⟩ := rangeV_mem hz
      have c1 : (G (6 + 1)).fn f_law_cell [V.ref 0, .int (1 + i)] (h ++ [xs]) = some (.int (cell ns (1 + i)), h ++ [xs]) := by
        have := cell_spec 5 ns (1 + i) (h ++ [xs]) (get_pre _ h0)
        rw [show (((1 + i : Nat) : Int)) = 1 + (i : Int) by omega] at this
        exact this
      simp only [bi_add, Option.bind_some, c1, bi_mod _ _ (b := 8) (by decide), sgn_idx]
      rw [appendTo_last _ (by omega)]
      rfl) (by rw [hrl]; simp; omega)]
    congr 3
    rw [← ht]
    simp only [rangeV, List.map_map, show ((n : Int) - 0).toNat = n by omega, List.nil_append]
    apply List.map_congr_left
    intro j _
    simp [vN]
  rw [hcomp]
  have hlen : t.length = n := by rw [← ht]; simp
  have hw : Wok t := fun c hc => by
    rw [← ht] at hc
    obtain ⟨i, _, rfl⟩ := List.mem_map.mp hc
    exact sgn_lt _
  simp only [Option.bind_some, join_marks _ (get_last h _) (show t.length ≤ 1000 by omega)]
  generalize hH : h ++ [t.map fun m => V.str ⟨#[m]⟩] = H
  have hH0 : H[0]? = some (ns.map V.int) := by rw [← hH]; exact get_pre _ h0
  obtain ⟨ks, f, p1, p2, p3, p4⟩ := post_spec 4 t hH0
  rw [show (6 : Nat) + 1 = 4 + 3 from rfl, p1]
  simp only [Option.bind_some]
  have hadd : binop .Add (.ref H.length) (.ref (H ++ [ks.map K8.tup]).length) (H ++ [ks.map K8.tup] ++ [[]]) = some (.ref (H ++ [ks.map K8.tup] ++ [[]]).length, H ++ [ks.map K8.tup] ++ [[]] ++ [ks.map K8.tup ++ []]) :=
    bl_add _ (get_pre _ (get_last H _)) (get_last _ _) (by rw [sizeLine_val]; simp; omega)
  simp only [hadd, Option.bind_some, List.append_nil]
  generalize hK : H ++ [ks.map K8.tup] ++ [[]] = K
  have hKp : K[H.length]? = some (ks.map K8.tup) := by rw [← hK]; exact get_pre _ (get_last H _)
  obtain ⟨L1, m1⟩ := machine_spec 1 (get_pre [ks.map K8.tup] hKp) p3 p2 p4 (by omega)
  rw [show (4 : Nat) + 3 = 1 + 6 from rfl, m1]
  simp only [Option.bind_some, cb_isNot, show (true != true) = false from rfl, Bool.false_eq_true, if_false]
  rw [cl_ne (get_pre _ (get_pre _ hKp)) (get_pre _ (get_last K _)) (fun v hv => by
    obtain ⟨k, hk, rfl⟩ := List.mem_map.mp hv
    refine K8.rd_ok ?_
    rw [← Array.all_toList, List.all_eq_true]
    intro c hc
    exact decide_eq_true ((p3 k hk).2 c hc))]
  simp only [Option.bind_some, Bool.false_eq_true, if_false]
  have hKp2 : (K ++ [ks.map K8.tup] ++ L1)[H.length]? = some (ks.map K8.tup) := get_pre _ (get_pre _ hKp)
  obtain ⟨L2, r1⟩ := reads_spec 3 hKp2 p2 p4 (by omega) hw p3
  rw [show (1 : Nat) + 6 = 3 + 4 from rfl, r1]
  simp only [Option.bind_some]
  obtain ⟨E, s, a, e1, F, hl, hsm⟩ := thompson_spec 5 (get_pre L2 hKp2) (fun k hk => (p3 k hk).1) p2 (by omega)
  rw [show (3 : Nat) + 4 = 5 + 2 from rfl, e1]
  simp only [Option.bind_some]
  obtain ⟨L3, e2⟩ := nfa_of 4 (h0 := K ++ [ks.map K8.tup] ++ L1 ++ L2) (st := [(s, a)]) F hl hsm p4
  rw [show (5 : Nat) + 2 = 4 + 3 from rfl, e2]
  simp only [Option.bind_some, cb_ne, BEq.rfl, Bool.not_true, Bool.false_eq_true, if_false]
  exact ⟨_, rfl⟩
end Mine
end

open PySem PySem.W PyProof.Rows
set_option maxRecDepth 100000
set_option maxHeartbeats 8000000
namespace Mine
open_top hdT for PySem.Challenge.rw_k12_0040
theorem topT (P : Params) : TopK PySem.Challenge.pw_k12_0040 (hdT.heap_39 P) (esOf (hdT.heap_39 P)) tv [] := by
  refine ⟨⟨_, _, rfl, rfl⟩, by kernel_rfl, by kernel_rfl, AllP.all ?_⟩
  refine And.intro ⟨19, _, _, 18, _, _, _, rfl, rfl, rfl, ⟨rfl, rfl, rfl, rfl, rfl, rfl, rfl, rfl, bind_1 rfl (fun _ => rfl), rfl, rfl⟩, rfl, rfl, rfl, rfl⟩ ?_
  refine And.intro ⟨26, _, _, 25, _, _, _, rfl, rfl, rfl, ⟨rfl, rfl, rfl, rfl, rfl, rfl, rfl, rfl, bind_3 rfl (fun _ _ _ => rfl), rfl, rfl⟩, rfl, rfl, rfl, rfl⟩ ?_
  refine And.intro ⟨33, _, _, 32, _, _, _, rfl, rfl, rfl, ⟨rfl, rfl, rfl, rfl, rfl, rfl, rfl, rfl, bind_2 rfl (fun _ _ => rfl), rfl, rfl⟩, rfl, rfl, rfl, rfl⟩ ?_
  refine And.intro ⟨38, _, _, 37, _, _, _, rfl, rfl, rfl, ⟨rfl, rfl, rfl, rfl, rfl, rfl, rfl, rfl, bind_2 rfl (fun _ _ => rfl), rfl, rfl⟩, rfl, rfl, rfl, rfl⟩ ?_
  refine And.intro ⟨45, _, _, 44, _, _, _, rfl, rfl, rfl, ⟨rfl, rfl, rfl, rfl, rfl, rfl, rfl, rfl, bind_1 rfl (fun _ => rfl), rfl, rfl⟩, rfl, rfl, rfl, rfl⟩ ?_
  refine And.intro ⟨52, _, _, 51, _, _, _, rfl, rfl, rfl, ⟨rfl, rfl, rfl, rfl, rfl, rfl, rfl, rfl, bind_2 rfl (fun _ _ => rfl), rfl, rfl⟩, rfl, rfl, rfl, rfl⟩ ?_
  refine And.intro ⟨59, _, _, 58, _, _, _, rfl, rfl, rfl, ⟨rfl, rfl, rfl, rfl, rfl, rfl, rfl, rfl, bind_1 rfl (fun _ => rfl), rfl, rfl⟩, rfl, rfl, rfl, rfl⟩ ?_
  refine And.intro ⟨66, _, _, 65, _, _, _, rfl, rfl, rfl, ⟨rfl, rfl, rfl, rfl, rfl, rfl, rfl, rfl, bind_2 rfl (fun _ _ => rfl), rfl, rfl⟩, rfl, rfl, rfl, rfl⟩ ?_
  refine And.intro ⟨73, _, _, 72, _, _, _, rfl, rfl, rfl, ⟨rfl, rfl, rfl, rfl, rfl, rfl, rfl, rfl, bind_3 rfl (fun _ _ _ => rfl), rfl, rfl⟩, rfl, rfl, rfl, rfl⟩ ?_
  refine And.intro ⟨80, _, _, 79, _, _, _, rfl, rfl, rfl, ⟨rfl, rfl, rfl, rfl, rfl, rfl, rfl, rfl, bind_2 rfl (fun _ _ => rfl), rfl, rfl⟩, rfl, rfl, rfl, rfl⟩ ?_
  refine And.intro ⟨87, _, _, 86, _, _, _, rfl, rfl, rfl, ⟨rfl, rfl, rfl, rfl, rfl, rfl, rfl, rfl, bind_2 rfl (fun _ _ => rfl), rfl, rfl⟩, rfl, rfl, rfl, rfl⟩ ?_
  refine And.intro ⟨95, _, _, 94, _, _, _, rfl, rfl, rfl, ⟨rfl, rfl, rfl, rfl, rfl, rfl, rfl, rfl, bind_2 rfl (fun _ _ => rfl), rfl, rfl⟩, rfl, rfl, rfl, rfl⟩ ?_
  refine And.intro ⟨102, _, _, 101, _, _, _, rfl, rfl, rfl, ⟨rfl, rfl, rfl, rfl, rfl, rfl, rfl, rfl, bind_1 rfl (fun _ => rfl), rfl, rfl⟩, rfl, rfl, rfl, rfl⟩ ?_
  refine And.intro ⟨107, _, _, 106, _, _, _, rfl, rfl, rfl, ⟨rfl, rfl, rfl, rfl, rfl, rfl, rfl, rfl, bind_3 rfl (fun _ _ _ => rfl), rfl, rfl⟩, rfl, rfl, rfl, rfl⟩ ?_
  refine And.intro ⟨114, _, _, 113, _, _, _, rfl, rfl, rfl, ⟨rfl, rfl, rfl, rfl, rfl, rfl, rfl, rfl, bind_3 rfl (fun _ _ _ => rfl), rfl, rfl⟩, rfl, rfl, rfl, rfl⟩ ?_
  refine And.intro ⟨119, _, _, 118, _, _, _, rfl, rfl, rfl, ⟨rfl, rfl, rfl, rfl, rfl, rfl, rfl, rfl, bind_2 rfl (fun _ _ => rfl), rfl, rfl⟩, rfl, rfl, rfl, rfl⟩ ?_
  refine And.intro ⟨124, _, _, 123, _, _, _, rfl, rfl, rfl, ⟨rfl, rfl, rfl, rfl, rfl, rfl, rfl, rfl, bind_1 rfl (fun _ => rfl), rfl, rfl⟩, rfl, rfl, rfl, rfl⟩ ?_
  exact True.intro
theorem topL (P : Params) : ∀ p ∈ ([] : Hp).zip [], TopL (hdT.heap_39 P) [] p := by
  refine AllP.all ?_
  exact True.intro
theorem runT (ns : List Int) : ∃ H', (globs PySem.Challenge.pw_k12_0040 (fun x => tv.lookup x) false 8).fn "law" [.ref ([] : Hp).length] (([] : Hp) ++ [ns.map V.int]) = some (.bool true, H') := by
  rw [show ("law" : Str) = f_law by decide +kernel]
  exact run40 ns
end Mine
theorem PySem.Challenge.cw_k12_0040_holds : PySem.Challenge.rw_k12_0040.Holds :=
  Mine.hdT (by
    k_fill
    intro w s₀ s₁ mg mb G Y fa o pm cd doc dV kV ho hd hcd hD hmg hg args vals as hpre hlay hrd hwl hlo
    have KX := kIn_of Y
    refine Ground.open G ?_
    intro T B D TE TW
    clear hd hcd hD
    wrow_args hpre hlay hrd hwl hlo
    rename List Int => ns
    rename IntsAre _ _ => hI
    rename Well _ _ _ _ => hw
    rename Heap.IsList _ _ _ => hL
    rename ¬ _ => hlen
    obtain ⟨H', hrun⟩ := Mine.runT ns
    exact Mine.law_glue (Mine.topT w.params) rfl (by decide) (Mine.topL w.params) KX T.g T.b T.builtins T.nolimit hmg rfl (Mine.plain_of hw hL) hI (by omega) (by decide) hrun fun h' tk hk => Mine.good_end (fun _ => rfl) (by first | kernel_rfl | exact postW_of rfl (w_eq_bool (w_res rfl) w_lit) rfl) hk hg)
