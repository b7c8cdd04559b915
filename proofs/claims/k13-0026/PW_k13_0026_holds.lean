import PyProof.Rows.All
import Wide.All
import OpenK.AllK
import Wide.FinOn
import PySem.Challenge.RW_k13_0026
set_option autoImplicit false
namespace Mine
open PySem PySem.Spec PySem.Calls PyProof.Rows

/-! ## the pure evaluator -/
inductive Md where | val | own | brw
  deriving DecidableEq
structure Bd where
  m : Md
  d : PyData
abbrev Rho := List (Str × Bd)
abbrev Kd := Str → Option NameKind
abbrev Fns := Str → Option (List Bool × (List PyData → Option PyData))

noncomputable def mapO {α β : Type} (f : α → Option β) : List α → Option (List β)
  | [] => some []
  | x :: r => (f x).bind fun y => (mapO f r).bind fun ys => some (y :: ys)
noncomputable def mapF (f : Bool → Expr → Option PyData) : List Bool → List Expr → Option (List PyData)
  | [], [] => some []
  | b :: bs, e :: es => (f b e).bind fun y => (mapF f bs es).bind fun ys => some (y :: ys)
  | _, _ => none

noncomputable def dep : Nat → PyData → Bool
  | _, .none => true
  | _, .bool _ => true
  | _, .int _ => true
  | _, .str _ => true
  | n + 1, .list xs => xs.all (dep n)
  | n + 1, .tuple xs => xs.all (dep n)
  | _, _ => false

noncomputable def constD : Const → Option PyData
  | .none => some .none
  | .bool b => some (.bool b)
  | .int i => some (.int i)
  | .str s => if PyData.strOk s then some (.str s) else none
  | _ => none

noncomputable def binD : Operator → PyData → PyData → Option PyData
  | .Add, .int a, .int b => some (.int (a + b))
  | .Sub, .int a, .int b => some (.int (a - b))
  | .Mult, .int a, .int b => if a = 2 then some (.int (a * b)) else none
  | .FloorDiv, .int a, .int b => if 0 < b ∧ b < 1073741824 then some (.int (a.fdiv b)) else none
  | .Mod, .int a, .int b => if 0 < b ∧ b < 1073741824 then some (.int (a.fmod b)) else none
  | .Add, .list xs, .list ys => if xs.length + ys.length ≤ sizeLine then some (.list (xs ++ ys)) else none
  | _, _, _ => none

noncomputable def unD : UnaryOp → PyData → Option PyData
  | .USub, .int a => some (.int (-a))
  | .Not, .bool b => some (.bool (!b))
  | _, _ => none

noncomputable def isD : PyData → PyData → Option Bool
  | .bool a, .bool b => some (a == b)
  | .none, .none => some true
  | .bool _, .none => some false
  | .none, .bool _ => some false
  | .list _, .none => some false
  | .list _, .bool _ => some false
  | .tuple _, .none => some false
  | .tuple _, .bool _ => some false
  | _, _ => none

noncomputable def keyIn (kvs : List (PyData × PyData)) (k : Int) : Option PyData :=
  match kvs with
  | [] => none
  | (.int j, d) :: r => if j = k then some d else keyIn r k
  | _ :: r => keyIn r k

noncomputable def inD (a : PyData) : PyData → Option Bool
  | .list xs => if dep 8 a && xs.all (dep 8) then some (xs.any fun y => PyData.eqv y a) else none
  | .tuple xs => if dep 8 a && xs.all (dep 8) then some (xs.any fun y => PyData.eqv y a) else none
  | .dict kvs => match a with | .int k => some (keyIn kvs k).isSome | _ => none
  | _ => none

noncomputable def cmpD (op : CmpOp) (a b : PyData) : Option Bool :=
  match op with
  | .Eq => if dep 8 a && dep 8 b then some (PyData.eqv a b) else none
  | .NotEq => if dep 8 a && dep 8 b then some (!PyData.eqv a b) else none
  | .Lt => match a, b with | .int i, .int j => some (decide (i < j)) | _, _ => none
  | .LtE => match a, b with | .int i, .int j => some (decide (i ≤ j)) | _, _ => none
  | .Gt => match a, b with | .int i, .int j => some (decide (i > j)) | _, _ => none
  | .GtE => match a, b with | .int i, .int j => some (decide (i ≥ j)) | _, _ => none
  | .Is => isD a b
  | .IsNot => (isD a b).map (!·)
  | .In => inD a b
  | .NotIn => (inD a b).map (!·)

noncomputable def inFit (i : Int) : Bool := decide (-(2 ^ 63) ≤ i) && decide (i < 2 ^ 63)

noncomputable def idxD : PyData → PyData → Option PyData
  | .list xs, .int i => if inFit i then (seqIndex? i xs.length).bind fun j => xs[j]? else none
  | .tuple xs, .int i => if inFit i then (seqIndex? i xs.length).bind fun j => xs[j]? else none
  | .dict kvs, .int k => keyIn kvs k
  | _, _ => none

noncomputable def slD (xs : List PyData) (lo hi st : Option Int) : List PyData :=
  (sliceRange (sliceBounds lo hi st xs.length).1 (sliceBounds lo hi st xs.length).2.1 (sliceBounds lo hi st xs.length).2.2).filterMap fun j => xs[j]?

noncomputable def asBool : PyData → Option Bool
  | .bool b => some b
  | _ => none
noncomputable def asPart : PyData → Option (Option Int)
  | .int i => some (some i)
  | _ => none

inductive Bi where | len | abs | sum | sorted | list | isi
  deriving DecidableEq
noncomputable def biOf (f : Str) : Option Bi :=
  [(Str.ofString "len", Bi.len), (Str.ofString "abs", Bi.abs), (Str.ofString "sum", Bi.sum), (Str.ofString "sorted", Bi.sorted), (Str.ofString "list", Bi.list), (Str.ofString "isinstance", Bi.isi)].lookup f
noncomputable def intsOf : List PyData → Option (List Int)
  | [] => some []
  | .int i :: r => (intsOf r).bind fun l => some (i :: l)
  | _ => none
noncomputable def isBoolD : PyData → Bool
  | .bool _ => true
  | _ => false

noncomputable def insI (x : Int) : List Int → List Int
  | [] => [x]
  | y :: r => if x ≤ y then x :: y :: r else y :: insI x r
noncomputable def sortI (l : List Int) : List Int := l.foldr insI []

noncomputable def biD : Bi → List PyData → Option PyData
  | .len, [.list xs] => if xs.length ≤ sizeLine then some (.int xs.length) else none
  | .len, [.tuple xs] => if xs.length ≤ sizeLine then some (.int xs.length) else none
  | .abs, [.int i] => some (.int (if i < 0 then -i else i))
  | .sum, [.list xs] => (intsOf xs).bind fun l => some (.int l.sum)
  | .len, [.dict kvs] => if kvs.length ≤ sizeLine then some (.int kvs.length) else none
  | .list, [.list xs] => if xs.length ≤ sizeLine then some (.list xs) else none
  | .sorted, [.list xs] => (intsOf xs).bind fun l => if l.length < 64 then some (.list ((sortI l).map .int)) else none
  | _, _ => none

noncomputable def boolGo (f : Expr → Option PyData) (op : BoolOp) : List Expr → Option PyData
  | [] => none
  | [x] => f x
  | x :: rest => (f x).bind fun d => match d with
    | .bool b => match op, b with
      | .And, false => some (.bool b)
      | .Or, true => some (.bool b)
      | _, _ => boolGo f op rest
    | _ => none
noncomputable def allGo (f : Expr → Option Bool) (op : BoolOp) : List Expr → Option Bool
  | [] => some (op == .And)
  | x :: rest => (f x).bind fun b => match op, b with
    | .And, false => some false
    | .Or, true => some true
    | _, _ => allGo f op rest

noncomputable def compGo (f : PyData → Option (Option PyData)) : List PyData → Option (List PyData)
  | [] => some []
  | d :: r => (f d).bind fun o => (compGo f r).bind fun ys => some (match o with | some y => y :: ys | none => ys)

noncomputable def testsB (f : Rho → Expr → Option Bool) (ifs : List Expr) (ρ : Rho) : Option Bool := allGo (f ρ) .And ifs
noncomputable def elB (f : Rho → Bool → Expr → Option PyData) (elt : Expr) (ρ : Rho) : Option PyData := f ρ false elt

noncomputable def nameD (ρ : Rho) (rd : Bool) (x : Str) : Option PyData :=
  (ρ.lookup x).bind fun b => if (rd || b.m == .val) && !(x == Str.ofString "__debug__") then some b.d else none

noncomputable def isGlob (K : Kd) (f : Str) (x : Str) : Bool := x == f && K x == some .globalImplicit
noncomputable def typeArg? (K : Kd) : Expr → Option Expr
  | .Call (.Name f _) [e] [] _ => if isGlob K (Str.ofString "type") f then some e else none
  | _ => none
noncomputable def isBoolName (K : Kd) : Expr → Bool
  | .Name x _ => isGlob K (Str.ofString "bool") x
  | _ => false
noncomputable def rangeArgs? (K : Kd) : Expr → Option (List Expr)
  | .Call (.Name f _) args [] _ => if isGlob K (Str.ofString "range") f then some args else none
  | _ => none

noncomputable def rangeL (a b : Int) : List PyData := (List.range (b - a).toNat).map fun (i : Nat) => PyData.int (a + i)
noncomputable def smallI (i : Int) : Bool := decide (-(2 ^ 23) ≤ i) && decide (i ≤ 2 ^ 23)
noncomputable def rangeD : List PyData → Option (List PyData)
  | [.int b] => if smallI b then some (rangeL 0 b) else none
  | [.int a, .int b] => if smallI a && smallI b then some (rangeL a b) else none
  | _ => none
noncomputable def itemsD : PyData → Option (List PyData)
  | .list xs => if xs.length ≤ sizeLine then some xs else none
  | _ => none

noncomputable def relN (names : List (Str × NameKind)) (K : Kd) : List (Str × NameKind) :=
  names.map fun (n, k) => if (k == .free && K n == some .cell) then (n, .cell) else (n, k)
noncomputable def capt (sc : Scope) (ρ : Rho) : Rho := ρ.filter fun p => sc.names.lookup p.1 == some .free
noncomputable def compSc (sc : Scope) (K : Kd) : Bool :=
  (sc.names.lookup (Str.ofString "all")).isNone && sc.kind == .function && sc.names.all (fun p => p.2 != .cell && sc.names.lookup p.1 == some p.2)
    && sc.names.all (fun p => p.2 != .free || ((K p.1 == some .cell || K p.1 == some .free) && !(p.1 == Str.ofString "__classdict__")))

noncomputable def genSc (sc : Scope) (K : Kd) (x d : Str) : Bool :=
  sc.kind == .function && !sc.isCoroutine && sc.names.all (fun p => p.2 != .cell) && sc.names.all (fun p => p.2 != .free || ((K p.1 == some .cell || K p.1 == some .free) && !(p.1 == Str.ofString "__classdict__")))
    && sc.names.lookup (Str.ofString ".0") == some .local && sc.names.lookup x == some .local && sc.names.lookup d == some .free && !(d == Str.ofString "__debug__") && !(x == Str.ofString "__debug__")
noncomputable def allD : PyData → Option Bd → Option PyData
  | .list xs, some ⟨_, .dict D⟩ => if xs.length ≤ sizeLine then (intsOf xs).bind fun l => some (.bool (l.all fun i => (keyIn D i).isNone)) else none
  | _, _ => none
noncomputable def setR : Rho → Str → Bd → Rho
  | [], x, b => [(x, b)]
  | (y, c) :: r, x, b => if x == y then (y, b) :: r else (y, c) :: setR r x b
noncomputable def bindC (sc : Scope) : Expr → PyData → Rho → Option Rho
  | .Name x _, d, ρ => if sc.names.lookup x == some .local then some (setR ρ x ⟨.val, d⟩) else none
  | .Tuple [.Name x _, .Name y _] _ _, .tuple [d, e], ρ => if sc.names.lookup x == some .local && sc.names.lookup y == some .local && !(x == y) then some (setR (setR ρ x ⟨.val, d⟩) y ⟨.val, e⟩) else none
  | _, _, _ => none
noncomputable def compB (sc : Scope) (tgt : Expr) (ρ : Rho) (test : Rho → Option Bool) (el : Rho → Option PyData) (d : PyData) : Option (Option PyData) :=
  (bindC sc tgt d ρ).bind fun ρ' => (test ρ').bind fun c => if c then (el ρ').map some else some none
noncomputable def tgtC (sc : Scope) : Expr → Bool
  | .Name x _ => sc.names.lookup x == some .local
  | .Tuple [.Name x _, .Name y _] _ _ => sc.names.lookup x == some .local && sc.names.lookup y == some .local && !(x == y)
  | _ => false
noncomputable def bindT (K : Kd) : Expr → PyData → Rho → Option Rho
  | .Name x _, d, ρ => if K x == some .local || K x == some .cell then some (setR ρ x ⟨.val, d⟩) else none
  | _, _, _ => none

noncomputable def tgtT (K : Kd) : Expr → Bool
  | .Name x _ => K x == some .local || K x == some .cell
  | _ => false

mutual
noncomputable def evalE (Φ : Fns) : Nat → Kd → Rho → Bool → Expr → Option PyData
  | 0, _, _, _, _ => none
  | n + 1, K, ρ, rd, e => match e with
    | .Constant c _ _ => constD c
    | .Name x _ => nameD ρ rd x
    | .Tuple es _ _ => (mapO (evalE Φ n K ρ false) es).bind fun ds => if ds.length ≤ sizeLine then some (.tuple ds) else none
    | .List es _ => (mapO (evalE Φ n K ρ false) es).bind fun ds => if ds.length ≤ sizeLine then some (.list ds) else none
    | .Dict ks vs _ => match ks, vs with | [], [] => some (.dict []) | _, _ => none
    | .BinOp l op r _ => (evalE Φ n K ρ true l).bind fun a => (evalE Φ n K ρ true r).bind fun b => binD op a b
    | .UnaryOp op x _ => (evalE Φ n K ρ true x).bind fun a => unD op a
    | .Compare l ops rs _ => match ops, rs with
      | [op], [r] => (cmpE Φ n K ρ l op r).map PyData.bool
      | _, _ => none
    | .BoolOp op vs _ => boolGo (evalE Φ n K ρ rd) op vs
    | .Subscript v i _ => (evalE Φ n K ρ true v).bind fun a => match i with
      | .Slice lo hi st _ => match a with
        | .list xs => (partE Φ n K ρ lo).bind fun l => (partE Φ n K ρ hi).bind fun h => (partE Φ n K ρ st).bind fun s =>
            if s ≠ some 0 ∧ xs.length ≤ sizeLine then some (.list (slD xs l h s)) else none
        | _ => none
      | i => (evalE Φ n K ρ true i).bind fun k => idxD a k
    | .Call f args kws _ => match f, kws with
      | .Name g _, [] => if g == Str.ofString "all" && K g == some .globalImplicit then match args with
          | [.GeneratorExp elt gens sc _] => match gens with
            | [⟨tgt, iter, ifs, asy⟩] => match tgt, iter, ifs, elt with
              | .Name x _, .Call cf ca ck cp, [], .Compare (.Name v _) [.NotIn] [.Name d _] _ => if asy == 0 && v == x && genSc sc K x d then (evalE Φ n K ρ true (.Call cf ca ck cp)).bind fun r => allD r (ρ.lookup d) else none
              | _, _, _, _ => none
            | _ => none
          | _ => none
        else if K g == some .globalImplicit && !(g == Str.ofString "__debug__") then
          match biOf g with
          | some .isi => match args with
            | [e, t] => if isBoolName K t then (evalE Φ n K ρ true e).bind fun d => if isBoolD d then some (.bool true) else none else none
            | _ => none
          | some b => (mapO (evalE Φ n K ρ true) args).bind fun ds => biD b ds
          | none => match Φ g with
            | some (fl, F) => (mapF (evalE Φ n K ρ) fl args).bind fun ds => F ds
            | none => none
        else none
      | _, _ => none
    | .ListComp elt gens sc _ => match gens with
      | [⟨tgt, iter, ifs, asy⟩] => if asy == 0 && compSc sc K && tgtC sc tgt then
          (itemsE Φ n K ρ true iter).bind fun items => (compGo (compB sc tgt (capt sc ρ) (testsB (testE Φ n (fun x => (relN sc.names K).lookup x)) ifs) (elB (evalE Φ n (fun x => (relN sc.names K).lookup x)) elt)) items).map PyData.list
        else none
      | _ => none
    | _ => none
noncomputable def partE (Φ : Fns) : Nat → Kd → Rho → Option Expr → Option (Option Int)
  | 0, _, _, _ => none
  | n + 1, K, ρ, e => match e with
    | none => some none
    | some e => (evalE Φ n K ρ true e).bind asPart
noncomputable def cmpE (Φ : Fns) : Nat → Kd → Rho → Expr → CmpOp → Expr → Option Bool
  | 0, _, _, _, _, _ => none
  | n + 1, K, ρ, l, op, r => if behindInMarks op r then none else match typeArg? K l with
    | some e => if isBoolName K r then (evalE Φ n K ρ true e).bind fun d => if isBoolD d then match op with
          | .Is => some true
          | .IsNot => some false
          | _ => none
        else none
      else none
    | none => (evalE Φ n K ρ true l).bind fun a => (evalE Φ n K ρ true r).bind fun b => cmpD op a b
noncomputable def itemsE (Φ : Fns) : Nat → Kd → Rho → Bool → Expr → Option (List PyData)
  | 0, _, _, _, _ => none
  | n + 1, K, ρ, rd, e => match rangeArgs? K e with
    | some args => (mapO (evalE Φ n K ρ true) args).bind rangeD
    | none => (evalE Φ n K ρ rd e).bind itemsD
noncomputable def testE (Φ : Fns) : Nat → Kd → Rho → Expr → Option Bool
  | 0, _, _, _ => none
  | n + 1, K, ρ, e => match e with
    | .UnaryOp .Not x _ => (testE Φ n K ρ x).map (!·)
    | .BoolOp op vs _ => allGo (testE Φ n K ρ) op vs
    | .IfExp _ _ _ _ => none
    | .Compare l ops rs _ => match ops, rs with
      | [op], [r] => cmpE Φ n K ρ l op r
      | _, _ => none
    | e => (evalE Φ n K ρ true e).bind asBool
end

inductive Fl where | next | ret (d : PyData)

noncomputable def thaw (ρ : Rho) : Rho := ρ.map fun p => (p.1, if p.2.m == .own then ⟨.val, p.2.d⟩ else p.2)
noncomputable def isFresh : Expr → PyData → Md
  | .List _ _, .list _ => .own
  | .BinOp _ .Add _ _, .list _ => .own
  | .Dict _ _ _, .dict _ => .own
  | _, _ => .val

noncomputable def ownN (x : Str) : Bool := [Str.ofString "built", Str.ofString "met", Str.ofString "out", Str.ofString "s", Str.ofString "work", Str.ofString "names", Str.ofString "held", Str.ofString "renaming", Str.ofString "same", Str.ofString "todo", Str.ofString "types"].contains x
noncomputable def frM (x : Str) (v : Expr) (d : PyData) : Md := if ownN x then isFresh v d else .val
noncomputable def seqGo (f : Rho → Stmt → Option (Fl × Rho)) : Rho → List Stmt → Option (Fl × Rho)
  | ρ, [] => some (.next, ρ)
  | ρ, st :: r => (f ρ st).bind fun p => match p.1 with
    | .next => seqGo f p.2 r
    | _ => some p
noncomputable def runB (f : Rho → Stmt → Option (Fl × Rho)) (body : List Stmt) (ρ : Rho) : Option (Fl × Rho) := seqGo f ρ body
noncomputable def forGo (f : Rho → PyData → Option (Fl × Rho)) : Rho → List PyData → Option (Fl × Rho)
  | ρ, [] => some (.next, ρ)
  | ρ, d :: r => (f ρ d).bind fun p => match p.1 with
    | .next => forGo f p.2 r
    | .ret d => some (.ret d, p.2)
noncomputable def notComp : Expr → Bool
  | .ListComp _ _ _ _ => false
  | .SetComp _ _ _ _ => false
  | .DictComp _ _ _ _ _ => false
  | _ => true
noncomputable def isKey (c : Int) : PyData → Bool
  | .int j => decide (j = c)
  | _ => false
noncomputable def putI (D : List (PyData × PyData)) (c : Int) (d : PyData) : List (PyData × PyData) :=
  if D.any fun p => isKey c p.1 then D.map fun p => if isKey c p.1 then (p.1, d) else p else D ++ [(.int c, d)]

noncomputable def execS (Φ : Fns) (wf : Nat) : Nat → Kd → Rho → Stmt → Option (Fl × Rho)
  | 0, _, _, _ => none
  | n + 1, K, ρ, st => match st with
    | .Pass _ => some (.next, ρ)
    | .Return v _ => match v with
      | some e => (evalE Φ n K (thaw ρ) false e).map fun d => (.ret d, ρ)
      | none => none
    | .If t b o _ => (testE Φ n K ρ t).bind fun c => if c then seqGo (execS Φ wf n K) ρ b else seqGo (execS Φ wf n K) ρ o
    | .Assign ts v _ => match ts with
      | [.Name x _] => if K x == some .local || K x == some .cell then
          (evalE Φ n K ρ false v).map fun d => (.next, setR ρ x ⟨frM x v d, d⟩)
        else none
      | [.Subscript o i _] => match o with
        | .Name x _ => if notComp v && !(x == Str.ofString "__debug__") then match ρ.lookup x with
          | some ⟨.own, .dict D⟩ => (evalE Φ n K ρ false v).bind fun d => (evalE Φ n K ρ true i).bind fun c => match c with
            | .int c => if D.length ≤ sizeLine then some (.next, setR ρ x ⟨.own, .dict (putI D c d)⟩) else none
            | _ => none
          | _ => none else none
        | _ => none
      | _ => none
    | .Expr v _ => match v with
      | .Call f args kws cpos => match f, args, kws with
        | .Attribute o attr apos, [e], [] => match o with
          | .Name x _ => if attr == Str.ofString "append" && apos.endLine == cpos.line && !(x == Str.ofString "__debug__") then
              match ρ.lookup x with
              | some ⟨.own, .list xs⟩ => (evalE Φ n K ρ false e).bind fun d => if xs.length < sizeLine then some (.next, setR ρ x ⟨.own, .list (xs ++ [d])⟩) else none
              | _ => none
            else none
          | _ => none
        | _, _, _ => none
      | _ => none
    | .For tgt iter body orelse _ => match orelse with
      | [] => if tgtT K tgt then (itemsE Φ n K ρ false iter).bind fun items => forGo (fun ρ d => (bindT K tgt d ρ).bind (runB (execS Φ wf n K) body)) ρ items else none
      | _ => none
    | _ => none

end Mine
set_option autoImplicit false
set_option linter.unusedSectionVars false
set_option linter.unusedVariables false
set_option linter.unusedSimpArgs false
namespace Mine
open PySem PySem.Spec PySem.Calls PyProof.Rows

/-- the one object that may grow: the table of a code object -/
class TB where
  P : Addr
noncomputable def NT (o : Obj) : Prop := o.cls ≠ .none ∨ ∀ ps, o.data ≠ .fields ps
theorem NT.ty {o : Obj} {s : String} (h : o.cls = .type s) : NT o := .inl (by rw [h]; simp)
theorem NT.seq {o : Obj} {vs : Array Value} {n : Nat} (h : o.data = .seq vs n) : NT o := .inr fun ps e => by rw [h] at e; cases e
theorem NT.dict {o : Obj} {es : Array DictEntry} {n : Nat} (h : o.data = .dict es n) : NT o := .inr fun ps e => by rw [h] at e; cases e
theorem NT.cell {o : Obj} {v : Option Value} (h : o.data = .cell v) : NT o := .inr fun ps e => by rw [h] at e; cases e
theorem NT.func {o : Obj} {v : FuncData} (h : o.data = .func v) : NT o := .inr fun ps e => by rw [h] at e; cases e
noncomputable def tabO (ps : Array Value) : Obj := { cls := .none, data := .fields ps }
variable [TB]
noncomputable def Tgrow (h h' : Heap) : Prop := ∀ o, h.get? TB.P = some o → h'.get? TB.P = some o ∨ ∃ ps more, o = tabO ps ∧ h'.get? TB.P = some (tabO (ps ++ more)) ∧ (TriplesOk ps.toList → TriplesOk (ps ++ more).toList)
theorem Tgrow.trans {a b c : Heap} (x : Tgrow a b) (y : Tgrow b c) : Tgrow a c := fun o e => by
  rcases x o e with h | ⟨ps, m, rfl, h, t⟩
  · exact y o h
  · rcases y _ h with h2 | ⟨ps', m', e2, h2, t2⟩
    · exact .inr ⟨ps, m, rfl, h2, t⟩
    · have : ps ++ m = ps' := by unfold tabO at e2; injection e2 with _ _ e3; injection e3
      subst this
      exact .inr ⟨ps, m ++ m', rfl, by rw [h2, Array.append_assoc], fun h => by rw [← Array.append_assoc]; exact t2 (t h)⟩
structure Ext (h h' : Heap) : Prop where
  get : ∀ b o, NT o ∨ b ≠ TB.P → h.get? b = some o → h'.get? b = some o
  grow : Tgrow h h'
theorem Ext.of {h h' : Heap} (k : ∀ b o, h.get? b = some o → h'.get? b = some o) : Ext h h' := ⟨fun b o _ e => k b o e, fun o e => .inl (k _ _ e)⟩
theorem Ext.refl (h : Heap) : Ext h h := .of fun _ _ e => e
theorem Ext.trans {a b c : Heap} (x : Ext a b) (y : Ext b c) : Ext a c := ⟨fun d o n e => y.get d o n (x.get d o n e), x.grow.trans y.grow⟩
theorem Ext.push (h : Heap) (o : Obj) : Ext h (h.push o) := .of fun _ _ e => Heap.get?_push_of_some o e
theorem Ext.there {h h' : Heap} (x : Ext h h') {b : Addr} {o : Obj} (e : h.get? b = some o) : ∃ o', h'.get? b = some o' := by
  by_cases hb : b = TB.P
  · subst hb
    rcases x.grow o e with h | ⟨_, _, _, h, _⟩ <;> exact ⟨_, h⟩
  · exact ⟨o, x.get b o (.inr hb) e⟩
theorem Ext.old {h h' : Heap} (x : Ext h h') {b : Addr} (e : h'.get? b = none) : h.get? b = none := by
  cases hb : h.get? b with
  | none => rfl
  | some o => obtain ⟨o', h2⟩ := x.there hb; rw [e] at h2; cases h2
theorem Ext.nt {h h' : Heap} (x : Ext h h') {b : Addr} {o : Obj} (n : NT o) (e : h.get? b = some o) : h'.get? b = some o := x.get b o (.inl n) e
theorem Ext.ns {h h' : Heap} (x : Ext h h') {a : Addr} {m : Str → Option Value} : h.Ns a m → h'.Ns a m
  | ⟨o, es, ep, e, hd, r⟩ => ⟨o, es, ep, x.nt (.dict hd) e, hd, r⟩
theorem Ext.cell {h h' : Heap} (x : Ext h h') {c : Addr} {v : Option Value} : h.IsCell c v → h'.IsCell c v
  | ⟨o, e, hd⟩ => ⟨o, x.nt (.cell hd) e, hd⟩
theorem Ext.list {h h' : Heap} (x : Ext h h') {c : Addr} {v : Array Value} : h.IsList c v → h'.IsList c v
  | ⟨o, e, hc, hd⟩ => ⟨o, x.nt (.ty hc) e, hc, hd⟩
theorem Ext.nolimit {h h' : Heap} (x : Ext h h') : h.NoLimit → h'.NoLimit
  | ⟨mc, hn, r⟩ => ⟨mc, x.ns hn, r⟩

/-- kept but for the addresses of W -/
structure ExtB (W : List Addr) (h h' : Heap) : Prop where
  get : ∀ b o, NT o ∨ b ≠ TB.P → b ∉ W → h.get? b = some o → h'.get? b = some o
  grow : Tgrow h h'
theorem ExtB.of {W : List Addr} {h h' : Heap} (k : ∀ b o, b ∉ W → h.get? b = some o → h'.get? b = some o) (hP : TB.P ∉ W) : ExtB W h h' := ⟨fun b o _ hb e => k b o hb e, fun o e => .inl (k _ _ hP e)⟩
theorem Ext.toB {W : List Addr} {h h' : Heap} (x : Ext h h') : ExtB W h h' := ⟨fun b o n _ e => x.get b o n e, x.grow⟩
theorem ExtB.trans {W : List Addr} {a b c : Heap} (x : ExtB W a b) (y : ExtB W b c) : ExtB W a c := ⟨fun d o n hd e => y.get d o n hd (x.get d o n hd e), x.grow.trans y.grow⟩
theorem ExtB.sameX {W : List Addr} {a b c : Heap} {C : Addr} (x : ExtB W a b) (y : Heap.ExtBut C b c) (hC : a.get? C = none) (hP : TB.P ≠ C) : ExtB W a c :=
  ⟨fun d o n hd e => y d o (by rintro rfl; rw [hC] at e; cases e) (x.get d o n hd e), x.grow.trans fun o e => .inl (y _ o hP e)⟩
theorem ExtB.same {W : List Addr} {a b c : Heap} {C : Addr} (x : ExtB W a b) (y : Heap.SameBut C b c) (hC : a.get? C = none) (hP : TB.P ≠ C) : ExtB W a c :=
  ⟨fun d o n hd e => y.extBut d o (by rintro rfl; rw [hC] at e; cases e) (x.get d o n hd e), x.grow.trans fun o e => .inl (y.extBut _ o hP e)⟩
theorem Ext.thenB {W : List Addr} {a b c : Heap} (x : Ext a b) (y : ExtB W b c) (hW : ∀ d ∈ W, a.get? d = none) : Ext a c :=
  ⟨fun d o n e => y.get d o n (fun hd => by rw [hW d hd] at e; cases e) (x.get d o n e), x.grow.trans y.grow⟩
theorem ExtB.there {W : List Addr} {h h' : Heap} (x : ExtB W h h') {b : Addr} {o : Obj} (hb : b ∉ W) (e : h.get? b = some o) : ∃ o', h'.get? b = some o' := by
  by_cases hP : b = TB.P
  · subst hP
    rcases x.grow o e with h | ⟨_, _, _, h, _⟩ <;> exact ⟨_, h⟩
  · exact ⟨o, x.get b o (.inr hP) hb e⟩
theorem Ext.same {a b c : Heap} {C : Addr} (x : Ext a b) (y : Heap.SameBut C b c) (hC : a.get? C = none) (hP : TB.P ≠ C) : Ext a c :=
  ⟨fun d o n e => y.extBut d o (by rintro rfl; rw [hC] at e; cases e) (x.get d o n e), x.grow.trans fun o e => .inl (y.extBut _ o hP e)⟩
noncomputable def Tb (h : Heap) : Prop := ∃ ps, h.get? TB.P = some (tabO ps)
theorem Tgrow.tb {h h' : Heap} (x : Tgrow h h') (t : Tb h) : Tb h' := by
  obtain ⟨ps, e⟩ := t
  rcases x _ e with h | ⟨_, _, _, h, _⟩ <;> exact ⟨_, h⟩
theorem Tb.ne {h : Heap} (t : Tb h) {b : Addr} {o : Obj} (e : h.get? b = some o) (n : NT o) : b ≠ TB.P := by
  rintro rfl
  obtain ⟨ps, e2⟩ := t
  rw [e2] at e; cases e
  rcases n with n | n
  · exact n rfl
  · exact n _ rfl
theorem Tb.new {h : Heap} (t : Tb h) {b : Addr} (e : h.get? b = none) : TB.P ≠ b := by
  rintro rfl
  obtain ⟨ps, e2⟩ := t
  rw [e2] at e; cases e

structure Go (s s' : Shared) : Prop where
  ext : Ext s.heap s'.heap
  os : s'.os = s.os
  gens : AllBare s.gens → AllBare s'.gens
theorem Go.refl (s : Shared) : Go s s := ⟨.refl _, rfl, fun h => h⟩
theorem Go.trans {a b c : Shared} (x : Go a b) (y : Go b c) : Go a c := ⟨x.ext.trans y.ext, y.os.trans x.os, fun h => y.gens (x.gens h)⟩
theorem Go.of (s : Shared) {h' : Heap} {tk : Nat} (e : Ext s.heap h') : Go s { s with heap := h', toks := tk } := ⟨e, rfl, fun h => h⟩
theorem Go.toks (s : Shared) (tk : Nat) : Go s { s with toks := tk } := ⟨.refl _, rfl, fun h => h⟩
theorem Go.heap (s : Shared) {h' : Heap} (e : Ext s.heap h') : Go s { s with heap := h' } := ⟨e, rfl, fun h => h⟩

noncomputable def DictI (h : Heap) (a : Addr) (kvs : List (Int × Value)) : Prop := (a == sysModules) = false ∧ ∀ prog w, h.DictOf (intKind prog w) a kvs

mutual
inductive Rd (h : Heap) (O : List Addr) : Value → PyData → Prop
  | none : Rd h O .none .none
  | bool (b : Bool) : Rd h O (.bool b) (.bool b)
  | int (i : Int) (t : Tok) : Rd h O (.int i t) (.int i)
  | str (x : Str) (t : Tok) : PyData.strOk x = true → Rd h O (.str x t) (.str x)
  | list {a : Addr} {vs : Array Value} {xs : List PyData} : a ∉ O → h.IsList a vs → RdAll h O vs.toList xs → Rd h O (.ref a) (.list xs)
  | tuple {a : Addr} {vs : Array Value} {xs : List PyData} : a ∉ O → IsTup h a vs → RdAll h O vs.toList xs → Rd h O (.ref a) (.tuple xs)
  | dict {a : Addr} {kvs : List (Int × Value)} {xs : List PyData} {D : List (PyData × PyData)} : a ∉ O → DictI h a kvs → RdAll h O (kvs.map (·.2)) xs → D = (kvs.map fun p => PyData.int p.1).zip xs → Rd h O (.ref a) (.dict D)
inductive RdAll (h : Heap) (O : List Addr) : List Value → List PyData → Prop
  | nil : RdAll h O [] []
  | cons {v : Value} {vs : List Value} {d : PyData} {ds : List PyData} : Rd h O v d → RdAll h O vs ds → RdAll h O (v :: vs) (d :: ds)
end

theorem DictI.there {h : Heap} {a : Addr} {kvs : List (Int × Value)} (hd : DictI h a kvs) : ∃ o, h.get? a = some o ∧ NT o := by
  obtain ⟨o, _, _, ho, hp, hx, _⟩ := hd.2 default ⟨fun _ _ => 0, ⟨fun _ => 0, fun _ => 0, id, fun _ => 0, fun _ _ => 0, fun _ => false, fun _ => 0, .refcount, .text, fun _ => 0, fun _ => none, fun _ => false, fun _ _ _ => true, fun _ _ _ => true, true, fun _ => false, fun _ => none, fun _ => none, fun _ _ _ => 0, fun _ _ => none, fun _ => none, fun _ => (0, false, Str.ofString "UTC"), fun _ => none, fun d => d, fun _ => false⟩⟩
  exact ⟨o, ho, .ty hp.1⟩

mutual
theorem Rd.mono {h h' : Heap} {O O' : List Addr} (hk : ∀ a o, NT o → a ∉ O → h.get? a = some o → a ∉ O' ∧ h'.get? a = some o) : ∀ {v : Value} {d : PyData}, Rd h O v d → Rd h' O' v d
  | _, _, .none => .none
  | _, _, .bool b => .bool b
  | _, _, .int i t => .int i t
  | _, _, .str x t e => .str x t e
  | _, _, .list ha ⟨o, ho, hc, r⟩ q => .list (hk _ o (.ty hc) ha ho).1 ⟨o, (hk _ o (.ty hc) ha ho).2, hc, r⟩ (RdAll.mono hk q)
  | _, _, .tuple ha ⟨o, ho, hc, r⟩ q => .tuple (hk _ o (.ty hc) ha ho).1 ⟨o, (hk _ o (.ty hc) ha ho).2, hc, r⟩ (RdAll.mono hk q)
  | _, _, .dict (a := a) ha hd q e => by
    obtain ⟨o, ho, hn⟩ := hd.there
    have h2 := hk a o hn ha ho
    refine .dict h2.1 ⟨hd.1, fun prog w => ?_⟩ (RdAll.mono hk q) e
    obtain ⟨o', es, ep, ho', r⟩ := hd.2 prog w
    have : o' = o := by rw [ho] at ho'; cases ho'; rfl
    subst this
    exact ⟨o', es, ep, h2.2, r⟩
theorem RdAll.mono {h h' : Heap} {O O' : List Addr} (hk : ∀ a o, NT o → a ∉ O → h.get? a = some o → a ∉ O' ∧ h'.get? a = some o) : ∀ {vs : List Value} {ds : List PyData}, RdAll h O vs ds → RdAll h' O' vs ds
  | _, _, .nil => .nil
  | _, _, .cons x r => .cons (Rd.mono hk x) (RdAll.mono hk r)
end
theorem Rd.ext {h h' : Heap} {O : List Addr} {v : Value} {d : PyData} (e : Ext h h') (x : Rd h O v d) : Rd h' O v d := x.mono fun a o n ha ho => ⟨ha, e.nt n ho⟩
theorem RdAll.ext {h h' : Heap} {O : List Addr} {vs : List Value} {ds : List PyData} (e : Ext h h') (x : RdAll h O vs ds) : RdAll h' O vs ds := x.mono fun a o n ha ho => ⟨ha, e.nt n ho⟩

theorem RdAll.length {h : Heap} {O : List Addr} : ∀ {vs : List Value} {ds : List PyData}, RdAll h O vs ds → vs.length = ds.length
  | _, _, .nil => rfl
  | _, _, .cons _ r => by rw [List.length_cons, List.length_cons, r.length]
theorem RdAll.append {h : Heap} {O : List Addr} {ws : List Value} {es : List PyData} (k : RdAll h O ws es) : ∀ {vs : List Value} {ds : List PyData}, RdAll h O vs ds → RdAll h O (vs ++ ws) (ds ++ es)
  | _, _, .nil => k
  | _, _, .cons x r => .cons x (RdAll.append k r)
theorem RdAll.get {h : Heap} {O : List Addr} : ∀ {vs : List Value} {ds : List PyData}, RdAll h O vs ds → ∀ {j : Nat} {d : PyData}, ds[j]? = some d → ∃ v, vs[j]? = some v ∧ Rd h O v d
  | _, _, .nil, _, _, e => by simp at e
  | _, _, .cons x r, 0, _, e => by simp at e; subst e; exact ⟨_, rfl, x⟩
  | _, _, .cons x r, j + 1, _, e => by simp at e; simpa using r.get e
theorem RdAll.none {h : Heap} {O : List Addr} {vs : List Value} {ds : List PyData} (r : RdAll h O vs ds) {j : Nat} (e : ds[j]? = .none) : vs[j]? = .none := by
  rw [List.getElem?_eq_none_iff] at e ⊢; rw [r.length]; exact e
theorem RdAll.pick {h : Heap} {O : List Addr} {vs : List Value} {ds : List PyData} (r : RdAll h O vs ds) : ∀ idx : List Nat, RdAll h O (idx.filterMap fun j => vs[j]?) (idx.filterMap fun j => ds[j]?)
  | [] => .nil
  | j :: idx => by
    cases hd : ds[j]? with
    | none => rw [List.filterMap_cons, List.filterMap_cons, hd, r.none hd]; exact r.pick idx
    | some d =>
      obtain ⟨v, hv, x⟩ := r.get hd
      rw [List.filterMap_cons, List.filterMap_cons, hd, hv]
      exact .cons x (r.pick idx)

/-- read at the top: the top's own address may be a protected one -/
inductive RdT (h : Heap) (O : List Addr) : Value → PyData → Prop
  | of {v : Value} {d : PyData} : Rd h O v d → RdT h O v d
  | list {a : Addr} {vs : Array Value} {xs : List PyData} : h.IsList a vs → RdAll h O vs.toList xs → RdT h O (.ref a) (.list xs)
  | dict {a : Addr} {kvs : List (Int × Value)} {xs : List PyData} {D : List (PyData × PyData)} : DictI h a kvs → RdAll h O (kvs.map (·.2)) xs → D = (kvs.map fun p => PyData.int p.1).zip xs → RdT h O (.ref a) (.dict D)
noncomputable def RdX (rd : Bool) (h : Heap) (O : List Addr) (v : Value) (d : PyData) : Prop := match rd with | true => RdT h O v d | false => Rd h O v d
section
variable {h h' : Heap} {O : List Addr} {v : Value} {d : PyData} {rd : Bool}
theorem DictI.at' {a : Addr} {kvs : List (Int × Value)} (x : DictI h a kvs) (e : ∀ o, NT o → h.get? a = some o → h'.get? a = some o) : DictI h' a kvs := ⟨x.1, fun p w => let ⟨o, es, ep, ho, hp, r⟩ := x.2 p w; ⟨o, es, ep, e o (.ty hp.1) ho, hp, r⟩⟩
theorem DictI.ext {a : Addr} {kvs : List (Int × Value)} (e : Ext h h') (x : DictI h a kvs) : DictI h' a kvs := ⟨x.1, fun p w => let ⟨o, es, ep, ho, hp, r⟩ := x.2 p w; ⟨o, es, ep, e.nt (.ty hp.1) ho, hp, r⟩⟩
theorem RdT.ext (e : Ext h h') : RdT h O v d → RdT h' O v d
  | .of x => .of (x.ext e)
  | .list hl q => .list (e.list hl) (q.ext e)
  | .dict x q r => .dict (x.ext e) (q.ext e) r
theorem RdX.of (x : Rd h O v d) : RdX rd h O v d := by cases rd; exact x; exact .of x
theorem RdX.top (x : RdX rd h O v d) : RdT h O v d := by cases rd; exact .of x; exact x
theorem RdX.ext (e : Ext h h') (x : RdX rd h O v d) : RdX rd h' O v d := by cases rd; exact Rd.ext e x; exact RdT.ext e x
theorem RdT.list_inv {xs : List PyData} (x : RdT h O v (.list xs)) : ∃ a vs, v = .ref a ∧ h.IsList a vs ∧ RdAll h O vs.toList xs := by
  cases x with
  | of x => cases x with | list _ hl r => exact ⟨_, _, rfl, hl, r⟩
  | list hl r => exact ⟨_, _, rfl, hl, r⟩
theorem RdT.tuple_inv {xs : List PyData} (x : RdT h O v (.tuple xs)) : ∃ a vs, v = .ref a ∧ IsTup h a vs ∧ RdAll h O vs.toList xs := by
  cases x with
  | of x => cases x with | tuple _ hl r => exact ⟨_, _, rfl, hl, r⟩
theorem RdT.int_inv {i : Int} (x : RdT h O v (.int i)) : ∃ t, v = .int i t := by cases x with | of x => cases x; exact ⟨_, rfl⟩
theorem RdT.bool_inv {b : Bool} (x : RdT h O v (.bool b)) : v = .bool b := by cases x with | of x => cases x; rfl
theorem RdT.none_inv (x : RdT h O v .none) : v = .none := by cases x with | of x => cases x; rfl
end

mutual
theorem Rd.reads {h : Heap} {O : List Addr} : ∀ {v : Value} {d : PyData} (n : Nat), Rd h O v d → dep n d = true → ∃ as, Reads h v d as
  | _, _, _, .none, _ => ⟨_, .none⟩
  | _, _, _, .bool b, _ => ⟨_, .bool b⟩
  | _, _, _, .int i t, _ => ⟨_, .int i t⟩
  | _, _, _, .str x t _, _ => ⟨_, .str x t⟩
  | _, _, 0, .list _ _ _, hd => by simp [dep] at hd
  | _, _, 0, .tuple _ _ _, hd => by simp [dep] at hd
  | _, _, n, .dict _ _ _ _, hd => by cases n <;> simp [dep] at hd
  | _, _, n + 1, .list _ ⟨o, ho, hc, k, hk⟩ r, hd => by
    obtain ⟨as, q⟩ := RdAll.reads n r (by simpa [dep] using hd)
    exact ⟨_, .list ho hc hk q⟩
  | _, _, n + 1, .tuple _ ⟨o, ho, hc, k, hk⟩ r, hd => by
    obtain ⟨as, q⟩ := RdAll.reads n r (by simpa [dep] using hd)
    exact ⟨_, .tuple ho hc hk q⟩
theorem RdAll.reads {h : Heap} {O : List Addr} : ∀ {vs : List Value} {ds : List PyData} (n : Nat), RdAll h O vs ds → (∀ d ∈ ds, dep n d = true) → ∃ as, ReadsAll h vs ds as
  | _, _, _, .nil, _ => ⟨_, .nil⟩
  | _, _, n, .cons x r, hd => by
    obtain ⟨as, q⟩ := Rd.reads n x (hd _ (.head _))
    obtain ⟨bs, p⟩ := RdAll.reads n r fun d hm => hd d (.tail _ hm)
    exact ⟨_, .cons q p⟩
end
mutual
theorem Rd.lay {h : Heap} {O : List Addr} : ∀ {v : Value} {d : PyData} (n : Nat), Rd h O v d → dep n d = true → d.canLay0 = true ∧ d.depth ≤ n
  | _, _, n, .none, _ => by simp [PyData.canLay0, PyData.depth]
  | _, _, n, .bool b, _ => by simp [PyData.canLay0, PyData.depth]
  | _, _, n, .int i t, _ => by simp [PyData.canLay0, PyData.depth]
  | _, _, n, .str x t e, _ => by simp [PyData.canLay0, PyData.depth, e]
  | _, _, 0, .list _ _ _, hd => by simp [dep] at hd
  | _, _, 0, .tuple _ _ _, hd => by simp [dep] at hd
  | _, _, n, .dict _ _ _ _, hd => by cases n <;> simp [dep] at hd
  | _, _, n + 1, .list _ _ r, hd => by
    have q := RdAll.lay n r (by simpa [dep] using hd)
    simp only [PyData.canLay0, PyData.depth, q.1, true_and]; have := q.2; omega
  | _, _, n + 1, .tuple _ _ r, hd => by
    have q := RdAll.lay n r (by simpa [dep] using hd)
    simp only [PyData.canLay0, PyData.depth, q.1, true_and]; have := q.2; omega
theorem RdAll.lay {h : Heap} {O : List Addr} : ∀ {vs : List Value} {ds : List PyData} (n : Nat), RdAll h O vs ds → (∀ d ∈ ds, dep n d = true) → PyData.canLayAll0 ds = true ∧ PyData.depthAll ds ≤ n
  | _, _, _, .nil, _ => by simp [PyData.canLayAll0, PyData.depthAll]
  | _, _, n, .cons x r, hd => by
    have q := Rd.lay n x (hd _ (.head _))
    have p := RdAll.lay n r fun d hm => hd d (.tail _ hm)
    simp only [PyData.canLayAll0, PyData.depthAll, q.1, p.1, Bool.and_self, true_and]; have := q.2; have := p.2; omega
end
theorem RdT.reads {h : Heap} {O : List Addr} {v : Value} {d : PyData} {n : Nat} (x : RdT h O v d) (hd : dep n d = true) : ∃ as, Reads h v d as := by
  cases x with
  | of x => exact x.reads n hd
  | list hl r =>
    obtain ⟨o, ho, hc, k, hk⟩ := hl
    cases n with
    | zero => simp [dep] at hd
    | succ n =>
      obtain ⟨as, q⟩ := r.reads n (by simpa [dep] using hd)
      exact ⟨_, .list ho hc hk q⟩
  | dict => cases n <;> simp [dep] at hd
theorem RdT.lay {h : Heap} {O : List Addr} {v : Value} {d : PyData} {n : Nat} (x : RdT h O v d) (hd : dep n d = true) : d.canLay0 = true ∧ d.depth ≤ n := by
  cases x with
  | of x => exact x.lay n hd
  | list hl r =>
    cases n with
    | zero => simp [dep] at hd
    | succ n =>
      have q := r.lay n (by simpa [dep] using hd)
      simp only [PyData.canLay0, PyData.depth, q.1, true_and]; have := q.2; omega
  | dict => cases n <;> simp [dep] at hd
theorem RdT.shaped {h : Heap} {O : List Addr} {v : Value} {d : PyData} (x : RdT h O v d) (hd : dep 8 d = true) : SeqAt.shaped d = true := by
  have q := x.lay hd
  unfold SeqAt.shaped
  rw [q.1, Bool.true_and]; exact decide_eq_true (by have := q.2; omega)

end Mine
set_option autoImplicit false
set_option linter.unusedSectionVars false
set_option linter.unusedVariables false
set_option linter.unusedSimpArgs false
namespace Mine
open PySem PySem.Spec PySem.Calls PyProof.Rows
variable [TB]

noncomputable def biTab : List (Str × Value) := [(Str.ofString "len", .builtin "len"), (Str.ofString "abs", .builtin "abs"), (Str.ofString "sum", .builtin "sum"), (Str.ofString "sorted", .builtin "sorted"), (Str.ofString "list", .type "list"), (Str.ofString "isinstance", .builtin "isinstance"),
  (Str.ofString "range", .type "range"), (Str.ofString "type", .type "type"), (Str.ofString "bool", .type "bool"), (Str.ofString "all", .builtin "all")]

structure Base (mg mb : Str → Option Value) (base : Heap) : Prop where
  g : base.Ns mainGlobals mg
  b : base.Ns builtinsNs mb
  nolimit : base.NoLimit
  tb0 : base.get? TB.P = some (tabO #[])
  bm : ∃ bm ob, BMod base mainGlobals mg bm ob
  bi : ∀ f v, biTab.lookup f = some v → mg f = none ∧ mb f = some v

noncomputable def CodeOk (base : Heap) (env : Env) : Prop := env.kindOf (Str.ofString "all") = some .globalImplicit → ∃ c, env.code = .ref c ∧ base.IsCode c TB.P #[] ∧ base.TableAt c TB.P #[]
structure At (A : Around) (k : Nat) : Prop where
  handled : A.handled = none
  depth : A.depth + k < recursionLimit
  units : A.units + 4 * k + 200 < cLine

structure EnvOk (env : Env) : Prop where
  kind : env.scope.kind = .function
  g : env.globals = mainGlobals
  b : env.builtins = builtinsNs
  cells : ∀ x, env.kindOf x = some .cell ∨ env.kindOf x = some .free → (env.cells.lookup x).isSome = true

noncomputable def Var (h : Heap) (env : Env) (x : Str) (v : Value) : Prop :=
  (env.kindOf x = some .local ∧ ∃ m, h.Ns env.locals m ∧ m x = some v) ∨
  (env.kindOf x = some .cell ∧ ∃ c, env.cells.lookup x = some c ∧ h.IsCell c (some v)) ∨
  (env.kindOf x = some .free ∧ (x == Str.ofString "__classdict__") = false ∧ ∃ c, env.cells.lookup x = some c ∧ h.IsCell c (some v))
theorem Var.ext {h h' : Heap} {env : Env} {x : Str} {v : Value} (e : Ext h h') : Var h env x v → Var h' env x v
  | .inl ⟨a, m, b, c⟩ => .inl ⟨a, m, e.ns b, c⟩
  | .inr (.inl ⟨a, c, b, d⟩) => .inr (.inl ⟨a, c, b, e.cell d⟩)
  | .inr (.inr ⟨a, q, c, b, d⟩) => .inr (.inr ⟨a, q, c, b, e.cell d⟩)

theorem Ext.plainL {h h' : Heap} {a : Addr} {vs : Array Value} (e : Ext h h') : PlainL h a vs → PlainL h' a vs
  | ⟨o, n, ho, hc, r⟩ => ⟨o, n, e.nt (.ty hc) ho, hc, r⟩
inductive OwnT (h : Heap) (O : List Addr) : Addr → PyData → Prop
  | list {a : Addr} {vs : Array Value} {xs : List PyData} : PlainL h a vs → RdAll h O vs.toList xs → OwnT h O a (.list xs)
  | dict {a : Addr} {kvs : List (Int × Value)} {xs : List PyData} {D : List (PyData × PyData)} : DictI h a kvs → RdAll h O (kvs.map (·.2)) xs → D = (kvs.map fun p => PyData.int p.1).zip xs → OwnT h O a (.dict D)
theorem OwnT.ext {h h' : Heap} {O : List Addr} {a : Addr} {d : PyData} (e : Ext h h') : OwnT h O a d → OwnT h' O a d
  | .list p r => .list (e.plainL p) (r.ext e)
  | .dict x q r => .dict (x.ext e) (q.ext e) r
theorem OwnT.top {h : Heap} {O : List Addr} {a : Addr} {d : PyData} : OwnT h O a d → RdT h O (.ref a) d
  | .list p r => .list p.isList r
  | .dict x q r => .dict x q r

noncomputable def BOk (h : Heap) (OP O : List Addr) (b : Bd) (v : Value) : Prop :=
  match b.m with
  | .val => Rd h OP v b.d
  | .brw => RdT h OP v b.d
  | .own => ∃ a, v = .ref a ∧ a ∈ O ∧ OwnT h OP a b.d
theorem BOk.ext {h h' : Heap} {OP O : List Addr} {b : Bd} {v : Value} (e : Ext h h') (x : BOk h OP O b v) : BOk h' OP O b v := by
  obtain ⟨m, d⟩ := b
  cases m with
  | val => exact Rd.ext e x
  | brw => exact RdT.ext e x
  | own => obtain ⟨a, h1, h2, h3⟩ := x; exact ⟨a, h1, h2, h3.ext e⟩
theorem BOk.top {h : Heap} {OP O : List Addr} {b : Bd} {v : Value} (x : BOk h OP O b v) : RdT h OP v b.d := by
  obtain ⟨m, d⟩ := b
  cases m with
  | val => exact .of x
  | brw => exact x
  | own => obtain ⟨a, rfl, _, h3⟩ := x; exact h3.top

structure Cx (base : Heap) (k : Nat) (env : Env) (ρ : Rho) (OP O : List Addr) (A : Around) (s : Shared) : Prop where
  en : EnvOk env
  at_ : At A k
  code : CodeOk base env
  base : Ext base s.heap
  tb : Tb s.heap
  ex : ∀ a ∈ OP, ∃ o, s.heap.get? a = some o
  vars : ∀ x b, ρ.lookup x = some b → ∃ v, Var s.heap env x v ∧ BOk s.heap OP O b v
theorem Cx.go {base : Heap} {k : Nat} {env : Env} {ρ : Rho} {OP O : List Addr} {A : Around} {s s' : Shared} (C : Cx base k env ρ OP O A s) (g : Go s s') : Cx base k env ρ OP O A s' where
  en := C.en
  at_ := C.at_
  base := C.base.trans g.ext
  tb := g.ext.grow.tb C.tb
  code := C.code
  ex := fun a ha => let ⟨o, ho⟩ := C.ex a ha; g.ext.there ho
  vars := fun x b hx => let ⟨v, h1, h2⟩ := C.vars x b hx; ⟨v, h1.ext g.ext, h2.ext g.ext⟩

inductive RdXs (h : Heap) (O : List Addr) : List Bool → List Value → List PyData → Prop
  | nil : RdXs h O [] [] []
  | cons {b : Bool} {bs : List Bool} {v : Value} {vs : List Value} {d : PyData} {ds : List PyData} : RdX b h O v d → RdXs h O bs vs ds → RdXs h O (b :: bs) (v :: vs) (d :: ds)
theorem RdXs.ext {h h' : Heap} {O : List Addr} (e : Ext h h') : ∀ {bs : List Bool} {vs : List Value} {ds : List PyData}, RdXs h O bs vs ds → RdXs h' O bs vs ds
  | _, _, _, .nil => .nil
  | _, _, _, .cons x r => .cons (x.ext e) (r.ext e)

noncomputable def FnsOk (prog : Program) (w : World) (mg : Str → Option Value) (base : Heap) (Φ : Fns) (k : Nat) : Prop :=
  ∀ f fl F, Φ f = some (fl, F) → ∃ a o fd, mg f = some (.ref a) ∧ base.get? a = some o ∧ o.data = .func fd ∧
    ∀ A s args ds r P (Q E : Value → Shared → Prop), At A k → Ext base s.heap → (∀ a ∈ P, ∃ o, s.heap.get? a = some o) → RdXs s.heap P fl args ds → F ds = some r →
      (∀ v s', Go s s' → Rd s'.heap P v r → Q v s') → wpAny (model prog w) A (call (.ref a) args) Q E s

section
variable {prog : Program} {w : World} {mg mb : Str → Option Value} {base : Heap} {Φ : Fns} {k : Nat}

/-! ### operations -/
section
variable {A : Around} {E : Value → Shared → Prop} {s : Shared} {OP : List Addr} {a b : Value} {da db d : PyData} {Q : Value → Shared → Prop} {rd : Bool}

theorem bin_sound {op : Operator} (hA : At A k) (ra : RdT s.heap OP a da) (rb : RdT s.heap OP b db) (ex : ∀ a ∈ OP, ∃ o, s.heap.get? a = some o) (h : binD op da db = some d) (hQ : ∀ v s', Go s s' → Rd s'.heap OP v d → Q v s') :
    wpAny (model prog w) A (binaryOp op a b) Q E s := by
  unfold binD at h
  split at h
  · cases h
    obtain ⟨t, rfl⟩ := ra.int_inv
    obtain ⟨u, rfl⟩ := rb.int_inv
    exact PyProof.Rows.add_int (hQ _ _ (Go.toks _ _) (.int _ _))
  · cases h
    obtain ⟨t, rfl⟩ := ra.int_inv
    obtain ⟨u, rfl⟩ := rb.int_inv
    exact PyProof.Rows.sub_int (hQ _ _ (Go.toks _ _) (.int _ _))
  · split at h
    · rename_i h2
      cases h
      obtain ⟨t, rfl⟩ := ra.int_inv
      obtain ⟨u, rfl⟩ := rb.int_inv
      subst h2
      exact PyProof.Rows.mul_int (hQ _ _ (Go.toks _ _) (.int _ _)) (IntMulOk.of_left (by decide))
    · cases h
  · obtain ⟨t, rfl⟩ := ra.int_inv
    obtain ⟨u, rfl⟩ := rb.int_inv
    split at h
    · rename_i hb
      cases h
      exact PyProof.Rows.floordiv_int (by omega) (hQ _ _ (Go.toks _ _) (.int _ _)) (.inl (PyProof.noPylong_small (by omega)))
    · cases h
  · obtain ⟨t, rfl⟩ := ra.int_inv
    obtain ⟨u, rfl⟩ := rb.int_inv
    split at h
    · rename_i hb
      cases h
      exact PyProof.Rows.mod_int (by omega) (hQ _ _ (Go.toks _ _) (.int _ _))
    · cases h
  · rename_i xs ys
    obtain ⟨l, vs, rfl, hl, hvs⟩ := ra.list_inv
    obtain ⟨m, ws, rfl, hm, hws⟩ := rb.list_inv
    split at h
    · rename_i hsz
      cases h
      obtain ⟨⟨cls, dd, data, sl⟩, ho, hc, n, hd⟩ := id hl
      obtain ⟨⟨cls2, dd2, data2, sl2⟩, ho2, hc2, n2, hd2⟩ := id hm
      simp only at hc hd hc2 hd2
      subst hc hd hc2 hd2
      refine concat_meets ⟨_, ho, rfl⟩ ⟨_, ho2, rfl⟩ noFill_list_add seq_list_add PySem.F.slot_list_add PySem.F.entry_list_add (PySem.F.args_list_add_2 _ _) (list_addW l m vs ws n n2 dd dd2 sl sl2 (by
        have e1 := hvs.length; have e2 := hws.length
        simp only [Array.length_toList] at e1 e2
        omega)) ⟨ho, ho2, ?_⟩
      refine hQ _ _ (Go.heap _ (Ext.push _ _)) (.list (vs := vs ++ ws) ?_ ⟨_, Heap.get?_push_size _ rfl, rfl, _, rfl⟩ ?_)
      · intro hm; obtain ⟨o, ho⟩ := ex _ hm; exact Nat.lt_irrefl _ (Heap.lt_size ho)
      · rw [Array.toList_append]
        exact (hws.ext (Ext.push _ _)).append (hvs.ext (Ext.push _ _))
    · cases h
  · cases h

theorem un_sound {op : UnaryOp} (ra : RdT s.heap OP a da) (h : unD op da = some d) (hQ : ∀ v s', Go s s' → Rd s'.heap OP v d → Q v s') : wpAny (model prog w) A (unaryOp op a) Q E s := by
  unfold unD at h
  split at h
  · cases h
    obtain ⟨t, rfl⟩ := ra.int_inv
    exact neg_int (hQ _ _ (Go.toks _ _) (.int _ _))
  · cases h
    obtain rfl := ra.bool_inv
    exact not_value (wpAny_truthy_bool (hQ _ _ (Go.refl _) (.bool _)))
  · cases h


theorem is_sound {c : Bool} (ra : RdT s.heap OP a da) (rb : RdT s.heap OP b db) (h : isD da db = some c) : plainIs a b = true ∧ (a == b) = c := by
  unfold isD at h
  split at h
  · cases h; obtain rfl := ra.bool_inv; obtain rfl := rb.bool_inv
    rename_i x y
    cases x <;> cases y <;> decide
  · cases h; obtain rfl := ra.none_inv; obtain rfl := rb.none_inv; decide
  · cases h; obtain rfl := ra.bool_inv; obtain rfl := rb.none_inv; exact ⟨rfl, by rename_i x; cases x <;> decide⟩
  · cases h; obtain rfl := ra.none_inv; obtain rfl := rb.bool_inv; exact ⟨rfl, by rename_i x; cases x <;> decide⟩
  · cases h; obtain ⟨l, vs, rfl, _⟩ := ra.list_inv; obtain rfl := rb.none_inv; exact ⟨rfl, beq_eq_false_iff_ne.mpr (by intro e; cases e)⟩
  · cases h; obtain ⟨l, vs, rfl, _⟩ := ra.list_inv; obtain rfl := rb.bool_inv; exact ⟨rfl, beq_eq_false_iff_ne.mpr (by intro e; cases e)⟩
  · cases h; obtain ⟨l, vs, rfl, _⟩ := ra.tuple_inv; obtain rfl := rb.none_inv; exact ⟨rfl, beq_eq_false_iff_ne.mpr (by intro e; cases e)⟩
  · cases h; obtain ⟨l, vs, rfl, _⟩ := ra.tuple_inv; obtain rfl := rb.bool_inv; exact ⟨rfl, beq_eq_false_iff_ne.mpr (by intro e; cases e)⟩
  · cases h

theorem keyIn_zip (c : Int) : ∀ (kvs : List (Int × Value)) (xs : List PyData), (kvs.map (·.2)).length = xs.length → ∀ {h : Heap} {O : List Addr}, RdAll h O (kvs.map (·.2)) xs →
    (keyIn ((kvs.map fun p => PyData.int p.1).zip xs) c).isSome = (valueAt kvs c).isSome ∧ ∀ d, keyIn ((kvs.map fun p => PyData.int p.1).zip xs) c = some d → ∃ v, valueAt kvs c = some v ∧ Rd h O v d
  | [], [], _, _, _, _ => by simp [keyIn, valueAt]
  | [], _ :: _, e, _, _, _ => by simp at e
  | _ :: _, [], e, _, _, _ => by simp at e
  | (j, v) :: kvs, x :: xs, e, h, O, r => by
    have ih := keyIn_zip c kvs xs (by simpa using e) (by cases r with | cons _ r => exact r)
    have hx : Rd h O v x := by cases r with | cons q _ => exact q
    simp only [List.map_cons, List.zip_cons_cons, keyIn, valueAt, List.find?_cons]
    by_cases hj : j = c
    · simp only [hj, if_true, decide_true, Option.map_some, Option.isSome_some, Option.some.injEq, true_and]
      rintro d rfl; exact ⟨v, rfl, hx⟩
    · simp only [hj, if_false, decide_false]
      exact ih

theorem RdT.dict_inv {h : Heap} {O : List Addr} {v : Value} {D : List (PyData × PyData)} (x : RdT h O v (.dict D)) : ∃ a kvs xs, v = .ref a ∧ DictI h a kvs ∧ RdAll h O (kvs.map (·.2)) xs ∧ D = (kvs.map fun p => PyData.int p.1).zip xs := by
  cases x with
  | of x => cases x with | dict _ hd r e => exact ⟨_, _, _, rfl, hd, r, e⟩
  | dict hd r e => exact ⟨_, _, _, rfl, hd, r, e⟩

theorem in_sound {c : Bool} (hA : At A k) (ra : RdT s.heap OP a da) (rb : RdT s.heap OP b db) (h : inD da db = some c) :
    (∀ {Q : Value → Shared → Prop}, (∀ s', Go s s' → Q (.bool c) s') → wpAny (model prog w) A (compareOp .In a b) Q E s) ∧ (∀ {Q : Value → Shared → Prop}, (∀ s', Go s s' → Q (.bool (!c)) s') → wpAny (model prog w) A (compareOp .NotIn a b) Q E s) := by
  have hu := hA.units
  cases db with
  | list xs =>
    simp only [inD] at h
    split at h
    · rename_i hd
      cases h
      simp only [Bool.and_eq_true] at hd
      obtain ⟨as, qa⟩ := ra.reads hd.1
      obtain ⟨bs, qb⟩ := rb.reads (n := 9) (by simpa [dep] using hd.2)
      have la := ra.lay hd.1
      have lb := rb.lay (n := 9) (by simpa [dep] using hd.2)
      simp only [PyData.canLay0, PyData.depth] at lb
      have h1 := lb.2
      have h2 := Nat.min_le_left (PyData.depthAll xs) da.depth
      exact ⟨fun hQ => SeqAt.in_list_reads qb qa lb.1 la.1 (by omega) (hQ _ (Go.refl _)), fun hQ => SeqAt.notIn_list_reads qb qa lb.1 la.1 (by omega) (hQ _ (Go.refl _))⟩
    · cases h
  | tuple xs =>
    simp only [inD] at h
    split at h
    · rename_i hd
      cases h
      simp only [Bool.and_eq_true] at hd
      obtain ⟨as, qa⟩ := ra.reads hd.1
      obtain ⟨bs, qb⟩ := rb.reads (n := 9) (by simpa [dep] using hd.2)
      have la := ra.lay hd.1
      have lb := rb.lay (n := 9) (by simpa [dep] using hd.2)
      simp only [PyData.canLay0, PyData.depth] at lb
      have h1 := lb.2
      have h2 := Nat.min_le_left (PyData.depthAll xs) da.depth
      exact ⟨fun hQ => SeqAt.in_tuple_reads qb qa lb.1 la.1 (by omega) (hQ _ (Go.refl _)), fun hQ => SeqAt.notIn_tuple_reads qb qa lb.1 la.1 (by omega) (hQ _ (Go.refl _))⟩
    · cases h
  | dict D =>
    cases da with
    | int c' =>
      simp only [inD] at h
      cases h
      obtain ⟨t, rfl⟩ := ra.int_inv
      obtain ⟨l, kvs, xs, rfl, hd, r, rfl⟩ := rb.dict_inv
      have q := (keyIn_zip c' kvs xs (by simpa using r.length) r).1
      rw [q]
      exact ⟨fun hQ => wpAny_in_of (knd := intKind prog w) (intKind_is prog w c' t) hd.1 (hd.2 prog w).mapOf (hQ _ (Go.toks _ _)),
        fun hQ => wpAny_notIn_of (knd := intKind prog w) (intKind_is prog w c' t) hd.1 (hd.2 prog w).mapOf (hQ _ (Go.toks _ _))⟩
    | _ => simp [inD] at h
  | _ => simp [inD] at h

theorem cmp_sound {op : CmpOp} {c : Bool} (hA : At A k) (ra : RdT s.heap OP a da) (rb : RdT s.heap OP b db) (h : cmpD op da db = some c) (hQ : ∀ s', Go s s' → Q (.bool c) s') :
    wpAny (model prog w) A (compareOp op a b) Q E s := by
  have hu := hA.units
  unfold cmpD at h
  split at h
  · split at h
    · rename_i hd; cases h
      simp only [Bool.and_eq_true] at hd
      obtain ⟨as, qa⟩ := ra.reads hd.1
      obtain ⟨bs, qb⟩ := rb.reads hd.2
      exact SeqAt.compareEq_shaped qa qb (ra.shaped hd.1) (rb.shaped hd.2) (by omega) (hQ _ (Go.refl _))
    · cases h
  · split at h
    · rename_i hd; cases h
      simp only [Bool.and_eq_true] at hd
      obtain ⟨as, qa⟩ := ra.reads hd.1
      obtain ⟨bs, qb⟩ := rb.reads hd.2
      exact SeqAt.compareNe_shaped qa qb (ra.shaped hd.1) (rb.shaped hd.2) (by omega) (hQ _ (Go.refl _))
    · cases h
  · split at h
    · cases h; obtain ⟨t, rfl⟩ := ra.int_inv; obtain ⟨u, rfl⟩ := rb.int_inv
      exact lt_int (hQ _ (Go.refl _))
    · cases h
  · split at h
    · cases h; obtain ⟨t, rfl⟩ := ra.int_inv; obtain ⟨u, rfl⟩ := rb.int_inv
      exact le_int (hQ _ (Go.refl _))
    · cases h
  · split at h
    · cases h; obtain ⟨t, rfl⟩ := ra.int_inv; obtain ⟨u, rfl⟩ := rb.int_inv
      exact gt_int (hQ _ (Go.refl _))
    · cases h
  · split at h
    · cases h; obtain ⟨t, rfl⟩ := ra.int_inv; obtain ⟨u, rfl⟩ := rb.int_inv
      exact ge_int (hQ _ (Go.refl _))
    · cases h
  · obtain ⟨hp, e⟩ := is_sound ra rb h
    exact wpAny_is_plain hp (by rw [e]; exact hQ _ (Go.refl _))
  · cases hi : isD da db with
    | none => rw [hi] at h; cases h
    | some c' =>
      rw [hi] at h; cases h
      obtain ⟨hp, e⟩ := is_sound ra rb hi
      exact wpAny_isNot_plain hp (by rw [e]; exact hQ _ (Go.refl _))
  · exact (in_sound hA ra rb h).1 hQ
  · cases hi : inD da db with
    | none => rw [hi] at h; cases h
    | some c' =>
      rw [hi] at h; cases h
      exact (in_sound hA ra rb hi).2 hQ

theorem seqIndex_neg {i : Int} {n j : Nat} (h : seqIndex? i n = some j) (hi : i < 0) : -(n : Int) ≤ i ∧ j = (i + n).toNat := by
  unfold seqIndex? at h
  simp only [hi, if_true] at h
  split at h
  · rename_i hc; cases h; simp only [Bool.and_eq_true, decide_eq_true_eq] at hc; exact ⟨by omega, rfl⟩
  · cases h
theorem seqIndex_pos {i : Int} {n j : Nat} (h : seqIndex? i n = some j) (hi : ¬ i < 0) : j = i.toNat := by
  unfold seqIndex? at h
  simp only [hi, if_false] at h
  split at h
  · cases h; rfl
  · cases h

theorem idx_sound {value slice : Expr} (ra : RdT s.heap OP a da) (rb : RdT s.heap OP b db) (h : idxD da db = some d) (hs : ∀ o i, subscripted slice false o i = operate [o, i] (getItem o i)) (hQ : ∀ v s', Go s s' → Rd s'.heap OP v d → Q v s') :
    wpAny (model prog w) A (subscriptTail value slice a b) Q E s := by
  unfold idxD at h
  split at h
  · rename_i xs i
    obtain ⟨l, vs, rfl, hl, hvs⟩ := ra.list_inv
    obtain ⟨t, rfl⟩ := rb.int_inv
    split at h
    · rename_i hf
      simp only [inFit, Bool.and_eq_true, decide_eq_true_eq] at hf
      cases hj : seqIndex? i xs.length with
      | none => rw [hj] at h; cases h
      | some j =>
        rw [hj] at h
        obtain ⟨v, hv, hr⟩ := hvs.get h
        have hlen : vs.size = xs.length := by have := hvs.length; simpa using this
        by_cases hi : i < 0
        · obtain ⟨h1, rfl⟩ := seqIndex_neg hj hi
          exact tail_any hl.typeIs slot_list_getitem.lookup (wpAny_getItem_list_neg hl hi (by rw [hlen]; exact h1) hf.1 (by rw [hlen]; simpa using hv) (hQ _ _ (Go.refl _) hr)) (hs _ _)
        · obtain rfl := seqIndex_pos hj hi
          exact tail_any hl.typeIs slot_list_getitem.lookup (wpAny_getItem_list hl (by omega) hf.2 (by simpa using hv) (hQ _ _ (Go.refl _) hr)) (hs _ _)
    · cases h
  · rename_i xs i
    obtain ⟨l, vs, rfl, hl, hvs⟩ := ra.tuple_inv
    obtain ⟨t, rfl⟩ := rb.int_inv
    split at h
    · rename_i hf
      simp only [inFit, Bool.and_eq_true, decide_eq_true_eq] at hf
      cases hj : seqIndex? i xs.length with
      | none => rw [hj] at h; cases h
      | some j =>
        rw [hj] at h
        obtain ⟨v, hv, hr⟩ := hvs.get h
        have hlen : vs.size = xs.length := by have := hvs.length; simpa using this
        exact tail_any hl.typeIs slot_tuple_getitem.lookup (PyProof.Rows.getItem_tuple hl hf.1 hf.2 (by rw [hlen]; exact hj) (by simpa using hv) (hQ _ _ (Go.refl _) hr)) (hs _ _)
    · cases h
  · rename_i D c
    obtain ⟨t, rfl⟩ := rb.int_inv
    obtain ⟨l, kvs, xs, rfl, hd, r, rfl⟩ := ra.dict_inv
    obtain ⟨v, hv, hr⟩ := (keyIn_zip c kvs xs (by simpa using r.length) r).2 d h
    have hm := (hd.2 prog w).mapOf
    exact tail_any hm.typeIs slot_dict_getitem.lookup (wpAny_getItem_of (intKind_is prog w c t) hm hv (hQ _ _ (Go.toks _ _) hr)) (hs _ _)
  · cases h

theorem insI_mem (x y : Int) : ∀ l : List Int, y ∈ insI x l ↔ y = x ∨ y ∈ l
  | [] => by simp [insI]
  | z :: r => by
    unfold insI
    split
    · simp
    · simp only [List.mem_cons, insI_mem x y r]
      constructor
      · rintro (h | h | h)
        · exact .inr (.inl h)
        · exact .inl h
        · exact .inr (.inr h)
      · rintro (h | h | h)
        · exact .inr (.inl h)
        · exact .inl h
        · exact .inr (.inr h)
theorem insI_perm (x : Int) : ∀ l : List Int, (insI x l).Perm (x :: l)
  | [] => .refl _
  | z :: r => by
    unfold insI
    split
    · exact .refl _
    · exact ((insI_perm x r).cons z).trans (.swap x z r)
theorem sortI_perm : ∀ l : List Int, (sortI l).Perm l
  | [] => .refl _
  | x :: l => (insI_perm x (sortI l)).trans ((sortI_perm l).cons x)
theorem insI_sorted (x : Int) : ∀ l : List Int, l.Pairwise (· ≤ ·) → (insI x l).Pairwise (· ≤ ·)
  | [], _ => by simp [insI]
  | z :: r, h => by
    unfold insI
    rw [List.pairwise_cons] at h
    split
    · rename_i hx
      rw [List.pairwise_cons]
      refine ⟨fun y hy => ?_, List.pairwise_cons.mpr h⟩
      rcases List.mem_cons.mp hy with e | hy
      · omega
      · have := h.1 y hy; omega
    · rename_i hx
      rw [List.pairwise_cons]
      refine ⟨fun y hy => ?_, insI_sorted x r h.2⟩
      rcases (insI_mem x y r).mp hy with e | hy
      · omega
      · exact h.1 y hy
theorem sortI_sorted : ∀ l : List Int, (sortI l).Pairwise (· ≤ ·)
  | [] => .nil
  | x :: l => insI_sorted x _ (sortI_sorted l)
theorem sorted_one : ∀ (a b : List Int), a.Perm b → a.Pairwise (· ≤ ·) → b.Pairwise (· ≤ ·) → a = b
  | [], b, p, _, _ => (List.nil_perm.mp p).symm
  | x :: a, [], p, _, _ => absurd p.symm (by simp)
  | x :: a, y :: b, p, ha, hb => by
    rw [List.pairwise_cons] at ha hb
    have h1 : x ∈ y :: b := p.mem_iff.mp (List.mem_cons_self ..)
    have h2 : y ∈ x :: a := p.mem_iff.mpr (List.mem_cons_self ..)
    have e : x = y := by
      rcases List.mem_cons.mp h1 with e | h1
      · exact e
      · rcases List.mem_cons.mp h2 with e | h2
        · exact e.symm
        · have := ha.1 y h2; have := hb.1 x h1; omega
    subst e
    rw [sorted_one a b p.cons_inv ha.2 hb.2]
theorem ints_all {h : Heap} {OP : List Addr} : ∀ {vs : List Value} {l : List Int}, IntsAre vs l → RdAll h OP vs (l.map .int)
  | _, _, .nil => .nil
  | _, _, .cons n t r => .cons (.int n t) (ints_all r)
theorem ints_of {h : Heap} {OP : List Addr} : ∀ {vs : List Value} {xs : List PyData} {l : List Int}, RdAll h OP vs xs → intsOf xs = some l → IntsAre vs l
  | _, _, _, .nil, e => by simp only [intsOf, Option.some.injEq] at e; subst e; exact .nil
  | _, _, l, .cons (d := d) a r, e => by
    cases d <;> simp only [intsOf, Option.bind_eq_some_iff, reduceCtorEq] at e
    obtain ⟨l', h', e⟩ := e
    cases e
    cases a
    exact .cons _ _ (ints_of r h')
theorem bi_sound {f : Bi} {vs : List Value} {ds : List PyData} (hA : At A k) (hn : f ≠ .isi) (r : RdXs s.heap OP (List.replicate ds.length true) vs ds) (ex : ∀ a ∈ OP, ∃ o, s.heap.get? a = some o) (h : biD f ds = some d) (hQ : ∀ v s', Go s s' → Rd s'.heap OP v d → Q v s') :
    ∃ fv x, biTab.lookup x = some fv ∧ (∀ y, biOf y = some f → y = x) ∧ wpAny (model prog w) A (call fv vs) Q E s := by
  unfold biD at h
  split at h
  · split at h
    · rename_i xs hsz
      cases h
      cases r with
      | cons x r =>
        cases r
        obtain ⟨l, ws, rfl, hl, hws⟩ := RdT.list_inv x
        have hlen : ws.size = xs.length := by have := hws.length; simpa using this
        refine ⟨.builtin "len", Str.ofString "len", by decide +kernel, fun y hy => ?_, len_list hl (by rw [hlen]; have : sizeLine = 2 ^ 24 := rfl; omega) ?_⟩
        · unfold biOf at hy
          simp only [List.lookup_cons, List.lookup_nil] at hy
          repeat' split at hy
          all_goals (first | exact eq_of_beq (by assumption) | cases hy)
        · rw [hlen]; exact hQ _ _ (Go.toks _ _) (.int _ _)
    · cases h
  · split at h
    · rename_i xs hsz
      cases h
      cases r with
      | cons x r =>
        cases r
        obtain ⟨l, ws, rfl, hl, hws⟩ := RdT.tuple_inv x
        have hlen : ws.size = xs.length := by have := hws.length; simpa using this
        refine ⟨.builtin "len", Str.ofString "len", by decide +kernel, fun y hy => ?_, PyProof.Rows.len_tuple hl (by rw [hlen]; have : sizeLine = 2 ^ 24 := rfl; omega) ?_⟩
        · unfold biOf at hy
          simp only [List.lookup_cons, List.lookup_nil] at hy
          repeat' split at hy
          all_goals (first | exact eq_of_beq (by assumption) | cases hy)
        · rw [hlen]; exact hQ _ _ (Go.toks _ _) (.int _ _)
    · cases h
  · cases h
    cases r with
    | cons x r =>
      cases r
      obtain ⟨t, rfl⟩ := RdT.int_inv x
      refine ⟨.builtin "abs", Str.ofString "abs", by decide +kernel, fun y hy => ?_, call_abs_int fun u tk => hQ _ _ (Go.toks _ _) (.int _ _)⟩
      unfold biOf at hy
      simp only [List.lookup_cons, List.lookup_nil] at hy
      repeat' split at hy
      all_goals (first | exact eq_of_beq (by assumption) | cases hy)
  · simp only [Option.bind_eq_some_iff] at h
    obtain ⟨l', hl', h⟩ := h
    cases h
    cases r with
    | cons x r =>
      cases r
      obtain ⟨l, ws, rfl, hl, hws⟩ := RdT.list_inv x
      have hi := ints_of hws hl'
      obtain ⟨xs, hx⟩ := hi.allInts.items
      have hl2 : s.heap.IsList l (intItems xs) := by rw [← hx]; simpa using hl
      have e1 : l' = xs.toList.map (·.1) := by
        rw [← nums_intItems, ← hx]
        exact (show numsOf ws.toList.toArray.toList = l' from hi.numsOf).symm
      have e2 : preSum (numAt xs) xs.size = l'.sum := by rw [preSum_eq, List.take_of_length_le (by simp), e1]
      refine ⟨.builtin "sum", Str.ofString "sum", by decide +kernel, fun y hy => ?_, sum_intListG hA.handled hl2 fun h' tk t' hk => ?_⟩
      · unfold biOf at hy
        simp only [List.lookup_cons, List.lookup_nil] at hy
        repeat' split at hy
        all_goals (first | exact eq_of_beq (by assumption) | cases hy)
      · rw [e2]; exact hQ _ _ (Go.of _ (.of hk)) (.int _ _)
  · split at h
    · rename_i D hsz
      cases h
      cases r with
      | cons x r =>
        cases r
        obtain ⟨l, kvs, xs, rfl, hd, r', rfl⟩ := RdT.dict_inv x
        have hlen : ((kvs.map fun p => PyData.int p.1).zip xs).length = kvs.length := by
          have := r'.length
          simp only [List.length_map] at this
          simp [this]
        refine ⟨.builtin "len", Str.ofString "len", by decide +kernel, fun y hy => ?_, ?_⟩
        · unfold biOf at hy
          simp only [List.lookup_cons, List.lookup_nil] at hy
          repeat' split at hy
          all_goals (first | exact eq_of_beq (by assumption) | cases hy)
        · rw [hlen] at hsz hQ
          have : sizeLine = 2 ^ 24 := rfl
          exact call_len_dict hd.1 (hd.2 prog w) (by omega) (hQ _ _ (Go.toks _ _) (.int _ _))
    · cases h
  · split at h
    · rename_i xs hsz
      cases h
      cases r with
      | cons x r =>
        cases r
        obtain ⟨l, ws, rfl, ⟨o, ho, hc, n, hd⟩, hws⟩ := RdT.list_inv x
        have hlen : ws.size = xs.length := by have := hws.length; simpa using this
        refine ⟨.type "list", Str.ofString "list", by decide +kernel, fun y hy => ?_, call_list_seq (hsz := by omega) l (.inl rfl) ho hc hd fun h' c' hk hD => ?_⟩
        · unfold biOf at hy
          simp only [List.lookup_cons, List.lookup_nil] at hy
          repeat' split at hy
          all_goals (first | exact eq_of_beq (by assumption) | cases hy)
        · exact hQ _ _ (Go.heap _ (.of hk)) (.list (fun hm => by obtain ⟨o, ho⟩ := ex _ hm; exact absurd (Heap.lt_size ho) (Nat.lt_irrefl _)) ⟨_, hD, rfl, c', rfl⟩ (hws.ext (.of hk)))
    · cases h
  · simp only [Option.bind_eq_some_iff] at h
    obtain ⟨l', hl', h⟩ := h
    split at h
    · rename_i hsz
      cases h
      cases r with
      | cons x r =>
        cases r
        obtain ⟨l, ws, rfl, hl, hws⟩ := RdT.list_inv x
        have hi := ints_of hws hl'
        refine ⟨.builtin "sorted", Str.ofString "sorted", by decide +kernel, fun y hy => ?_, sorted_ints (vs := ws.toList) (by simpa using hl) hi (by rw [hi.length]; exact hsz) fun out ns' a1 a2 a3 => ?_⟩
        · unfold biOf at hy
          simp only [List.lookup_cons, List.lookup_nil] at hy
          repeat' split at hy
          all_goals (first | exact eq_of_beq (by assumption) | cases hy)
        · obtain ⟨e, he⟩ := sortedAll_at s.heap ws.toList out
          have e2 : ns' = sortI l' := sorted_one _ _ (a2.trans (sortI_perm l').symm) a3 (sortI_sorted l')
          subst e2
          refine hQ _ _ (Go.heap _ (.of fun _ _ => sortedAll_old)) (.list (vs := out) (fun hm => ?_) ⟨_, he, rfl, e, rfl⟩ (ints_all a1))
          obtain ⟨o, ho⟩ := ex _ hm
          exact absurd (Heap.lt_size ho) (Nat.not_lt_of_le (Nat.le_succ _))
    · cases h
  · cases h
end
end
end Mine
set_option autoImplicit false
set_option linter.unusedSectionVars false
set_option linter.unusedVariables false
set_option linter.unusedSimpArgs false
namespace Mine
open PySem PySem.Spec PySem.Calls PyProof.Rows
variable [TB]

section
variable (prog : Program) (w : World) (base : Heap) (Φ : Fns) (k : Nat)

noncomputable def ES (n : Nat) : Prop := ∀ (env : Env) (ρ : Rho) (rd : Bool) (e : Expr) (d : PyData), evalE Φ n env.kindOf ρ rd e = some d →
  ∀ (OP O : List Addr) (A : Around) (s : Shared) (Q E : Value → Shared → Prop), Cx base k env ρ OP O A s → (∀ v s', Go s s' → RdX rd s'.heap OP v d → Q v s') → wpAny (model prog w) A (eval e env) Q E s
noncomputable def TS (n : Nat) : Prop := ∀ (env : Env) (ρ : Rho) (e : Expr) (c : Bool), testE Φ n env.kindOf ρ e = some c →
  ∀ (OP O : List Addr) (A : Around) (s : Shared) (Q : Bool → Shared → Prop) (E : Value → Shared → Prop), Cx base k env ρ OP O A s → (∀ s', Go s s' → Q c s') → wpAny (model prog w) A (isTrue e env (eval e env)) Q E s
noncomputable def CS (n : Nat) : Prop := ∀ (env : Env) (ρ : Rho) (l : Expr) (op : CmpOp) (r : Expr) (c : Bool), cmpE Φ n env.kindOf ρ l op r = some c → behindInMarks op r = false ∧
  ∀ (OP O : List Addr) (A : Around) (s : Shared) (Q E : Value → Shared → Prop), Cx base k env ρ OP O A s → (∀ s', Go s s' → Q (.bool c) s') →
    wpAny (model prog w) A (eval l env) (fun a s₁ => wpAny (model prog w) A (eval r env) (fun b s₂ => wpAny (model prog w) A (compareOp op a b) Q E s₂) E s₁) E s
noncomputable def PS (n : Nat) : Prop := ∀ (env : Env) (ρ : Rho) (e : Option Expr) (o : Option Int), partE Φ n env.kindOf ρ e = some o →
  ∀ (OP O : List Addr) (A : Around) (s : Shared) (Q E : Value → Shared → Prop), Cx base k env ρ OP O A s → (∀ v s', Go s s' → IsPart v o → Q v s') → wpAny (model prog w) A (evalPart e env) Q E s

structure IterOk (A : Around) (rd : Bool) (OP : List Addr) (s : Shared) (xs : List PyData) (I : Addr) (fp : List Addr) (P : Nat → Value → Prop) (St : Nat → Heap → Prop) (s₂ : Shared) : Prop where
  walks : Walks prog w A I fp [I] xs.length P St
  st : St 0 s₂.heap
  go : Go s s₂
  fresh : s.heap.get? I = none
  live : ∀ i h, St i h → ∃ o, h.get? I = some o
  foot : ∀ b ∈ fp, b ≠ I → ∃ o, s₂.heap.get? b = some o ∧ o.cls = .type "list" ∧ (rd = false → b ∉ OP)
  items : ∀ i v d, P i v → xs[i]? = some d → Rd s₂.heap (I :: OP) v d
  size : xs.length ≤ sizeLine
  goes : ∀ (tgt : Expr) (v : Value) (i : Nat) (s' : Shared) (Q : Unit → Shared → Prop) (E : Value → Shared → Prop), St i s'.heap → Q () s' → wpAny (model prog w) A (letOwnedTupleGo tgt (.ref I) v) Q E s'
noncomputable def IS (n : Nat) : Prop := ∀ (env : Env) (ρ : Rho) (rd : Bool) (e : Expr) (xs : List PyData), itemsE Φ n env.kindOf ρ rd e = some xs → (∀ x, foldedSetIterable e env x = pure x) ∧
  ∀ (OP O : List Addr) (A : Around) (s : Shared) (K E : Value → Shared → Prop), Cx base k env ρ OP O A s → (∀ I fp P St s₂, IterOk prog w A rd OP s xs I fp P St s₂ → K (.ref I) s₂) →
    wpAny (model prog w) A (eval e env) (fun x s₁ => wpAny (model prog w) A (pyIter x) K E s₁) E s
end

theorem not_star {Φ : Fns} {n : Nat} {K : Kd} {ρ : Rho} {rd : Bool} {e : Expr} {d : PyData} (h : evalE Φ n K ρ rd e = some d) (rest : List Expr) (env : Env) : starEach (e :: rest) env = (false, eval e env) :: starEach rest env := by
  cases n with
  | zero => simp [evalE] at h
  | succ n => cases e <;> first | rfl | (simp [evalE] at h)
theorem not_set {Φ : Fns} {n : Nat} {K : Kd} {ρ : Rho} {rd : Bool} {e : Expr} {d : PyData} (h : evalE Φ n K ρ rd e = some d) (env : Env) (x : Value) : foldedSetIterable e env x = pure x := by
  cases n with
  | zero => simp [evalE] at h
  | succ n => cases e <;> first | rfl | (simp [evalE] at h)

theorem mapO_mapF (f : Bool → Expr → Option PyData) (rd : Bool) : ∀ (es : List Expr) (ds : List PyData), mapO (f rd) es = some ds → mapF f (List.replicate ds.length rd) es = some ds
  | [], ds, h => by simp only [mapO, Option.some.injEq] at h; subst h; rfl
  | e :: es, ds, h => by
    simp only [mapO, Option.bind_eq_some_iff, Option.some.injEq] at h
    obtain ⟨y, hy, ys, hys, rfl⟩ := h
    simp only [List.length_cons, List.replicate_succ, mapF, hy, mapO_mapF f rd es ys hys, Option.bind_some]
theorem RdXs.all {h : Heap} {O : List Addr} : ∀ {n : Nat} {vs : List Value} {ds : List PyData}, RdXs h O (List.replicate n false) vs ds → RdAll h O vs ds
  | 0, _, _, .nil => .nil
  | _ + 1, _, _, .cons x r => .cons x r.all
theorem RdXs.length {h : Heap} {O : List Addr} : ∀ {bs : List Bool} {vs : List Value} {ds : List PyData}, RdXs h O bs vs ds → vs.length = ds.length
  | _, _, _, .nil => rfl
  | _, _, _, .cons _ r => by simp [r.length]

section
variable {prog : Program} {w : World} {mg mb : Str → Option Value} {base : Heap} {Φ : Fns} {k : Nat}

section
variable {A : Around} {E : Value → Shared → Prop} {OP O : List Addr} {env : Env} {ρ : Rho} {n : Nat} {pos : Pos}

theorem args_sound (ih : ES prog w base Φ k n) : ∀ (es : List Expr) (fl : List Bool) (ds : List PyData), mapF (evalE Φ n env.kindOf ρ) fl es = some ds → ∀ (s : Shared) (Q : List Value → Shared → Prop), Cx base k env ρ OP O A s →
    (∀ vs s', Go s s' → RdXs s'.heap OP fl vs ds → Q vs s') → wpAny (model prog w) A (spliced (backTo pos (starEach es env))) Q E s
  | [], [], ds, h, s, Q, C, hQ => by
    simp only [mapF, Option.some.injEq] at h; subst h
    exact args_nil (hQ _ _ (Go.refl _) .nil)
  | [], _ :: _, ds, h, _, _, _, _ => by simp [mapF] at h
  | _ :: _, [], ds, h, _, _, _, _ => by simp [mapF] at h
  | e :: es, b :: fl, ds, h, s, Q, C, hQ => by
    simp only [mapF, Option.bind_eq_some_iff, Option.some.injEq] at h
    obtain ⟨y, hy, ys, hys, rfl⟩ := h
    refine args_cons (ih env ρ b e y hy OP O A s _ E C fun v s₁ g₁ r₁ => ?_) (not_star hy _ _)
    refine args_sound ih es fl ys hys s₁ _ (C.go g₁) fun vs s₂ g₂ r₂ => ?_
    exact hQ _ _ (g₁.trans g₂) (.cons (r₁.ext g₂.ext) r₂)
theorem args_plain : ∀ (es : List Expr) (fl : List Bool) (ds : List PyData), mapF (evalE Φ n env.kindOf ρ) fl es = some ds → (backTo pos (starEach es env)).any (·.1) = false
  | [], [], ds, h => rfl
  | [], _ :: _, ds, h => by simp [mapF] at h
  | _ :: _, [], ds, h => by simp [mapF] at h
  | e :: es, b :: fl, ds, h => by
    simp only [mapF, Option.bind_eq_some_iff, Option.some.injEq] at h
    obtain ⟨y, hy, ys, hys, rfl⟩ := h
    rw [not_star hy]
    have q := args_plain es fl ys hys
    simp only [backTo, List.map_cons, List.any_cons, Bool.false_or] at q ⊢
    exact q
theorem evalArgs_sound (ih : ES prog w base Φ k n) {es : List Expr} {fl : List Bool} {ds : List PyData} {fv : Value} (h : mapF (evalE Φ n env.kindOf ρ) fl es = some ds) {s : Shared} {Q : Args → Shared → Prop} (C : Cx base k env ρ OP O A s)
    (hQ : ∀ vs s', Go s s' → RdXs s'.heap OP fl vs ds → Q ⟨vs, []⟩ s') : wpAny (model prog w) A (evalArgs fv true (backTo pos (starEach es env)) []) Q E s := by
  cases es with
  | nil =>
    cases fl with
    | nil => simp only [mapF, Option.some.injEq] at h; subst h; exact evalArgs_nil3 (hQ _ _ (Go.refl _) .nil)
    | cons => simp [mapF] at h
  | cons e es =>
    have hst : starEach (e :: es) env = (false, eval e env) :: starEach es env := by
      cases fl with
      | nil => simp [mapF] at h
      | cons b fl =>
        simp only [mapF, Option.bind_eq_some_iff, Option.some.injEq] at h
        obtain ⟨y, hy, _⟩ := h
        exact not_star hy _ _
    have q := args_sound (pos := pos) (E := E) ih (e :: es) fl ds h s (fun vs s' => Q ⟨vs, []⟩ s') C hQ
    rw [hst] at q ⊢
    exact evalArgs_plain q
end

section
variable {A : Around} {E : Value → Shared → Prop} {OP O : List Addr} {env : Env} {ρ : Rho} {s : Shared}
theorem load_sound {x : Str} {v : Value} {Q : Value → Shared → Prop} (he : EnvOk env) (hv : Var s.heap env x v) (hQ : Q v s) : wpAny (model prog w) A (loadName env x) Q E s := by
  rcases hv with ⟨a, m, b, c⟩ | ⟨a, c, b, d⟩ | ⟨a, q, c, b, d⟩
  · exact wpAny_loadName_local he.kind a b c hQ
  · exact wpAny_loadName_cell he.kind a b d hQ
  · exact wpAny_loadName_free he.kind a b d hQ q
theorem glob_sound {x : Str} {p : Pos} {v : Value} {Q : Value → Shared → Prop} (hB : Base mg mb base) (he : EnvOk env) (hx : Ext base s.heap) (hk : env.kindOf x = some .globalImplicit) (hd : (x == Str.ofString "__debug__") = false) (hv : mg x = some v) (hQ : Q v s) :
    wpAny (model prog w) A (eval (.Name x p) env) Q E s :=
  Name_function_global he.kind hk (loadGlobal_global (mg := mg) (by rw [he.g]; exact hx.ns hB.g) hv hQ) hd
theorem blt_sound {x : Str} {p : Pos} {v : Value} {Q : Value → Shared → Prop} (hB : Base mg mb base) (he : EnvOk env) (hx : Ext base s.heap) (hk : env.kindOf x = some .globalImplicit) (hv : biTab.lookup x = some v) (hQ : Q v s) :
    wpAny (model prog w) A (eval (.Name x p) env) Q E s := by
  have hd : (x == Str.ofString "__debug__") = false := by
    cases hq : x == Str.ofString "__debug__" with
    | false => rfl
    | true =>
      rw [eq_of_beq hq] at hv
      exact absurd hv (by rw [show biTab.lookup (Str.ofString "__debug__") = none by decide +kernel]; intro e; cases e)
  exact Name_function_global he.kind hk (loadGlobal_builtin (mg := mg) (mb := mb) (by rw [he.g]; exact hx.ns hB.g) (hB.bi x v hv).1 (by rw [he.b]; exact hx.ns hB.b) (hB.bi x v hv).2 hQ) hd
end

/-! ### comprehension -/
section
noncomputable def clOf (env : Env) : List (Str × NameKind) → List (Str × Addr) → List (Str × Addr)
  | [], acc => acc
  | (n, kd) :: r, acc => if kd == .free then clOf env r ((n, (env.cells.lookup n).getD 0) :: acc) else clOf env r acc
theorem closure_eq {env : Env} (f : Str × NameKind → List (Str × Addr) → Sem (ForInStep (List (Str × Addr)))) (hf : ∀ n kd acc, f (n, kd) acc = if kd == .free then (do let c ← cellOf env n; pure (.yield ((n, c) :: acc))) else pure (.yield acc)) :
    ∀ (names : List (Str × NameKind)) (acc : List (Str × Addr)), (∀ p ∈ names, p.2 = .free → (env.cells.lookup p.1).isSome = true) → forIn names acc f = pure (clOf env names acc)
  | [], acc, _ => by rw [List.forIn_nil]; rfl
  | (n, kd) :: r, acc, h => by
    rw [List.forIn_cons, hf]
    unfold clOf
    by_cases hk : (kd == NameKind.free) = true
    · rw [if_pos hk, if_pos hk]
      have q := h (n, kd) (.head _) (eq_of_beq hk)
      cases hc : env.cells.lookup n with
      | none => rw [hc] at q; cases q
      | some c =>
        have e : cellOf env n = pure c := by unfold cellOf; rw [hc]
        rw [e]
        simp only [pure_bind]
        exact closure_eq f hf r _ fun p hp => h p (.tail _ hp)
    · rw [if_neg hk, if_neg hk]
      simp only [pure_bind]
      exact closure_eq f hf r _ fun p hp => h p (.tail _ hp)
theorem closure_sound {env : Env} {sc : Scope} (h : ∀ p ∈ sc.names, p.2 = .free → (env.cells.lookup p.1).isSome = true) : closureFor sc env = pure (clOf env sc.names []) := by
  unfold closureFor
  have q := closure_eq (env := env) (fun p acc => if (p.2 == .free) then (do let c ← cellOf env p.1; pure (.yield ((p.1, c) :: acc))) else pure (.yield acc)) (fun n kd acc => rfl) sc.names [] h
  refine Eq.trans ?_ q
  simp only [bind_pure]
theorem clOf_lookup {env : Env} {x : Str} {c : Addr} (hc : env.cells.lookup x = some c) : ∀ (names : List (Str × NameKind)) (acc : List (Str × Addr)), ((x, NameKind.free) ∈ names ∨ acc.lookup x = some c) → (clOf env names acc).lookup x = some c
  | [], acc, h => by rcases h with h | h; cases h; exact h
  | (n, kd) :: r, acc, h => by
    unfold clOf
    by_cases hk : (kd == NameKind.free) = true
    · rw [if_pos hk]
      refine clOf_lookup hc r _ ?_
      by_cases hx : x = n
      · subst hx; right; rw [List.lookup_cons, beq_self_eq_true]; simp [hc]
      · rcases h with h | h
        · rcases List.mem_cons.mp h with e | h
          · exact absurd (Prod.mk.inj e).1 hx
          · exact .inl h
        · right; rw [List.lookup_cons]; simp only [show (x == n) = false from beq_eq_false_iff_ne.mpr hx]; exact h
    · rw [if_neg hk]
      refine clOf_lookup hc r _ (h.imp (fun h => ?_) id)
      rcases List.mem_cons.mp h with e | h
      · have := (Prod.mk.inj e).2; subst this; exact absurd rfl hk
      · exact h
theorem relN_lookup (K : Kd) (x : Str) : ∀ names : List (Str × NameKind), (relN names K).lookup x = (names.lookup x).map fun kd => if (kd == .free && K x == some .cell) then .cell else kd
  | [] => rfl
  | (n, kd) :: r => by
    have ih := relN_lookup K x r
    unfold relN at ih ⊢
    rw [List.map_cons]
    by_cases hx : (x == n) = true
    · have : x = n := eq_of_beq hx
      subst this
      by_cases hc : (kd == NameKind.free && K x == some NameKind.cell) = true
      · simp only [List.lookup_cons, hc, if_true, beq_self_eq_true, Option.map_some]
      · simp only [Bool.not_eq_true] at hc; simp only [List.lookup_cons, hc, Bool.false_eq_true, if_false, beq_self_eq_true, Option.map_some]
    · simp only [Bool.not_eq_true] at hx
      by_cases hc : (kd == NameKind.free && K n == some NameKind.cell) = true
      · simp only [List.lookup_cons, hc, if_true, hx]; exact ih
      · simp only [Bool.not_eq_true] at hc; simp only [List.lookup_cons, hc, Bool.false_eq_true, if_false, hx]; exact ih
theorem relabel_names {env : Env} (sc : Scope) (hk : env.scope.kind = .function) : (relabel sc env).names = relN sc.names env.kindOf := by
  unfold relabel relN
  simp only [hk, beq_self_eq_true, Bool.and_true]
theorem kind_comp {env : Env} (sc : Scope) (cl : List (Str × Addr)) (C : Addr) (hk : env.scope.kind = .function) : (compEnvC sc cl C env).kindOf = fun x => (relN sc.names env.kindOf).lookup x := by
  funext x
  unfold Env.kindOf compEnvC
  show (relabel sc env).names.lookup x = _
  rw [relabel_names sc hk]; rfl

theorem kind_comp_at {env : Env} (sc : Scope) (cl : List (Str × Addr)) (C : Addr) (hk : env.scope.kind = .function) (x : Str) : (compEnvC sc cl C env).kindOf x = (relN sc.names env.kindOf).lookup x := by rw [kind_comp sc cl C hk]
theorem setR_lookup (x : Str) (b : Bd) (y : Str) : ∀ ρ : Rho, (setR ρ x b).lookup y = if y = x then some b else ρ.lookup y
  | [] => by
    unfold setR
    by_cases h : y = x
    · subst h; simp [List.lookup_cons]
    · simp [List.lookup_cons, h, show (y == x) = false from beq_eq_false_iff_ne.mpr h]
  | (z, c) :: r => by
    unfold setR
    have ih := setR_lookup x b y r
    by_cases hz : x = z
    · subst hz
      by_cases h : y = x
      · subst h; simp [List.lookup_cons]
      · simp [List.lookup_cons, h, show (y == x) = false from beq_eq_false_iff_ne.mpr h]
    · have hz' : (x == z) = false := beq_eq_false_iff_ne.mpr hz
      simp only [hz', Bool.false_eq_true, if_false]
      by_cases h : y = z
      · subst h
        have : ¬ y = x := fun e => hz e.symm
        simp [List.lookup_cons, this]
      · have h' : (y == z) = false := beq_eq_false_iff_ne.mpr h
        simp only [List.lookup_cons, h']; exact ih
theorem capt_lookup (sc : Scope) (y : Str) (b : Bd) : ∀ ρ : Rho, (capt sc ρ).lookup y = some b → ρ.lookup y = some b ∧ sc.names.lookup y = some .free
  | [], h => by simp [capt] at h
  | (z, c) :: r, h => by
    have ih := capt_lookup sc y b r
    unfold capt at h ih
    rw [List.filter_cons] at h
    by_cases hz : y = z
    · subst hz
      by_cases hf : (sc.names.lookup y == some NameKind.free) = true
      · simp only [hf, if_true, List.lookup_cons, beq_self_eq_true] at h
        simp only [List.lookup_cons, beq_self_eq_true]
        exact ⟨h, eq_of_beq hf⟩
      · simp only [Bool.not_eq_true] at hf
        simp only [hf, Bool.false_eq_true, if_false] at h
        have := (ih h).2
        rw [this] at hf; simp at hf
    · have hz' : (y == z) = false := beq_eq_false_iff_ne.mpr hz
      simp only [List.lookup_cons, hz']
      split at h
      · simp only [List.lookup_cons, hz'] at h; exact ih h
      · exact ih h

theorem BOk.more {h h' : Heap} {OP O new : List Addr} {b : Bd} {v : Value} (hk : ∀ a o, NT o → h.get? a = some o → a ∉ new ∧ h'.get? a = some o) (x : BOk h OP O b v) : BOk h' (new ++ OP) O b v := by
  have hm : ∀ a o, NT o → a ∉ OP → h.get? a = some o → a ∉ new ++ OP ∧ h'.get? a = some o := fun a o n ha ho => ⟨by rw [List.mem_append]; rintro (e | e); exact (hk a o n ho).1 e; exact ha e, (hk a o n ho).2⟩
  obtain ⟨m, d⟩ := b
  cases m with
  | val => exact Rd.mono hm x
  | brw =>
    cases x with
    | of x => exact .of (x.mono hm)
    | list hl r => obtain ⟨o, ho, q⟩ := hl; exact .list ⟨o, (hk _ o (.ty q.1) ho).2, q⟩ (r.mono hm)
    | dict hd r e => exact .dict (hd.at' fun o n ho => (hk _ o n ho).2) (r.mono hm) e
  | own =>
    obtain ⟨a, h1, h2, h3⟩ := x
    refine ⟨a, h1, h2, ?_⟩
    cases h3 with
    | list p r => obtain ⟨o, n, ho, q⟩ := p; exact .list ⟨o, n, (hk _ o (.ty q.1) ho).2, q⟩ (r.mono hm)
    | dict hd r e => exact .dict (hd.at' fun o n ho => (hk _ o n ho).2) (r.mono hm) e

theorem forIn_false {env : Env} : ∀ ifs : List Expr, (forIn ifs false fun c r => if r = true then do let ok ← isTrue c env (eval c env); pure (ForInStep.yield ok) else pure (ForInStep.yield r)) = (pure false : Sem Bool)
  | [] => by rw [List.forIn_nil]
  | c :: r => by rw [List.forIn_cons]; simp only [Bool.false_eq_true, if_false, pure_bind]; exact forIn_false r

variable {prog : Program} {w : World} {base : Heap} {Φ : Fns} {k : Nat}
theorem tests_sound {n : Nat} (ih : TS prog w base Φ k n) {env : Env} {ρ : Rho} {OP O : List Addr} {A : Around} {E : Value → Shared → Prop} : ∀ (ifs : List Expr) (c : Bool), allGo (testE Φ n env.kindOf ρ) .And ifs = some c → ∀ (s : Shared) (Q : Bool → Shared → Prop), Cx base k env ρ OP O A s →
    (∀ s', Go s s' → Q c s') → wpAny (model prog w) A (forIn ifs true fun c r => if r = true then do let ok ← isTrue c env (eval c env); pure (ForInStep.yield ok) else pure (ForInStep.yield r)) Q E s
  | [], c, h, s, Q, C, hQ => by
    simp only [allGo, Option.some.injEq] at h; subst h
    rw [List.forIn_nil]; exact wpAny_pure (hQ _ (Go.refl _))
  | e :: r, c, h, s, Q, C, hQ => by
    simp only [allGo, Option.bind_eq_some_iff] at h
    obtain ⟨b, hb, h⟩ := h
    rw [List.forIn_cons]
    simp only [if_true]
    refine wpAny_bind (wpAny_bind (ih env ρ e b hb OP O A s _ E C fun s₁ g₁ => wpAny_pure ?_))
    cases b with
    | false =>
      simp only [Option.some.injEq] at h; subst h
      show wpAny _ _ (forIn r false _) _ _ _
      rw [forIn_false]
      exact wpAny_pure (hQ _ g₁)
    | true =>
      exact tests_sound ih r c h s₁ Q (C.go g₁) fun s₂ g₂ => hQ _ (g₁.trans g₂)
end
end
end Mine
set_option autoImplicit false
set_option linter.unusedSectionVars false
set_option linter.unusedVariables false
set_option linter.unusedSimpArgs false
namespace Mine
open PySem PySem.Spec PySem.Calls PyProof.Rows
variable [TB]

section
variable {prog : Program} {w : World} {base : Heap} {Φ : Fns} {k : Nat}

theorem fresh_size {h : Heap} {a : Addr} (ha : h.objs.size ≤ a) : h.get? a = none := by
  cases e : h.get? a with
  | none => rfl
  | some o => exact absurd (Heap.lt_size e) (Nat.not_lt.mpr ha)

noncomputable def compF (Φ : Fns) (n : Nat) (K : Kd) (ρ : Rho) (sc : Scope) (tgt elt : Expr) (ifs : List Expr) (d : PyData) : Option (Option PyData) :=
  compB sc tgt (capt sc ρ) (testsB (testE Φ n (fun x => (relN sc.names K).lookup x)) ifs) (elB (evalE Φ n (fun x => (relN sc.names K).lookup x)) elt) d

theorem compSc_facts {sc : Scope} {env : Env} (h : compSc sc env.kindOf = true) : sc.kind = .function ∧ (∀ p ∈ sc.names, p.2 ≠ .cell) ∧ (∀ p ∈ sc.names, sc.names.lookup p.1 = some p.2) ∧
    (∀ p ∈ sc.names, p.2 = .free → (env.kindOf p.1 = some .cell ∨ env.kindOf p.1 = some .free) ∧ (p.1 == Str.ofString "__classdict__") = false) := by
  unfold compSc at h
  simp only [Bool.and_eq_true, List.all_eq_true, Bool.or_eq_true, bne_iff_ne, beq_iff_eq, Bool.not_eq_true'] at h
  obtain ⟨⟨⟨_, h1⟩, h2⟩, h3⟩ := h
  refine ⟨h1, fun p hp => (h2 p hp).1, fun p hp => (h2 p hp).2, fun p hp hf => ?_⟩
  rcases h3 p hp with h | h
  · exact absurd hf h
  · exact ⟨h.1, h.2⟩

theorem compLoop_any {A : Around} {s : Shared} {elt target iter : Expr} {ifs : List Expr} {scope : Scope} {pos : Pos} {it acc : Value} {env : Env} {R : Result → Shared → Prop} (I : Nat → Shared → Prop)
    (turn : ∀ n s, I n s → wpAny (model prog w) A (pyNext it) (fun r s₁ => match r with
      | none => R (.ok .next) s₁
      | some v => wpAny (model prog w) A (letOwnedTupleGo target it v) (fun _ s₁' => wpAny (model prog w) A (assign target env v) (fun _ s₂ =>
          wpAny (model prog w) A (forIn ifs true fun c r => if r = true then do let ok ← isTrue c env (eval c env); pure (ForInStep.yield ok) else pure (ForInStep.yield r)) (fun ok s₃ =>
            if ok = true then wpAny (model prog w) A (eval elt env) (fun x s₄ =>
              wpAny (model prog w) A (call (.builtin "list.append") [acc, x]) (fun _ s₅ => ∃ m, m < n ∧ I m s₅) (notedBy (model prog w) A env fun e s' => R (.error e) s') s₄) (notedBy (model prog w) A env fun e s' => R (.error e) s') s₃
            else ∃ m, m < n ∧ I m s₃) (notedBy (model prog w) A env fun e s' => R (.error e) s') s₂) (notedBy (model prog w) A env fun e s' => R (.error e) s') s₁') (notedBy (model prog w) A env fun e s' => R (.error e) s') s₁) (notedBy (model prog w) A env fun e s' => R (.error e) s') s)
    (n : Nat) (h : I n s) : codeAny (model prog w) A (.compLoop (.ListComp elt [⟨target, iter, ifs, 0⟩] scope pos) 0 it acc env) R s := by
  refine codeAny_loop rfl I (fun n s hI => ?_) n h
  show wpAny _ A ((compTurn (.ListComp elt [⟨target, iter, ifs, 0⟩] scope pos) 0 it acc env).onRaise (fun x => do noteFrame x env; theTreesLotGoes x)) _ _ s
  refine wpAny_noted ?_
  rw [compTurn_list]
  refine wpAny_bind (wpAny_standAt (wpAny_bind (wpAny_mono (turn n s hI) (fun r s₁ h₁ => ?_) fun _ _ h' => h')))
  match r, h₁ with
  | none, h₁ => exact wpAny_pure h₁
  | some v, h₁ =>
    refine wpAny_bind (wpAny_mono h₁ (fun _ s₁' h₁' => wpAny_bind (wpAny_mono h₁' (fun _ s₂ h₂ => wpAny_bind (wpAny_mono h₂ (fun ok s₃ h₃ => ?_) fun _ _ h' => h')) fun _ _ h' => h')) fun _ _ h' => h')
    cases ok with
    | false => exact wpAny_pure ⟨rfl, h₃⟩
    | true => exact wpAny_bind (wpAny_bind (wpAny_mono h₃ (fun x s₄ h₄ => wpAny_bind (wpAny_mono h₄ (fun _ s₅ h₅ => wpAny_pure (wpAny_pure ⟨rfl, h₅⟩)) fun _ _ h' => h')) fun _ _ h' => h'))

/-- the target of a comprehension takes an item -/
theorem bindC_sound {sc : Scope} {cl : List (Str × Addr)} {C : Addr} {env : Env} {tgt : Expr} {d : PyData} {ρc ρ' : Rho} {A : Around} {s : Shared} {v : Value} {OP : List Addr} {m' : Str → Option Value} {E : Value → Shared → Prop} {Q : Unit → Shared → Prop}
    (hh : A.handled = none) (hkind : sc.kind = .function) (hek : env.scope.kind = .function) (hb : bindC sc tgt d ρc = some ρ') (hv : Rd s.heap OP v d) (hns : s.heap.Ns C m') 
    (hQ : ∀ h₃ tk m₃, h₃.Ns C m₃ → Heap.ExtBut C s.heap h₃ → (∀ y b, ρ'.lookup y = some b → (∃ u, m₃ y = some u ∧ sc.names.lookup y = some .local ∧ b.m = .val ∧ Rd s.heap OP u b.d) ∨ ρc.lookup y = some b) → Q () { s with heap := h₃, toks := tk }) :
    wpAny (model prog w) A (assign tgt (compEnvC sc cl C env) v) Q E s := by
  have hloc : ∀ x, sc.names.lookup x = some .local → (compEnvC sc cl C env).kindOf x = some .local := fun x hx => by rw [kind_comp_at sc _ C hek, relN_lookup, hx]; rfl
  have hp : ((compEnvC sc cl C env).scope.kind == .class || ((compEnvC sc cl C env).scope.kind == .module && (compEnvC sc cl C env).locals != (compEnvC sc cl C env).globals)) = false := by show (sc.kind == .class || (sc.kind == .module && _)) = false; rw [hkind]; rfl
  unfold bindC at hb
  split at hb
  · rename_i x px
    split at hb
    · rename_i hxl
      have hxl' : sc.names.lookup x = some .local := eq_of_beq hxl
      cases hb
      refine wpAny_assign_Name (wpAny_storeName_local (env := compEnvC sc cl C env) (m := m') (hloc x hxl') hns (fun h₃ hns₃ hsb₃ => ?_) hp)
      refine hQ h₃ _ _ hns₃ hsb₃.extBut fun y b hy => ?_
      rw [setR_lookup] at hy
      split at hy
      · rename_i e; subst e; cases hy; exact .inl ⟨v, by simp, hxl', rfl, hv⟩
      · exact .inr hy
    · cases hb
  · rename_i x px y py k tp d1 d2
    split at hb
    · rename_i hxl
      simp only [Bool.and_eq_true, beq_iff_eq, Bool.not_eq_true', beq_eq_false_iff_ne] at hxl
      obtain ⟨⟨hx, hy⟩, hxy⟩ := hxl
      cases hb
      obtain ⟨T, vs, rfl, hT, hvs⟩ := RdT.tuple_inv (.of hv)
      obtain ⟨v1, v2, rfl, hv1, hv2⟩ : ∃ v1 v2, vs = #[v1, v2] ∧ Rd s.heap OP v1 d1 ∧ Rd s.heap OP v2 d2 := by
        obtain ⟨l⟩ := vs
        cases hvs with
        | cons a r => cases r with | cons b r => cases r; exact ⟨_, _, rfl, a, b⟩
      refine wpAny_assign_Tuple hh hT rfl rfl fun h₁ hx₁ => ?_
      have old₁ : ∀ b o, s.heap.get? b = some o → h₁.get? b = some o := fun b o e => hx₁ b o (Nat.ne_of_lt (Heap.lt_size e)) e
      show wpAny _ _ (do holding [v2] (assign (.Name x px) (compEnvC sc cl C env) v1); do holding [] (assign (.Name y py) (compEnvC sc cl C env) v2); pure ()) _ _ _
      refine wpAny_bind (wpAny_holding (wpAny_assign_Name (wpAny_storeName_local (env := compEnvC sc cl C env) (m := m') (hloc x hx) (hns.keeps old₁) (fun h₂ hns₂ hsb₂ => ?_) hp)))
      refine wpAny_bind (wpAny_holding (wpAny_assign_Name (wpAny_storeName_local (env := compEnvC sc cl C env) (hloc y hy) hns₂ (fun h₃ hns₃ hsb₃ => ?_) hp)))
      refine wpAny_pure (hQ h₃ _ _ hns₃ (fun b o hb e => hsb₃.extBut b o hb (hsb₂.extBut b o hb (old₁ b o e))) fun z b hz => ?_)
      rw [setR_lookup] at hz
      split at hz
      · rename_i e; subst e; cases hz; exact .inl ⟨v2, by simp, hy, rfl, hv2⟩
      · rename_i e
        rw [setR_lookup] at hz
        split at hz
        · rename_i e2; subst e2; cases hz; exact .inl ⟨v1, by simp [e], hx, rfl, hv1⟩
        · exact .inr hz
    · cases hb
  · cases hb

theorem comp_sound {n : Nat} (hE : ES prog w base Φ k n) (hT : TS prog w base Φ k n) (hI : IS prog w base Φ k n) {env : Env} {ρ : Rho} {OP O : List Addr} {A : Around} {E : Value → Shared → Prop} {s : Shared} {sc : Scope} {tgt elt iter : Expr} {ifs : List Expr} {pos pos' : Pos} {xs ys : List PyData}
    {use : Option (Value → Sem Unit)} {Q : Value → Shared → Prop}
    (hcs : compSc sc env.kindOf = true) (htg : tgtC sc tgt = true) (hi : itemsE Φ n env.kindOf ρ true iter = some xs) (hg : compGo (compF Φ n env.kindOf ρ sc tgt elt ifs) xs = some ys) (Cc : Cx base k env ρ OP O A s)
    (hQ : ∀ D C s', Go s s' → s.heap.get? D = none → s.heap.get? C = none → D ≠ C → Rd s'.heap (C :: OP) (.ref D) (.list ys) → s'.heap.PlainList D ((s'.heap.get? D).elim #[] fun o => match o.data with | .seq v _ => v | _ => #[]) → (∃ m, s'.heap.Ns C m) → compPost (model prog w) A E use Q (.ref D) C (.ok .next) s') :
    wpAny (model prog w) A (comprehension (.ListComp elt [⟨tgt, iter, ifs, 0⟩] sc pos) sc env pos' (newList []) false (eval iter env) use) Q E s := by
  obtain ⟨hkind, hncell, hnames, hfree⟩ := compSc_facts hcs
  have hnall : sc.names.lookup (Str.ofString "all") = none := by
    unfold compSc at hcs
    simp only [Bool.and_eq_true, Option.isNone_iff_eq_none] at hcs
    exact hcs.1.1.1
  obtain ⟨hset, hiter⟩ := hI env ρ true iter xs hi
  have hclos := closure_sound (env := env) (sc := sc) fun p hp hf => Cc.en.cells p.1 (hfree p hp hf).1
  refine wpAny_comprehension_free rfl hset hclos hkind (fun x hx hl => hl ▸ hnames x hx) (hiter OP O A s _ E Cc fun I fp P St s₂ it => ?_)
  refine wpAny_newObj_type (wpAny_newFunctionEnv hncell (by intro y hy; simp at hy) (fun h₁ hns₁ hsb₁ => ?_) hkind)
  dsimp only at hns₁ hsb₁ ⊢
  generalize hH2 : s₂.heap.push { cls := .type "list", dict := none, data := .seq ([] : List Value).toArray } = H2 at hns₁ hsb₁ ⊢
  have hCs : H2.objs.size = s₂.heap.objs.size + 1 := by rw [← hH2, Heap.size_push]
  generalize hDd : s₂.heap.objs.size = D at *
  generalize hCd : H2.objs.size = C at *
  have hDC : D ≠ C := by omega
  have hDf : s₂.heap.get? D = none := fresh_size (by omega)
  have hCf : s₂.heap.get? C = none := fresh_size (by omega)
  have old : ∀ b o, s₂.heap.get? b = some o → h₁.get? b = some o := fun b o e => hsb₁.extBut b o (by rintro rfl; rw [hCf] at e; cases e) (Heap.get?_push_of_some _ (hH2 ▸ Heap.get?_push_of_some _ e))
  have hacc : h₁.PlainList D #[] := ⟨_, hsb₁.extBut _ _ hDC (Heap.get?_push_of_some _ (hH2 ▸ hDd ▸ Heap.get?_push_size _ rfl))⟩
  obtain ⟨oI, hoI⟩ := it.live 0 _ it.st
  have hDI : D ≠ I := by rintro rfl; rw [hDf] at hoI; cases hoI
  have hCI : C ≠ I := by rintro rfl; rw [hCf] at hoI; cases hoI
  have hDs : s.heap.get? D = none := it.go.ext.old hDf
  have hCsn : s.heap.get? C = none := it.go.ext.old hCf
  have hPI : TB.P ≠ I := Cc.tb.new it.fresh
  have hPD : TB.P ≠ D := Cc.tb.new hDs
  have hPC : TB.P ≠ C := Cc.tb.new hCsn
  have hPIl : TB.P ∉ [I] := by simpa using hPI
  have tb₂ : Tb s₂.heap := it.go.ext.grow.tb Cc.tb
  have hfpP : ∀ b ∈ fp, b ≠ TB.P := fun b hb => by
    by_cases hbI : b = I
    · subst hbI; exact hPI.symm
    · obtain ⟨o, ho, hc, _⟩ := it.foot b hb hbI
      exact tb₂.ne ho (.ty hc)
  have hxI : I ∉ OP := fun hm => by obtain ⟨o, ho⟩ := Cc.ex _ hm; rw [it.fresh] at ho; cases ho
  have hDOP : D ∉ OP := fun hm => by obtain ⟨o, ho⟩ := Cc.ex _ hm; rw [hDs] at ho; cases ho
  have hCOP : C ∉ OP := fun hm => by obtain ⟨o, ho⟩ := Cc.ex _ hm; rw [hCsn] at ho; cases ho
  have hst₁ : St 0 h₁ := it.walks.frame _ _ _ it.st fun b hb o e => old b o e
  have hfD : D ∉ fp := fun hm => by
    obtain ⟨o, ho, _⟩ := it.foot D hm hDI
    rw [hDf] at ho; cases ho
  have hfC : C ∉ fp := fun hm => by
    obtain ⟨o, ho, _⟩ := it.foot C hm hCI
    rw [hCf] at ho; cases ho
  -- the loop
  have loop : ∀ s₃ : Shared, s₃ = { s₂ with heap := h₁, toks := s₂.toks + ([] : List (Str × Value)).length } →
      codeAny (model prog w) A (.compLoop (.ListComp elt [⟨tgt, iter, ifs, 0⟩] sc pos) 0 (.ref I) (.ref D) (compEnvC sc (clOf env sc.names []) C env)) (compPost (model prog w) A E use Q (.ref D) C) s₃ := by
    rintro s₃ rfl
    refine compLoop_any
      (fun m s' => ∃ (vs : Array Value) (i : Nat) (ds rest : List PyData), s'.os = s₂.os ∧ (AllBare s₂.gens → AllBare s'.gens) ∧ ExtB [I] s₂.heap s'.heap ∧ St i s'.heap ∧ s'.heap.PlainList D vs ∧ (∃ m', s'.heap.Ns C m') ∧
        RdAll s'.heap ([D, C, I] ++ OP) vs.toList ds ∧ i ≤ xs.length ∧ compGo (compF Φ n env.kindOf ρ sc tgt elt ifs) (xs.drop i) = some rest ∧ ys = ds ++ rest ∧ vs.size ≤ i ∧ m = xs.length + 1 - i) ?_ (xs.length + 1)
      ⟨#[], 0, [], ys, rfl, fun h => h, .of (fun b o _ e => old b o e) hPIl, hst₁, hacc, ⟨_, hns₁⟩, .nil, Nat.zero_le _, by simpa using hg, rfl, Nat.le_refl _, rfl⟩
    rintro m s' ⟨vs, i, ds, rest, hos, hgen, hk, hst, hpl, ⟨m', hns⟩, hrd, hile, hrest, hys, hvi, rfl⟩
    by_cases hlt : i < xs.length
    · -- an item
      refine it.walks.item i _ _ _ hlt hst fun v h₂ tk₂ hPv hst₂ hk₂ => ?_
      have hxi : xs[i]? = some xs[i] := List.getElem?_eq_getElem hlt
      rw [List.drop_eq_getElem_cons hlt] at hrest
      simp only [compGo, Option.bind_eq_some_iff, Option.some.injEq] at hrest
      obtain ⟨oy, hoy, rest', hrest', hre⟩ := hrest
      unfold compF compB testsB elB at hoy
      simp only [Option.bind_eq_some_iff] at hoy
      obtain ⟨ρ', hρ', c, hc, hoy⟩ := hoy
      have hvd := it.items i v _ hPv hxi
      have hk2 : ExtB [I] s₂.heap h₂ := hk.trans (.of (fun b o hb e => hk₂ b o hb e) hPIl)
      have hns₂ : h₂.Ns C m' := hns.at' fun o e => hk₂ C o (by simpa using hCI) e
      have hpl₂ : h₂.PlainList D vs := hpl.at fun o e => hk₂ D o (by simpa using hDI) e
      have hvd2 : Rd h₂ ([D, C, I] ++ OP) v xs[i] := hvd.mono fun a o nt ha ho => by
        simp only [List.mem_cons, not_or] at ha
        refine ⟨?_, hk2.get a o (.inl nt) (by simpa using ha.1) ho⟩
        simp only [List.cons_append, List.nil_append, List.mem_cons, not_or]
        exact ⟨(by rintro rfl; rw [hDf] at ho; cases ho), (by rintro rfl; rw [hCf] at ho; cases ho), ha.1, ha.2⟩
      refine it.goes tgt v (i + 1) _ _ _ hst₂ ?_
      refine bindC_sound (s := { s' with heap := h₂, toks := tk₂ }) Cc.at_.handled hkind Cc.en.kind hρ' hvd2 hns₂ fun h₃ tk₃ m₃ hns₃ hsb₃ hbd => ?_
      -- the state behind the store
      have hk3 : ∀ b o, b ≠ I → b ≠ C → h₂.get? b = some o → h₃.get? b = some o := fun b o _ hb e => hsb₃ b o hb e
      have hst₃ : St (i + 1) h₃ := it.walks.frame _ _ _ hst₂ fun b hb o e => hsb₃ b o (by rintro rfl; exact hfC hb) e
      have hpl₃ : h₃.PlainList D vs := hpl₂.at fun o e => hsb₃ D o hDC e
      have hk3' : ExtB [I] s₂.heap h₃ := hk2.sameX hsb₃ hCf hPC
      have hx3 : Ext s.heap h₃ := it.go.ext.thenB hk3' (by simpa using it.fresh)
      have hrd₃ : RdAll h₃ ([D, C, I] ++ OP) vs.toList ds := hrd.mono fun a o _ ha ho => by
        refine ⟨ha, ?_⟩
        simp only [List.cons_append, List.nil_append, List.mem_cons, not_or] at ha
        exact hsb₃ a o ha.2.1 (hk₂ a o (by simpa using ha.2.2.1) ho)
      have C' : Cx base k (compEnvC sc (clOf env sc.names []) C env) ρ' ([D, C, I] ++ OP) O A { s' with heap := h₃, toks := tk₃ } := by
        have hkf : ∀ a o, NT o → s.heap.get? a = some o → a ∉ [D, C, I] ∧ h₃.get? a = some o := fun a o n e => by
          refine ⟨?_, hx3.nt n e⟩
          simp only [List.mem_cons, List.not_mem_nil, or_false, not_or]
          exact ⟨(by rintro rfl; rw [hDs] at e; cases e), (by rintro rfl; rw [hCsn] at e; cases e), (by rintro rfl; rw [it.fresh] at e; cases e)⟩
        refine ⟨⟨?_, Cc.en.g, Cc.en.b, ?_⟩, Cc.at_, (fun h => by rw [kind_comp_at sc _ C Cc.en.kind] at h; simp only [relN_lookup, hnall] at h; cases h), Cc.base.trans hx3, hx3.grow.tb Cc.tb, ?_, ?_⟩
        · show sc.kind = .function; exact hkind
        · intro y hy
          rw [kind_comp_at sc _ C Cc.en.kind] at hy
          simp only [relN_lookup] at hy
          have hyf : sc.names.lookup y = some .free := by
            cases hq : sc.names.lookup y with
            | none => rw [hq] at hy; simp at hy
            | some kd =>
              rw [hq] at hy
              have hmem := mem_of_lookup hq
              cases kd with
              | free => rfl
              | cell => exact absurd rfl (hncell _ hmem)
              | _ => simp at hy
          have hmem := mem_of_lookup hyf
          have h2 := Cc.en.cells y (hfree _ hmem rfl).1
          cases hq : env.cells.lookup y with
          | none => rw [hq] at h2; cases h2
          | some c' =>
            show ((clOf env sc.names []).lookup y).isSome = true
            rw [clOf_lookup hq _ _ (.inl hmem)]; rfl
        · intro a ha
          simp only [List.cons_append, List.nil_append, List.mem_cons] at ha
          rcases ha with rfl | rfl | rfl | ha
          · obtain ⟨_, e⟩ := hpl₃; exact ⟨_, e⟩
          · obtain ⟨o, _, _, e, _⟩ := hns₃; exact ⟨o, e⟩
          · exact it.live _ _ hst₃
          · obtain ⟨o, ho⟩ := Cc.ex a ha; exact hx3.there ho
        · intro y b hy
          rcases hbd y b hy with ⟨u, hu, hyl, hbv, hru⟩ | hy
          · obtain ⟨bm, bd⟩ := b
            cases hbv
            refine ⟨u, .inl ⟨by rw [kind_comp_at sc _ C Cc.en.kind, relN_lookup, hyl]; rfl, _, hns₃, hu⟩, ?_⟩
            show Rd h₃ _ u _
            refine hru.mono fun a o nt ha ho => ?_
            refine ⟨ha, hsb₃ a o ?_ ho⟩
            simp only [List.cons_append, List.nil_append, List.mem_cons, not_or] at ha
            exact ha.2.1
          · obtain ⟨hy1, hy2⟩ := capt_lookup sc y b ρ hy
            obtain ⟨u, hu1, hu2⟩ := Cc.vars y b hy1
            refine ⟨u, ?_, hu2.more hkf⟩
            have hmem := mem_of_lookup hy2
            have hcls := (hfree _ hmem rfl).2
            have hkc := kind_comp_at sc (clOf env sc.names []) C Cc.en.kind
            rcases hu1 with ⟨a, _⟩ | ⟨a, c', b', d'⟩ | ⟨a, q, c', b', d'⟩
            · rcases (hfree _ hmem rfl).1 with e | e <;> rw [a] at e <;> cases e
            · refine .inr (.inl ⟨by rw [hkc]; simp only [relN_lookup, hy2, a]; rfl, c', clOf_lookup b' _ _ (.inl hmem), ?_⟩)
              exact hx3.cell d'
            · refine .inr (.inr ⟨by rw [hkc]; simp only [relN_lookup, hy2, a]; rfl, q, c', clOf_lookup b' _ _ (.inl hmem), ?_⟩)
              exact hx3.cell d'
      rw [← kind_comp sc (clOf env sc.names []) C Cc.en.kind] at hc hoy
      refine tests_sound hT ifs c hc _ _ C' fun s₅ g₅ => ?_
      have hns₅ := g₅.ext.ns hns₃
      have hst₅ : St (i + 1) s₅.heap := it.walks.frame _ _ _ hst₃ fun b hb o e => g₅.ext.get b o (.inr (hfpP b hb)) e
      have hrd₅ := hrd₃.ext g₅.ext
      have hpl₅ : s₅.heap.PlainList D vs := hpl₃.at fun o e => g₅.ext.get _ _ (.inr hPD.symm) e
      have hk5 : ExtB [I] s₂.heap s₅.heap := hk3'.trans g₅.ext.toB
      cases c with
      | false =>
        simp only [Bool.false_eq_true, if_false, Option.some.injEq] at hoy ⊢
        subst hoy
        dsimp only at hre
        exact ⟨xs.length + 1 - (i + 1), by omega, vs, i + 1, ds, rest', g₅.os.trans hos, fun h => g₅.gens (hgen h), hk5, hst₅, hpl₅, ⟨_, hns₅⟩, hrd₅, hlt, hrest', by rw [hys, ← hre], by omega, rfl⟩
      | true =>
        simp only [if_true] at hoy ⊢
        cases hy : evalE Φ n (compEnvC sc (clOf env sc.names []) C env).kindOf ρ' false elt with
        | none => rw [hy] at hoy; cases hoy
        | some y =>
          rw [hy] at hoy
          simp only [Option.map_some, Option.some.injEq] at hoy
          subst hoy
          dsimp only at hre
          refine hE _ _ false elt y hy _ O A s₅ _ _ (C'.go g₅) fun u s₆ g₆ r₆ => ?_
          have r6 : Rd s₆.heap ([D, C, I] ++ OP) u y := r₆
          refine wpAny_list_append_plain (hpl₅.at fun o e => g₆.ext.get _ _ (.inr hPD.symm) e) (fun h₇ hpl₇ hsb₇ => ?_) (by have := it.size; omega)
          have hk7 : ∀ b o, b ≠ D → s₆.heap.get? b = some o → h₇.get? b = some o := fun b o hb e => hsb₇.extBut b o hb e
          have hm7 : ∀ a o, NT o → a ∉ [D, C, I] ++ OP → s₆.heap.get? a = some o → a ∉ [D, C, I] ++ OP ∧ h₇.get? a = some o := fun a o _ ha ho => by
            refine ⟨ha, ?_⟩
            simp only [List.cons_append, List.nil_append, List.mem_cons, not_or] at ha
            exact hk7 a o ha.1 ho
          refine ⟨xs.length + 1 - (i + 1), by omega, vs.push u, i + 1, ds ++ [y], rest', (g₆.os.trans g₅.os).trans hos, fun h => g₆.gens (g₅.gens (hgen h)), ?_, ?_, hpl₇, ⟨_, (g₆.ext.ns hns₅).sameBut hsb₇ hDC.symm⟩, ?_, hlt, hrest', by rw [hys, ← hre]; simp, by rw [Array.size_push]; omega, rfl⟩
          · exact (hk5.trans g₆.ext.toB).same hsb₇ hDf hPD
          · exact it.walks.frame _ _ _ hst₅ fun b hb o e => hk7 b o (by rintro rfl; exact hfD hb) (g₆.ext.get b o (.inr (hfpP b hb)) e)
          · rw [Array.toList_push]
            exact RdAll.append (.cons (r6.mono hm7) .nil) ((hrd₅.ext g₆.ext).mono hm7)
    · -- the end
      have hin : i = xs.length := by omega
      subst hin
      refine it.walks.done _ _ _ hst fun h₂ tk₂ hk₂ => ?_
      have hrest0 : rest = [] := by
        rw [List.drop_length] at hrest
        simp only [compGo, Option.some.injEq] at hrest; exact hrest.symm
      subst hrest0
      rw [List.append_nil] at hys
      subst hys
      have hpl₂ : h₂.PlainList D vs := hpl.at fun o e => hk₂ D o (by simpa using hDI) e
      refine hQ D C _ ⟨?_, hos.trans it.go.os, fun h => hgen (it.go.gens h)⟩ hDs hCsn hDC ?_ ?_ ⟨m', hns.at' fun o e => hk₂ C o (by simpa using hCI) e⟩
      · exact it.go.ext.thenB (hk.trans (.of (fun b o hb e => hk₂ b o hb e) hPIl)) (by simpa using it.fresh)
      · refine .list (vs := vs) ?_ hpl₂.isList (hrd.mono fun a o _ ha ho => ?_)
        · simp only [List.mem_cons, not_or]; exact ⟨hDC, hDOP⟩
        · simp only [List.cons_append, List.nil_append, List.mem_cons, not_or] at ha
          exact ⟨by simp only [List.mem_cons, not_or]; exact ⟨ha.2.1, ha.2.2.2⟩, hk₂ a o (by simpa using ha.2.2.1) ho⟩
      · obtain ⟨nn, e⟩ := hpl₂
        have e' : h₂.get? D = _ := e
        simp only [e', Option.elim_some]
        exact ⟨nn, e⟩
  exact codeAny_compStart_list (loop _ rfl) (it.walks.self 0 _ _ _ hst₁ (loop _ rfl))
end
end Mine
set_option autoImplicit false
set_option linter.unusedSectionVars false
set_option linter.unusedVariables false
set_option linter.unusedSimpArgs false
namespace Mine
open PySem PySem.Spec PySem.Calls PyProof.Rows
variable [TB]

section
variable {prog : Program} {w : World} {mg mb : Str → Option Value} {base : Heap} {Φ : Fns} {k : Nat}

theorem ps_step {n : Nat} (hE : ES prog w base Φ k n) : PS prog w base Φ k (n + 1) := by
  intro env ρ e o h OP O A s Q E C hQ
  cases e with
  | none =>
    simp only [partE, Option.some.injEq] at h; subst h
    rw [evalPart_none]
    exact wpAny_pure (hQ _ _ (Go.refl _) .none)
  | some e =>
    simp only [partE, Option.bind_eq_some_iff] at h
    obtain ⟨d, hd, h⟩ := h
    rw [evalPart_some]
    refine hE env ρ true e d hd OP O A s _ E C fun v s' g r => ?_
    cases d with
    | int i =>
      simp only [asPart, Option.some.injEq] at h; subst h
      obtain ⟨t, rfl⟩ := RdT.int_inv r
      exact hQ _ _ g (.int _ _)
    | _ => simp [asPart] at h

theorem isGlob_eq {K : Kd} {f x : Str} (h : isGlob K f x = true) : x = f ∧ K x = some .globalImplicit := by
  unfold isGlob at h
  simp only [Bool.and_eq_true, beq_iff_eq] at h
  exact h

theorem letgo_range {A : Around} {E : Value → Shared → Prop} {tgt : Expr} {I : Addr} {a b c : Int} {v : Value} {Q : Unit → Shared → Prop} {s' : Shared} (hit : IsRangeIter s'.heap I a b c) (h : Q () s') : wpAny (model prog w) A (letOwnedTupleGo tgt (.ref I) v) Q E s' := by
  have ho : s'.heap.get? I = _ := hit
  unfold letOwnedTupleGo
  cases tgt <;> first
    | exact wpAny_pure h
    | (cases v <;> first
        | exact wpAny_pure h
        | (refine wpAny_bind (wpAny_load ho ?_)
           exact wpAny_pure h))
theorem is_step {n : Nat} (hB : Base mg mb base) (hE : ES prog w base Φ k n) : IS prog w base Φ k (n + 1) := by
  intro env ρ rd e xs h
  simp only [itemsE] at h
  cases hr : rangeArgs? env.kindOf e with
  | some args =>
    rw [hr] at h
    simp only [Option.bind_eq_some_iff] at h
    obtain ⟨ds, hds, hxs⟩ := h
    unfold rangeArgs? at hr
    split at hr
    · rename_i f np args' pos
      split at hr
      · rename_i hf
        cases hr
        obtain ⟨rfl, hk⟩ := isGlob_eq hf
        refine ⟨fun x => rfl, fun OP O A s K E C hK => ?_⟩
        refine wpAny_Call_NameR (blt_sound hB C.en C.base hk (v := .type "range") (by decide +kernel) ?_)
        have hm := mapO_mapF _ true _ _ hds
        refine PyProof.Rows.callWith_type (args_plain _ _ _ hm) (evalArgs_sound hE hm C fun vs s₁ g₁ r₁ => ?_)
        have key : ∀ (a b : Int) (h₂ : Heap) (tk : Nat) (r : Addr) (t u v : Tok), smallI a = true → smallI b = true → xs = rangeL a b → s₁.heap.get? r = none → Ext s₁.heap h₂ → IsRange h₂ r a b 1 t u v → wpAny (model prog w) A (pyIter (.ref r)) K E { s₁ with heap := h₂, toks := tk } := by
          intro a b h₂ tk r t u v ha hb hx hrn hext hrg
          simp only [smallI, Bool.and_eq_true, decide_eq_true_eq] at ha hb
          refine wpAny_pyIter_range hrg (small_one (by omega) (by omega) (by omega) (by omega)) ?_
          have hlen : xs.length = (b - a).toNat := by rw [hx]; simp [rangeL]
          have hsz : Builtin.Range.rangeSize a b 1 = (xs.length : Int) := by rw [rangeSize_one, hlen]; split <;> omega
          rw [hsz]
          have hfr : s₁.heap.get? h₂.objs.size = none := hext.old (fresh_size (Nat.le_refl _))
          refine hK h₂.objs.size _ _ _ _ ⟨Walks.range C.at_.handled _ a 1 xs.length, ?_, ?_, ?_, ?_, ?_, ?_, ?_, fun tgt v i s' Q E hst hQ => letgo_range hst hQ⟩
          · show IsRangeIter _ _ _ _ _
            simpa using Heap.get?_push_size _ rfl
          · exact g₁.trans (Go.of _ (hext.trans (Ext.push _ _)))
          · exact g₁.ext.old hfr
          · intro i h hi; exact ⟨_, hi⟩
          · intro b' hb' hne; exact absurd (List.mem_singleton.mp hb') hne
          · rintro i v' d ⟨t', rfl⟩ hd
            rw [hx] at hd
            simp only [rangeL, List.getElem?_map, Option.map_eq_some_iff] at hd
            obtain ⟨j, hj, rfl⟩ := hd
            have hji : j = i := by
              obtain ⟨hlt, he⟩ := List.getElem?_eq_some_iff.mp hj
              simpa using he.symm
            have e1 : a + (i : Int) * 1 = a + (j : Int) := by omega
            rw [e1]; exact .int _ _
          · have : sizeLine = 2 ^ 24 := rfl
            rw [hlen]; omega
        unfold rangeD at hxs
        split at hxs
        · split at hxs
          · rename_i b hb
            cases hxs
            cases r₁ with
            | cons x r =>
              cases r
              obtain ⟨t, rfl⟩ := RdT.int_inv x
              exact call_range_1 (key 0 b _ _ _ _ _ _ (by decide) hb rfl (fresh_size (Nat.le_refl _)) (Ext.push _ _) (IsRange.new _ _ _ _ _ _ _))
          · cases hxs
        · split at hxs
          · rename_i a b hab
            cases hxs
            simp only [Bool.and_eq_true] at hab
            cases r₁ with
            | cons x r =>
              cases r with
              | cons y r =>
                cases r
                obtain ⟨t, rfl⟩ := RdT.int_inv x
                obtain ⟨u, rfl⟩ := RdT.int_inv y
                exact call_range_2 (key a b _ _ _ _ _ _ hab.1 hab.2 rfl (fresh_size (Nat.le_refl _)) (Ext.push _ _) (IsRange.new _ _ _ _ _ _ _))
          · cases hxs
        · cases hxs
      · cases hr
    · cases hr
  | none =>
    rw [hr] at h
    simp only [Option.bind_eq_some_iff] at h
    obtain ⟨d, hd, h⟩ := h
    refine ⟨not_set hd env, fun OP O A s K E C hK => ?_⟩
    cases d with
    | list ys =>
      simp only [itemsD] at h
      split at h
      · rename_i hsz
        cases h
        refine hE env ρ rd e _ hd OP O A s _ E C fun v s₁ g₁ r₁ => ?_
        obtain ⟨a, vs, rfl, hl, hvs, hav⟩ : ∃ a vs, v = .ref a ∧ s₁.heap.IsList a vs ∧ RdAll s₁.heap OP vs.toList xs ∧ (rd = false → a ∉ OP) := by
          cases rd with
          | true => obtain ⟨a, vs, h1, h2, h3⟩ := RdT.list_inv r₁; exact ⟨a, vs, h1, h2, h3, fun e => by cases e⟩
          | false =>
            have r2 : Rd s₁.heap OP v (.list xs) := r₁
            cases r2 with | list h1 h2 h3 => exact ⟨_, _, rfl, h2, h3, fun _ => h1⟩
        obtain ⟨o, ho, hoc, nn, hdt⟩ := id hl
        have hlen : vs.size = xs.length := by have := hvs.length; simpa using this
        have hne : a ≠ s₁.heap.objs.size := Nat.ne_of_lt (Heap.lt_size ho)
        refine wpAny_pyIter_list hl ?_
        have W := Walks.list (prog := prog) (w := w) C.at_.handled s₁.heap.objs.size a hne vs
        rw [hlen] at W
        refine hK s₁.heap.objs.size _ _ _ _ ⟨W, ?_, g₁.trans (Go.heap _ (Ext.push _ _)), ?_, ?_, ?_, ?_, hsz, fun tgt v i s' Q E hst hQ => letGo_listiter hst.1 hQ⟩
        · exact ⟨⟨_, Heap.get?_push_size _ rfl, rfl, rfl⟩, hl.at fun o e => Heap.get?_push_of_some _ e⟩
        · exact g₁.ext.old (fresh_size (Nat.le_refl _))
        · rintro i h ⟨⟨o, ho, _⟩, _⟩; exact ⟨o, ho⟩
        · intro b hb hbI
          simp only [List.mem_cons, List.not_mem_nil, or_false] at hb
          rcases hb with rfl | rfl
          · exact absurd rfl hbI
          · exact ⟨o, Heap.get?_push_of_some _ ho, hoc, hav⟩
        · intro i v d hv hd'
          obtain ⟨v', hv', hr'⟩ := hvs.get hd'
          have : v' = v := by
            have h1 : vs.toList[i]? = some v := by simpa using hv
            rw [h1] at hv'; exact (Option.some.inj hv').symm
          subst this
          refine hr'.mono fun b ob _ hb hob => ⟨?_, Heap.get?_push_of_some _ hob⟩
          simp only [List.mem_cons, not_or]
          exact ⟨Nat.ne_of_lt (Heap.lt_size hob), hb⟩
      · cases h
    | _ => simp [itemsD] at h

theorem cs_step {n : Nat} (hB : Base mg mb base) (hE : ES prog w base Φ k n) : CS prog w base Φ k (n + 1) := by
  intro env ρ l op r c h
  simp only [cmpE] at h
  split at h
  · cases h
  · rename_i hm
    simp only [Bool.not_eq_true] at hm
    refine ⟨hm, fun OP O A s Q E C hQ => ?_⟩
    cases ht : typeArg? env.kindOf l with
    | none =>
      rw [ht] at h
      simp only [Option.bind_eq_some_iff] at h
      obtain ⟨a, ha, b, hb, h⟩ := h
      refine hE env ρ true l a ha OP O A s _ E C fun va s₁ g₁ r₁ => ?_
      refine hE env ρ true r b hb OP O A s₁ _ E (C.go g₁) fun vb s₂ g₂ r₂ => ?_
      exact cmp_sound C.at_ (RdT.ext g₂.ext r₁) r₂ h fun s' g' => hQ _ ((g₁.trans g₂).trans g')
    | some e =>
      rw [ht] at h
      dsimp only at h
      split at h
      · rename_i hbn
        simp only [Option.bind_eq_some_iff] at h
        obtain ⟨d, hd, h⟩ := h
        split at h
        · rename_i hib
          cases d with
          | bool b =>
            unfold typeArg? at ht
            split at ht
            · rename_i f np e' pos
              split at ht
              · rename_i hf
                cases ht
                obtain ⟨rfl, hk⟩ := isGlob_eq hf
                unfold isBoolName at hbn
                split at hbn
                · rename_i x xp
                  obtain ⟨rfl, hk2⟩ := isGlob_eq hbn
                  refine wpAny_Call_NameR (blt_sound hB C.en C.base hk (v := .type "type") (by decide +kernel) ?_)
                  have hds : mapO (evalE Φ n env.kindOf ρ true) [e] = some [PyData.bool b] := by simp [mapO, hd]
                  have hmf := mapO_mapF _ true _ _ hds
                  refine PyProof.Rows.callWith_type (args_plain _ _ _ hmf) (evalArgs_sound hE hmf C fun vs s₁ g₁ r₁ => ?_)
                  cases r₁ with
                  | cons x rr =>
                    cases rr
                    obtain rfl := RdT.bool_inv x
                    refine call_type_of (Tx := "bool") (s := s₁) rfl (by decide +kernel) ?_
                    refine blt_sound hB C.en (C.base.trans g₁.ext) hk2 (v := .type "bool") (by decide +kernel) ?_
                    cases op with
                    | Is => simp only [Option.some.injEq] at h; subst h; exact wpAny_is_plain rfl (hQ _ g₁)
                    | IsNot => simp only [Option.some.injEq] at h; subst h; exact wpAny_isNot_plain rfl (hQ _ g₁)
                    | _ => simp at h
                · cases hbn
              · cases ht
            · cases ht
          | _ => simp [isBoolD] at hib
        · cases h
      · cases h

theorem ts_step {n : Nat} (hE : ES prog w base Φ k n) (hT : TS prog w base Φ k n) (hC : CS prog w base Φ k n) : TS prog w base Φ k (n + 1) := by
  intro env ρ e c h OP O A s Q E C hQ
  have value : (evalE Φ n env.kindOf ρ true e).bind asBool = some c → isTrue e env (eval e env) = (do let v ← eval e env; standAt e.pos; holding [v] (truthy v)) → wpAny (model prog w) A (isTrue e env (eval e env)) Q E s := by
    intro h he
    simp only [Option.bind_eq_some_iff] at h
    obtain ⟨d, hd, h⟩ := h
    refine wpAny_isTrue_value (hE env ρ true e d hd OP O A s _ E C fun v s' g r => ?_) he
    cases d with
    | bool b =>
      simp only [asBool, Option.some.injEq] at h; subst h
      obtain rfl := RdT.bool_inv r
      exact wpAny_truthy_bool (hQ _ g)
    | _ => simp [asBool] at h
  have all : ∀ (op : BoolOp) (vs : List Expr) (c : Bool), allGo (testE Φ n env.kindOf ρ) op vs = some c → ∀ (s : Shared) (Q : Bool → Shared → Prop), Cx base k env ρ OP O A s → (∀ s', Go s s' → Q c s') → wpAny (model prog w) A (allTrue op vs env) Q E s := by
    intro op vs
    induction vs with
    | nil =>
      intro c h s Q C hQ
      simp only [allGo, Option.some.injEq] at h; subst h
      cases op
      · exact wpAny_allTrue_And_nil (hQ _ (Go.refl _))
      · exact wpAny_allTrue_Or_nil (hQ _ (Go.refl _))
    | cons e vs ih =>
      intro c h s Q C hQ
      simp only [allGo, Option.bind_eq_some_iff] at h
      obtain ⟨b, hb, h⟩ := h
      cases op with
      | And =>
        refine wpAny_allTrue_And_cons (hT env ρ e b hb OP O A s _ E C fun s₁ g₁ => ?_)
        cases b with
        | false => simp only [Option.some.injEq] at h; subst h; exact hQ _ g₁
        | true => exact ih c h s₁ Q (C.go g₁) fun s₂ g₂ => hQ _ (g₁.trans g₂)
      | Or =>
        refine wpAny_allTrue_Or_cons (hT env ρ e b hb OP O A s _ E C fun s₁ g₁ => ?_)
        cases b with
        | true => simp only [Option.some.injEq] at h; subst h; exact hQ _ g₁
        | false => exact ih c h s₁ Q (C.go g₁) fun s₂ g₂ => hQ _ (g₁.trans g₂)
  cases e with
  | UnaryOp op x pos =>
    cases op with
    | Not =>
      simp only [testE] at h
      cases hx : testE Φ n env.kindOf ρ x with
      | none => rw [hx] at h; cases h
      | some b =>
        rw [hx] at h; cases h
        exact wpAny_isTrue_Not (hT env ρ x b hx OP O A s _ E C fun s' g => hQ _ g)
    | _ => exact value (by simp only [testE] at h; exact h) rfl
  | BoolOp op vs pos =>
    simp only [testE] at h
    exact wpAny_isTrue_BoolOp (all op vs c h s Q C hQ)
  | IfExp => simp [testE] at h
  | Compare l ops rs pos =>
    simp only [testE] at h
    split at h
    · rename_i op r
      obtain ⟨hm, hc⟩ := hC env ρ l op r c h
      refine wpAny_isTrue_Compare1 ?_ hm
      exact hc OP O A s (fun c' s₃ => wpAny (model prog w) A (truthy c') Q E s₃) E C fun s' g => wpAny_truthy_bool (hQ _ g)
    · cases h
  | _ => exact value (by simp only [testE] at h; exact h) rfl
end
end Mine
set_option autoImplicit false
set_option linter.unusedSectionVars false
set_option linter.unusedVariables false
set_option linter.unusedSimpArgs false
namespace Mine
open PySem PySem.Spec PySem.Calls PyProof.Rows
variable [TB]
section
variable {prog : Program} {w : World} {mg mb : Str → Option Value} {base : Heap} {Φ : Fns} {k : Nat}

theorem all_range_elim {β : Type} (B : List β) (q : β → Bool) : (List.range B.length).all (fun j => (B[j]?).elim true q) = B.all q := by
  rw [Bool.eq_iff_iff, List.all_eq_true, List.all_eq_true]
  constructor
  · intro h b hb
    obtain ⟨j, hj, rfl⟩ := List.getElem_of_mem hb
    simpa [List.getElem?_eq_getElem hj] using h j (List.mem_range.mpr hj)
  · intro h j hj
    have hj' := List.mem_range.mp hj
    simp [List.getElem?_eq_getElem hj', h _ (List.getElem_mem hj')]
theorem all_sound {n : Nat} (hB : Base mg mb base) (hE : ES prog w base Φ k n) {env : Env} {ρ : Rho} {OP O : List Addr} {A : Around} {s : Shared} {Q E : Value → Shared → Prop} (C : Cx base k env ρ OP O A s)
    {x dn : Str} {px p1 p2 p3 np p cp icp : Pos} {icf : Expr} {ica : List Expr} {ick : List Keyword} {sc : Scope} {xs : List PyData} {l : List Int} {md : Md} {D : List (PyData × PyData)}
    (hka : env.kindOf (Str.ofString "all") = some .globalImplicit) (hsc : genSc sc env.kindOf x dn = true) (hr : evalE Φ n env.kindOf ρ true (.Call icf ica ick icp) = some (.list xs)) (hsz : xs.length ≤ sizeLine) (hi : intsOf xs = some l)
    (hd : ρ.lookup dn = some ⟨md, .dict D⟩) (hQ : ∀ s', Go s s' → Q (.bool (l.all fun i => (keyIn D i).isNone)) s') :
    wpAny (model prog w) A (eval (.Call (.Name (Str.ofString "all") np) [.GeneratorExp (.Compare (.Name x p1) [.NotIn] [.Name dn p2] p3) [⟨.Name x px, .Call icf ica ick icp, [], 0⟩] sc p] [] cp) env) Q E s := by
  unfold genSc at hsc
  simp only [Bool.and_eq_true, beq_iff_eq, Bool.not_eq_true', List.all_eq_true, bne_iff_ne, ne_eq, Bool.or_eq_true] at hsc
  obtain ⟨⟨⟨⟨⟨⟨⟨⟨hkind, hco⟩, hcell⟩, hfree⟩, h0⟩, hx⟩, hdn⟩, hdb⟩, hxdb⟩ := hsc
  have hclos := closure_sound (env := env) (sc := sc) fun q hq hf => Cx.en C |>.cells q.1 (((hfree q hq).resolve_left fun h => h hf).1)
  refine wpAny_Call_NameR (blt_sound hB C.en C.base hka (v := .builtin "all") (by decide +kernel) ?_)
  refine callWith_builtin1 (args_cons (wpAny_mono (Q := fun v s₁ => wpAny (model prog w) A (call (.builtin "all") [v]) Q E s₁) ?_ (fun v s₁ h => args_nil h) fun _ _ e => e) rfl) rfl rfl
  have hroom : A.depth < recursionLimit := by have := C.at_.depth; omega
  refine wpAny_GeneratorExp_walksQD C.at_.handled hco hclos hcell h0 hx hkind hroom ?_ (fun _ => rfl)
  refine hE env ρ true _ _ hr OP O A s _ E C fun xv s₁ g₁ r₁ => ?_
  obtain ⟨la, vs, rfl, hl, hvs⟩ := RdT.list_inv r₁
  have hlen : vs.size = xs.length := by have := hvs.length; simpa using this
  have hints := ints_of hvs hi
  refine wpAny_pyIter_list hl ?_
  generalize hs₂ : ({ s₁ with heap := s₁.heap.push { cls := .type "list_iterator", data := .fields #[.ref la, .int 0 0] } } : Shared) = s₂
  have g₂ : Go s s₂ := by rw [← hs₂]; exact g₁.trans (Go.heap _ (Ext.push _ _))
  have hIn : s.heap.get? s₁.heap.objs.size = none := g₁.ext.old (fresh_size (Nat.le_refl _))
  have hIt : s₂.heap.IsListIter s₁.heap.objs.size la 0 := by rw [← hs₂]; exact ⟨_, Heap.get?_push_size _ rfl, rfl, rfl⟩
  have hl₂ : s₂.heap.IsList la vs := by rw [← hs₂]; exact hl.at fun o e => Heap.get?_push_of_some _ e
  have hsz₂ : s₂.heap.objs.size = s₁.heap.objs.size + 1 := by rw [← hs₂]; exact Heap.size_push ..
  have hla : la < s₁.heap.objs.size := by obtain ⟨o, e, _⟩ := hl; exact Heap.lt_size e
  generalize hI : s₁.heap.objs.size = I at *
  have hx₂ : Ext base s₂.heap := C.base.trans g₂.ext
  have C₂ := C.go g₂
  refine ⟨hx₂.nolimit hB.nolimit, ?_⟩
  obtain ⟨c, hcode, hic, htab⟩ := C.code hka
  obtain ⟨ps, hP, htr⟩ : ∃ ps, s₂.heap.get? TB.P = some (tabO ps) ∧ TriplesOk ps.toList := by
    rcases hx₂.grow _ hB.tb0 with h | ⟨ps, more, e, h, t⟩
    · exact ⟨#[], h, trivial⟩
    · have : ps = #[] := by unfold tabO at e; injection e with _ _ e3; injection e3 with e4; exact e4.symm
      subst this
      exact ⟨_, h, t trivial⟩
  have htab₂ : s₂.heap.TableAt c TB.P ps := by
    obtain ⟨⟨o, vs', a, b, r⟩, _⟩ := htab
    exact ⟨⟨o, vs', hx₂.nt (.ty b) a, b, r⟩, hP⟩
  have hic₂ : s₂.heap.IsCode c TB.P ps := by
    obtain ⟨o, vs', file, tf, flags, tg, inF, text, tt, op, a, r1, r2, r3, r4, r5, r6, b, r7, r8, r9⟩ := hic
    exact ⟨o, vs', file, tf, flags, tg, inF, text, tt, _, hx₂.get c o (.inr r9) a, r1, r2, r3, r4, r5, r6, hP, rfl, htr, r9⟩
  have hPI : TB.P ≠ I := C.tb.new hIn
  have hPla : la ≠ TB.P := by obtain ⟨o, e, hc, _⟩ := hl₂; exact C₂.tb.ne e (.ty hc)
  have fin : ∀ (R : Value → Shared → Prop), (∀ a s₅, wpAny (model prog w) A (call (.builtin "all") [.ref a]) Q E s₅ → R (.ref a) s₅) → ∀ (code : Value) (h₃ : Heap) (tk : Nat), Heap.ExtBut TB.P s₂.heap h₃ → Tgrow s₂.heap h₃ → s₂.heap.objs.size ≤ h₃.objs.size →
      wpAny (model prog w) A (builtinsFor env.globals env.builtins) (fun bi s₄ =>
        ∃ I' fp wr n₀ P St₀ pz F, (Value.ref I) = .ref I' ∧ (∀ A' : Around, A'.handled = none → Walks prog w A' I' fp wr n₀ P St₀) ∧ St₀ 0 s₄.heap ∧ (∀ b ∈ fp, b < s₄.heap.objs.size) ∧ s₄.heap.NoLimit ∧ cStatics ∉ wr ∧
          (∀ href : Heap, (∀ b o, s₄.heap.get? b = some o → href.get? b = some o) →
            QuietGenD prog w (genEnv sc (clOf env sc.names []) s₄.heap.objs.size code bi env) x [] (.Compare (.Name x p1) [.NotIn] [.Name dn p2] p3) (List.range s₄.heap.objs.size) wr P pz F href (A.depth + 1) (A.units + 8)) ∧
          (∀ a h₅ tk gs, gs.bare = true → s₄.heap.objs.size < a → h₅.objs.size = a + 1 → (∀ b o, s₄.heap.get? b = some o → h₅.get? b = some o) →
            WalksS prog w A.in4 a (a :: s₄.heap.objs.size :: List.range s₄.heap.objs.size) (s₄.heap.objs.size :: wr) (GenOnlyQ s₄.gens.size) (passing pz n₀ 0).length
              (fun j y => ∃ i, (passing pz n₀ 0)[j]? = some i ∧ F i y) (GenAt prog w A.in4 a s₄.gens.size s₄.heap.objs.size (List.range s₄.heap.objs.size) wr pz n₀ F) →
            GenAt prog w A.in4 a s₄.gens.size s₄.heap.objs.size (List.range s₄.heap.objs.size) wr pz n₀ F 0 { s₄ with gens := s₄.gens.push gs, toks := tk, heap := h₅ } →
            R (.ref a) { s₄ with gens := s₄.gens.push gs, toks := tk, heap := h₅ })) E { s₂ with heap := h₃, toks := tk } := by
    intro R hR code h₃ tk hx₃ hgr hsz₃
    have hxx : Ext s₂.heap h₃ := ⟨fun b o n e => by
      refine hx₃ b o ?_ e
      rcases n with n | n
      · exact C₂.tb.ne e n
      · exact n, hgr⟩
    have hxb : Ext base h₃ := hx₂.trans hxx
    obtain ⟨bm, ob, M⟩ := hB.bm
    have hns : h₃.Ns env.globals mg := by rw [C.en.g]; exact hxb.ns M.ns
    refine wpAny_builtinsFor hns M.name M.ne (hxb.nt (.ty M.cls) M.obj) M.cls M.dict M.data ?_
    have hIt₃ : h₃.IsListIter I la 0 := by obtain ⟨o, e, r⟩ := hIt; exact ⟨o, hx₃ _ o hPI.symm e, r⟩
    have hl₃ : h₃.IsList la vs := hxx.list hl₂
    have hne : la ≠ I := Nat.ne_of_lt hla
    have hcI : cStatics ≠ I := by
      obtain ⟨mc, hn, _⟩ := hB.nolimit
      obtain ⟨o, _, _, e, _⟩ := hn
      obtain ⟨o', e'⟩ := C.base.there e
      rintro h; rw [h, hIn] at e'; cases e'
    refine ⟨I, [I, la], [I], vs.size, _, _, fun _ => true, fun i y => ∃ kk : Int, l[i]? = some kk ∧ y = .bool (keyIn D kk).isNone, rfl, fun A' hA' => Walks.list hA' I la hne vs, ⟨hIt₃, hl₃⟩, ?_, hxb.nolimit hB.nolimit, by simpa using hcI, ?_, ?_⟩
    · intro b hb
      show b < h₃.objs.size
      simp only [List.mem_cons, List.not_mem_nil, or_false] at hb
      rcases hb with rfl | rfl
      · exact Nat.lt_of_lt_of_le (by rw [hsz₂]; exact Nat.lt_succ_self _) hsz₃
      · exact Nat.lt_of_lt_of_le (by rw [hsz₂]; exact Nat.lt_succ_of_lt hla) hsz₃
    · intro href hhref
      have hIlt : I < h₃.objs.size := Nat.lt_of_lt_of_le (by rw [hsz₂]; exact Nat.lt_succ_self _) hsz₃
      constructor
      · intro A' E' i v u m₂ _ _ _ _ _ _ _
        rw [List.forIn_nil]
        exact wpAny_pure ⟨rfl, u.heap, u.toks, rfl, fun _ _ e => e⟩
      · intro A' E' i v u m₂ hA' _ _ hPv _ hns' hmx hkp
        have hkp' : ∀ b o, NT o ∨ b ≠ TB.P → b ≠ I → s₂.heap.get? b = some o → u.heap.get? b = some o := fun b o n hb e => by
          have e3 := hxx.get b o n e
          exact hkp b (List.mem_range.mpr (Heap.lt_size e3)) (by simpa using hb) o (hhref b o e3)
        have hvi : vs.toList[i]? = some v := by simpa using hPv
        obtain ⟨kk, hkk, tkk, rfl⟩ : ∃ kk, l[i]? = some kk ∧ ∃ t, v = .int kk t := by
          have hlt : i < l.length := by rw [← hints.length]; exact (List.getElem?_eq_some_iff.mp hvi).1
          obtain ⟨t, ht⟩ := hints.get i l[i] (List.getElem?_eq_getElem hlt)
          rw [hvi] at ht
          exact ⟨l[i], List.getElem?_eq_getElem hlt, t, Option.some.inj ht⟩
        obtain ⟨u₂, hu1, hu2⟩ := C₂.vars dn _ hd
        have hmem := mem_of_lookup hdn
        have hfd := (hfree _ hmem).resolve_left fun h => h rfl
        obtain ⟨c', hc1, hc2⟩ : ∃ c', env.cells.lookup dn = some c' ∧ s₂.heap.IsCell c' (some u₂) := by
          rcases hu1 with ⟨a, _⟩ | ⟨a, c', b', d'⟩ | ⟨a, q, c', b', d'⟩
          · rcases hfd.1 with e | e <;> rw [a] at e <;> cases e
          · exact ⟨c', b', d'⟩
          · exact ⟨c', b', d'⟩
        have hcellU : u.heap.IsCell c' (some u₂) := by
          obtain ⟨o, e, hdat⟩ := hc2
          refine ⟨o, hkp' c' o (.inl (.cell hdat)) ?_ e, hdat⟩
          rintro rfl
          obtain ⟨o2, e2, _, hd2⟩ := hIt
          rw [e2] at e; cases e; rw [hd2] at hdat; cases hdat
        obtain ⟨ad, kvs, ys, rfl, hdi, hrd, rfl⟩ := hu2.top.dict_inv
        have hadI : ad ≠ I := by
          rintro rfl
          obtain ⟨o, _, _, e, hp, _⟩ := hdi.2 prog w
          obtain ⟨o2, e2, hc2', _⟩ := hIt
          rw [e2] at e; cases e
          rw [hp.1] at hc2'; exact absurd hc2' (by decide)
        have hdU : DictI u.heap ad kvs := hdi.at' fun o n e => hkp' ad o (.inl n) hadI e
        have hkc : (genEnv sc (clOf env sc.names []) h₃.objs.size code builtinsNs env).kindOf = fun y => sc.names.lookup y := rfl
        refine wpAny_Compare1 (wpAny_Name (wpAny_loadName_local hkind hx hns' hmx ?_) hxdb) rfl
        refine wpAny_Name (wpAny_loadName_free hkind hdn (clOf_lookup hc1 _ _ (.inl hmem)) hcellU ?_ hfd.2) hdb
        have q := (keyIn_zip kk kvs ys (by simpa using hrd.length) hrd).1
        refine wpAny_notIn_of (knd := intKind prog w) (intKind_is prog w kk tkk) hdU.1 (hdU.2 prog w).mapOf ?_
        refine ⟨⟨kk, hkk, ?_⟩, u.heap, _, rfl, fun _ _ e => e⟩
        rw [← q]
        cases keyIn ((kvs.map fun p => PyData.int p.1).zip ys) kk <;> rfl
    · intro a h₅ tk₅ gs hgb hag hsz₅ hk₅ W hat
      refine hR a _ ?_
      have W1 := W.in4_1
      have hpa : passing (fun _ => true) vs.size 0 = List.range vs.size := by
        unfold passing
        rw [List.drop_zero]
        exact List.filter_eq_self.mpr fun _ _ => rfl
      have hpl : (passing (fun _ => true) vs.size 0).length = vs.size := by rw [hpa, List.length_range]
      have hpg : ∀ j : Nat, (passing (fun _ => true) vs.size 0)[j]? = if j < vs.size then some j else none := by
        intro j
        rw [hpa]
        by_cases h : j < vs.size
        · rw [if_pos h, List.getElem?_range h]
        · rw [if_neg h, List.getElem?_eq_none (by simpa using h)]
      refine call_all_walkS (W1.self 0 _ _ _ hat ⟨a, _, _, _, _, _, _, (fun j => (l[j]?).elim true fun kk => (keyIn D kk).isNone), rfl, W1, hat, ?_, fun s' hm => ?_⟩)
      · intro j v s' Q' E' hv hQ'
        obtain ⟨i, hij, kk, hk, rfl⟩ := hv
        rw [hpg] at hij
        split at hij
        · cases hij
          simp only [hk, Option.elim_some] at hQ'
          exact wpAny_truthy_bool hQ'
        · cases hij
      · rw [hpl]
        have hlv : vs.size = l.length := by rw [← hints.length]; simp
        rw [hlv, all_range_elim l (fun kk => (keyIn D kk).isNone)]
        refine hQ s' ⟨?_, ?_, ?_⟩
        · have e1 : Ext s.heap h₃ := g₂.ext.trans hxx
          have e2 : Ext s.heap h₅ := e1.trans (.of hk₅)
          refine e2.thenB (W := [h₃.objs.size, I]) (.of (fun b o hb e => hm.heap b o hb e) ?_) ?_
          · have hlt : TB.P < h₃.objs.size := Nat.lt_of_lt_of_le (Heap.lt_size hP) hsz₃
            simp only [List.mem_cons, List.not_mem_nil, or_false, not_or]
            exact ⟨Nat.ne_of_lt hlt, hPI⟩
          · intro b hb
            simp only [List.mem_cons, List.not_mem_nil, or_false] at hb
            rcases hb with rfl | rfl
            · exact e1.old (fresh_size (Nat.le_refl _))
            · exact hIn
        · rw [hm.os]; exact g₂.os
        · intro hb
          exact AllBare.movedS (AllBare.push (g₂.gens hb) hgb) hm
  cases hca : codeAmong p ps.toList with
  | some c' => exact wpAny_genexprCode_hit hcode hic₂ hca (fin (fun v s₅ => wpAny (model prog w) A (call (.builtin "all") [v]) Q E s₅) (fun a s₅ h => h) c' s₂.heap s₂.toks (fun _ _ _ e => e) (Ext.refl _).grow (Nat.le_refl _))
  | none =>
    refine wpAny_genexprCodeX hcode hic₂ htab₂ hca fun c' h₃ tk₃ hx₃ hge hlt hcode₃ _ htab₃ _ => ?_
    exact fin (fun v s₅ => wpAny (model prog w) A (call (.builtin "all") [v]) Q E s₅) (fun a s₅ h => h) (.ref c') h₃ tk₃ hx₃ (fun o e => by
      rw [hP] at e; cases e
      exact .inr ⟨ps, _, rfl, htab₃.2, fun h => by simpa using TriplesOk_snoc _ _ _ _ h⟩) (Nat.le_trans hge (Nat.le_of_lt hlt))
end
end Mine
set_option autoImplicit false
set_option linter.unusedSectionVars false
set_option linter.unusedVariables false
set_option linter.unusedSimpArgs false
namespace Mine
open PySem PySem.Spec PySem.Calls PyProof.Rows
variable [TB]

section
variable {prog : Program} {w : World} {mg mb : Str → Option Value} {base : Heap} {Φ : Fns} {k : Nat}

theorem biOf_none_of_tab {f : Str} {b : Bi} (h : biOf f = some b) : ∃ v, biTab.lookup f = some v := by
  unfold biOf at h
  simp only [List.lookup_cons, List.lookup_nil] at h
  unfold biTab
  simp only [List.lookup_cons, List.lookup_nil]
  repeat' split at h
  all_goals first
    | exact ⟨_, rfl⟩
    | cases h

theorem seq_new {s : Shared} {OP : List Addr} (ex : ∀ a ∈ OP, ∃ o, s.heap.get? a = some o) : s.heap.objs.size ∉ OP := fun hm => by
  obtain ⟨o, ho⟩ := ex _ hm; exact Nat.lt_irrefl _ (Heap.lt_size ho)

set_option maxHeartbeats 1000000 in
theorem es_step {n : Nat} (hB : Base mg mb base) (hF : FnsOk prog w mg base Φ k) (hE : ES prog w base Φ k n) (hT : TS prog w base Φ k n) (hC : CS prog w base Φ k n) (hP : PS prog w base Φ k n) (hI : IS prog w base Φ k n) : ES prog w base Φ k (n + 1) := by
  intro env ρ rd e d h OP O A s Q E C hQ
  cases e with
  | Constant c kk pos =>
    simp only [evalE] at h
    cases c with
    | none => simp only [constD, Option.some.injEq] at h; subst h; exact wpAny_Constant_none (hQ _ _ (Go.refl _) (.of .none))
    | bool b => simp only [constD, Option.some.injEq] at h; subst h; exact wpAny_Constant_bool (hQ _ _ (Go.refl _) (.of (.bool _)))
    | int i => simp only [constD, Option.some.injEq] at h; subst h; exact wpAny_Constant_int (hQ _ _ (Go.toks _ _) (.of (.int _ _)))
    | str x =>
      simp only [constD] at h
      split at h
      · rename_i hx; cases h; exact wpAny_Constant_str (hQ _ _ (Go.toks _ _) (.of (.str _ _ hx)))
      · cases h
    | _ => simp [constD] at h
  | Name x pos =>
    simp only [evalE, nameD, Option.bind_eq_some_iff] at h
    obtain ⟨b, hb, h⟩ := h
    split at h
    · rename_i hc
      cases h
      simp only [Bool.and_eq_true, Bool.or_eq_true, Bool.not_eq_true', beq_iff_eq] at hc
      obtain ⟨v, hv, hbo⟩ := C.vars x b hb
      refine wpAny_Name (load_sound C.en hv (hQ _ _ (Go.refl _) ?_)) hc.2
      cases rd with
      | true => exact hbo.top
      | false =>
        have hm : b.m = .val := by rcases hc.1 with h | h; cases h; exact h
        unfold BOk at hbo
        rw [hm] at hbo; exact hbo
    · cases h
  | Tuple es kk pos =>
    simp only [evalE, Option.bind_eq_some_iff] at h
    obtain ⟨ds, hds, h⟩ := h
    split at h
    · rename_i hsz
      cases h
      refine wpAny_Tuple (args_sound hE es _ ds (mapO_mapF _ false _ _ hds) s _ C fun vs s₁ g₁ r₁ => ?_)
      have r2 := r₁.all
      have hl := r2.length
      refine ⟨by omega, hQ _ _ (g₁.trans (Go.heap _ (Ext.push _ _))) (.of (.tuple (vs := vs.toArray) (seq_new (C.go g₁).ex) ⟨_, Heap.get?_push_size _ rfl, rfl, _, rfl⟩ (by simpa using r2.ext (Ext.push _ _))))⟩
    · cases h
  | List es pos =>
    simp only [evalE, Option.bind_eq_some_iff] at h
    obtain ⟨ds, hds, h⟩ := h
    split at h
    · rename_i hsz
      cases h
      refine wpAny_List (args_sound hE es _ ds (mapO_mapF _ false _ _ hds) s _ C fun vs s₁ g₁ r₁ => ?_)
      have r2 := r₁.all
      have hl := r2.length
      refine ⟨by omega, hQ _ _ (g₁.trans (Go.heap _ (Ext.push _ _))) (.of (.list (vs := vs.toArray) (seq_new (C.go g₁).ex) ⟨_, Heap.get?_push_size _ rfl, rfl, _, rfl⟩ (by simpa using r2.ext (Ext.push _ _))))⟩
    · cases h
  | Dict ks vs pos =>
    simp only [evalE] at h
    split at h
    · cases h
      refine wpAny_Dict_empty (hQ _ _ (Go.heap _ (Ext.push _ _)) (.of (.dict (kvs := []) (xs := []) (seq_new C.ex) ⟨?_, fun prog w => ⟨_, _, _, Heap.get?_push_size _ rfl, ⟨rfl, rfl, rfl⟩, rfl, fun e he => by simp at he, by constructor, by simp⟩⟩ .nil rfl)))
      refine beq_eq_false_iff_ne.mpr (Nat.ne_of_gt ?_)
      obtain ⟨o, es, ep, ho, _⟩ := C.base.ns hB.g
      exact Nat.lt_trans (by decide) (Heap.lt_size ho)
    · cases h
  | BinOp l op r pos =>
    simp only [evalE, Option.bind_eq_some_iff] at h
    obtain ⟨a, ha, b, hb, h⟩ := h
    refine wpAny_BinOp (hE env ρ true l a ha OP O A s _ E C fun va s₁ g₁ r₁ => hE env ρ true r b hb OP O A s₁ _ E (C.go g₁) fun vb s₂ g₂ r₂ => ?_)
    exact bin_sound C.at_ (RdT.ext g₂.ext r₁) r₂ ((C.go g₁).go g₂).ex h fun v s' g' r' => hQ _ _ ((g₁.trans g₂).trans g') (.of r')
  | UnaryOp op x pos =>
    simp only [evalE, Option.bind_eq_some_iff] at h
    obtain ⟨a, ha, h⟩ := h
    exact wpAny_UnaryOp (hE env ρ true x a ha OP O A s _ E C fun va s₁ g₁ r₁ => un_sound r₁ h fun v s' g' r' => hQ _ _ (g₁.trans g') (.of r'))
  | Compare l ops rs pos =>
    simp only [evalE] at h
    split at h
    · rename_i op r
      simp only [Option.map_eq_some_iff] at h
      obtain ⟨c, hc, rfl⟩ := h
      obtain ⟨hm, hcs⟩ := hC env ρ l op r c hc
      exact wpAny_Compare1 (hcs OP O A s Q E C fun s' g => hQ _ _ g (.of (.bool _))) hm
    · cases h
  | BoolOp op vs pos =>
    simp only [evalE] at h
    have all : ∀ (vs : List Expr) (d : PyData), boolGo (evalE Φ n env.kindOf ρ rd) op vs = some d → ∀ (s : Shared), Cx base k env ρ OP O A s → ∀ Q : Value → Shared → Prop, (∀ v s', Go s s' → RdX rd s'.heap OP v d → Q v s') → wpAny (model prog w) A (boolOp pos op (evalEach vs env)) Q E s := by
      intro vs
      induction vs with
      | nil => intro d h; simp [boolGo] at h
      | cons x rest ih =>
        intro d h s C Q hQ
        cases rest with
        | nil =>
          simp only [boolGo] at h
          exact hE env ρ rd x d h OP O A s Q E C hQ
        | cons y rest =>
          simp only [boolGo, Option.bind_eq_some_iff] at h
          obtain ⟨a, ha, h⟩ := h
          show wpAny _ _ (do
            let v ← eval x env
            standAt pos
            let t ← holding [v] (truthy v)
            match op, t with
            | .And, false | .Or, true => pure v
            | _, _ => boolOp pos op (evalEach (y :: rest) env)) Q E s
          refine wpAny_bind (hE env ρ rd x a ha OP O A s _ E C fun v s₁ g₁ r₁ => wpAny_bind (wpAny_standAt (wpAny_bind (wpAny_holding ?_))))
          cases a with
          | bool b =>
            obtain rfl := RdT.bool_inv r₁.top
            refine wpAny_truthy_bool ?_
            cases op with
            | And =>
              cases b with
              | false => simp only [Option.some.injEq] at h; subst h; exact wpAny_pure (hQ _ _ g₁ r₁)
              | true => exact ih d h s₁ (C.go g₁) Q fun v s' g r => hQ _ _ (g₁.trans g) r
            | Or =>
              cases b with
              | true => simp only [Option.some.injEq] at h; subst h; exact wpAny_pure (hQ _ _ g₁ r₁)
              | false => exact ih d h s₁ (C.go g₁) Q fun v s' g r => hQ _ _ (g₁.trans g) r
          | _ => simp at h
    show wpAny _ _ (boolOp pos op (evalEach vs env)) Q E s
    exact all vs d h s C Q hQ
  | Subscript v i pos =>
    simp only [evalE, Option.bind_eq_some_iff] at h
    obtain ⟨a, ha, h⟩ := h
    have plain : (evalE Φ n env.kindOf ρ true i).bind (fun k => idxD a k) = some d → (∀ o j, subscripted i false o j = operate [o, j] (getItem o j)) → wpAny (model prog w) A (eval (.Subscript v i pos) env) Q E s := by
      intro h hs
      simp only [Option.bind_eq_some_iff] at h
      obtain ⟨b, hb, h⟩ := h
      refine Subscript_ (hE env ρ true v a ha OP O A s _ E C fun va s₁ g₁ r₁ => hE env ρ true i b hb OP O A s₁ _ E (C.go g₁) fun vb s₂ g₂ r₂ => ?_)
      exact idx_sound (RdT.ext g₂.ext r₁) r₂ h hs fun v s' g' r' => hQ _ _ ((g₁.trans g₂).trans g') (.of r')
    cases i with
    | Slice lo hi st sp =>
      dsimp only at h
      cases a with
      | list xs =>
        simp only [Option.bind_eq_some_iff] at h
        obtain ⟨l, hl, u, hu, q, hq, h⟩ := h
        split at h
        · rename_i hc
          cases h
          refine Subscript_ (hE env ρ true v _ ha OP O A s _ E C fun va s₁ g₁ r₁ => ?_)
          refine wpAny_Slice (hP env ρ lo l hl OP O A s₁ _ E (C.go g₁) fun vl s₂ g₂ p₂ => ?_)
          refine hP env ρ hi u hu OP O A s₂ _ E ((C.go g₁).go g₂) fun vu s₃ g₃ p₃ => ?_
          refine hP env ρ st q hq OP O A s₃ _ E (((C.go g₁).go g₂).go g₃) fun vt s₄ g₄ p₄ => ?_
          obtain ⟨ax, ws, rfl, hlx, hws⟩ := RdT.list_inv (RdT.ext (((g₂.trans g₃).trans g₄).ext.trans (Ext.push s₄.heap { cls := .type "slice", data := .fields #[vl, vu, vt] })) r₁)
          have hlen : ws.size = xs.length := by have := hws.length; simpa using this
          have gx : Go s { s₄ with heap := s₄.heap.push { cls := .type "slice", data := .fields #[vl, vu, vt] } } := (((g₁.trans g₂).trans g₃).trans g₄).trans (Go.heap _ (Ext.push _ _))
          have fin : ∀ ops, subscripted (.Slice lo hi st sp) false (.ref ax) (.ref s₄.heap.objs.size) = operate ops (getItem (.ref ax) (.ref s₄.heap.objs.size)) → wpAny (model prog w) A (subscriptTail v (.Slice lo hi st sp) (.ref ax) (.ref s₄.heap.objs.size)) Q E { s₄ with heap := s₄.heap.push { cls := .type "slice", data := .fields #[vl, vu, vt] } } := by
            intro ops hs
            refine tail_any hlx.typeIs slot_list_getitem.lookup (wpAny_getItem_list_slice hlx (Heap.IsSliceOf.new _ _ _ _) p₂ p₃ p₄ hc.1 ?_ (by rw [hlen]; exact hc.2)) hs
            refine hQ _ _ (gx.trans (Go.heap _ (Ext.push _ _))) (.of (.list (vs := slicePick ws l u q) (seq_new (C.go gx).ex) ⟨_, Heap.get?_push_size _ rfl, rfl, _, rfl⟩ ?_))
            have e1 : (slicePick ws l u q).toList = (sliceRange (sliceBounds l u q xs.length).1 (sliceBounds l u q xs.length).2.1 (sliceBounds l u q xs.length).2.2).filterMap fun j => ws.toList[j]? := by
              unfold slicePick; rw [hlen]; simp
            rw [e1]
            exact (hws.ext (Ext.push _ _)).pick _
          cases st with
          | none => exact fin _ rfl
          | some st => exact fin _ rfl
        · cases h
      | _ => simp at h
    | _ => exact plain (by simpa only using h) (fun _ _ => rfl)
  | Call f args kws pos =>
    simp only [evalE] at h
    split at h
    · rename_i g np
      split at h
      · rename_i hall
        simp only [Bool.and_eq_true, beq_iff_eq] at hall
        obtain ⟨rfl, hka⟩ := hall
        split at h
        · rename_i elt gens sc gp
          split at h
          · rename_i tgt iter ifs asy
            split at h
            · rename_i x px cf ca ck cp v p1 dn p2 p3
              split at h
              · rename_i hc
                simp only [Bool.and_eq_true, beq_iff_eq] at hc
                obtain ⟨⟨rfl, rfl⟩, hsc⟩ := hc
                simp only [Option.bind_eq_some_iff] at h
                obtain ⟨r, hr, h⟩ := h
                unfold allD at h
                split at h
                · rename_i xs md D hdl
                  split at h
                  · rename_i hsz
                    simp only [Option.bind_eq_some_iff] at h
                    obtain ⟨l, hl, h⟩ := h
                    cases h
                    exact all_sound hB hE C hka hsc hr hsz hl hdl fun s' g => hQ _ _ g (.of (.bool _))
                  · cases h
                · cases h
              · cases h
            · cases h
          · cases h
        · cases h
      split at h
      · rename_i hgk
        simp only [Bool.and_eq_true, beq_iff_eq, Bool.not_eq_true'] at hgk
        obtain ⟨hk, hdb⟩ := hgk
        split at h
        · rename_i hbi
          split at h
          · rename_i e t
            split at h
            · rename_i hbn
              simp only [Option.bind_eq_some_iff] at h
              obtain ⟨a, ha, h⟩ := h
              split at h
              · rename_i hib
                cases h
                obtain ⟨fv, hfv⟩ := biOf_none_of_tab hbi
                have hg : g = Str.ofString "isinstance" := by
                  unfold biOf at hbi
                  simp only [List.lookup_cons, List.lookup_nil] at hbi
                  repeat' split at hbi
                  all_goals (first | exact eq_of_beq (by assumption) | cases hbi)
                subst hg
                refine wpAny_Call_NameR (blt_sound hB C.en C.base hk (v := .builtin "isinstance") (by decide +kernel) ?_)
                cases a with
                | bool b =>
                  unfold isBoolName at hbn
                  split at hbn
                  · rename_i x xp
                    obtain ⟨rfl, hk2⟩ := isGlob_eq hbn
                    have hst : starEach [e, .Name (Str.ofString "bool") xp] env = (false, eval e env) :: starEach [.Name (Str.ofString "bool") xp] env := not_star ha _ _
                    refine callWith_builtin1 (args_cons (hE env ρ true e _ ha OP O A s _ E C fun v s₁ g₁ r₁ => ?_) hst) hst rfl
                    obtain rfl := RdT.bool_inv r₁
                    refine args_cons (blt_sound hB C.en (C.base.trans g₁.ext) hk2 (v := .type "bool") (by decide +kernel) ?_) rfl
                    refine args_nil ?_
                    exact call_isinstance_yes (Tx := "bool") (T := "bool") (s := s₁) rfl (by kernel_rfl) (by rw [isSubtype_type]; kernel_rfl) (hQ _ _ g₁ (.of (.bool _)))
                  · cases hbn
                | _ => simp [isBoolD] at hib
              · cases h
            · cases h
          · cases h
        · rename_i b hne hbi
          simp only [Option.bind_eq_some_iff] at h
          obtain ⟨ds, hds, h⟩ := h
          have hm := mapO_mapF _ true _ _ hds
          obtain ⟨fv, hfv⟩ := biOf_none_of_tab hbi
          refine wpAny_Call_NameR (blt_sound hB C.en C.base hk hfv ?_)
          have key : ∀ vs s₁, Go s s₁ → RdXs s₁.heap OP (List.replicate ds.length true) vs ds → wpAny (model prog w) A (call fv vs) Q E s₁ := by
            intro vs s₁ g₁ r₁
            obtain ⟨fv', x, hx1, hx2, hw⟩ := bi_sound (prog := prog) (w := w) (E := E) (k := k) C.at_ (by intro e; exact hne e) r₁ (C.go g₁).ex h fun v s' g' r' => hQ v s' (g₁.trans g') (.of r')
            have := hx2 g hbi
            subst this
            rw [hfv] at hx1; cases hx1
            exact hw
          cases fv with
          | builtin id => exact callWith_builtin (args_plain _ _ _ hm) (evalArgs_sound hE hm C key)
          | type T => exact PyProof.Rows.callWith_type (args_plain _ _ _ hm) (evalArgs_sound hE hm C key)
          | _ =>
            exfalso
            unfold biTab at hfv
            simp only [List.lookup_cons, List.lookup_nil] at hfv
            repeat' split at hfv
            all_goals cases hfv
        · split at h
          · rename_i fl F hΦ
            simp only [Option.bind_eq_some_iff] at h
            obtain ⟨ds, hds, h⟩ := h
            obtain ⟨a, o, fd, hmg, hoa, hod, hcall⟩ := hF _ _ _ hΦ
            refine wpAny_Call_NameR (glob_sound hB C.en C.base hk hdb hmg ?_)
            refine callWith_function (o := o) (fd := fd) (evalArgs_sound hE hds C fun vs s₁ g₁ r₁ => ⟨⟨(C.base.trans g₁.ext).nt (.func hod) hoa, hod⟩, ?_⟩)
            exact hcall A s₁ vs ds d OP Q E C.at_ (C.base.trans g₁.ext) (C.go g₁).ex r₁ h fun v s' g' r' => hQ _ _ (g₁.trans g') (.of r')
          · cases h
      · cases h
    · cases h
  | ListComp elt gens sc pos =>
    simp only [evalE] at h
    split at h
    · rename_i tgt iter ifs asy
      split at h
      · rename_i hc
        simp only [Bool.and_eq_true, beq_iff_eq] at hc
        obtain ⟨⟨rfl, hcs⟩, htg⟩ := hc
        simp only [Option.bind_eq_some_iff, Option.map_eq_some_iff] at h
        obtain ⟨xs, hxs, ys, hys, rfl⟩ := h
        rw [eval_ListComp]
        refine comp_sound (use := none) hE hT hI hcs htg hxs hys C fun D Cc s' g hD hCc hDC hr _ hn => ?_
        obtain ⟨m, hn⟩ := hn
        refine ⟨m, hn, fun h' hsb => hQ _ _ ⟨g.ext.same hsb hCc (C.tb.new hCc), g.os, g.gens⟩ (.of ?_)⟩
        refine hr.mono fun a o _ ha ho => ?_
        simp only [List.mem_cons, not_or] at ha
        exact ⟨ha.2, hsb.extBut a o ha.1 ho⟩
      · cases h
    · cases h
  | _ => simp [evalE] at h

theorem sound_all (hB : Base mg mb base) (hF : FnsOk prog w mg base Φ k) : ∀ n, ES prog w base Φ k n ∧ TS prog w base Φ k n ∧ CS prog w base Φ k n ∧ PS prog w base Φ k n ∧ IS prog w base Φ k n
  | 0 => ⟨fun _ _ _ _ _ h => by simp [evalE] at h, fun _ _ _ _ h => by simp [testE] at h, fun _ _ _ _ _ _ h => by simp [cmpE] at h, fun _ _ _ _ h => by simp [partE] at h, fun _ _ _ _ _ h => by simp [itemsE] at h⟩
  | n + 1 => by
    obtain ⟨hE, hT, hC, hP, hI⟩ := sound_all hB hF n
    exact ⟨es_step hB hF hE hT hC hP hI, ts_step hE hT hC, cs_step hB hE, ps_step hE, is_step hB hE⟩
end
end Mine
set_option autoImplicit false
set_option linter.unusedSectionVars false
set_option linter.unusedVariables false
set_option linter.unusedSimpArgs false
namespace Mine
open PySem PySem.Spec PySem.Calls PyProof.Rows
variable [TB]

structure Sx (base : Heap) (k : Nat) (env : Env) (X O P G : List Addr) (val : Str → Value) (ρ : Rho) (A : Around) (s : Shared) : Prop where
  en : EnvOk env
  at_ : At A k
  bas : Ext base s.heap
  tb : Tb base
  code : CodeOk base env
  hL : env.locals ∈ X
  hC : ∀ x c, env.cells.lookup x = some c → c ∈ X
  ex : ∀ a ∈ X ++ O ++ P, ∃ o, s.heap.get? a = some o
  loc : ∃ m, s.heap.Ns env.locals m
  cell : ∀ x c, env.cells.lookup x = some c → (∃ v, s.heap.IsCell c v) ∧ c ≠ env.locals
  inj : ∀ x y c, env.cells.lookup x = some c → env.cells.lookup y = some c → x = y
  fresh : ∀ a ∈ X ++ O, base.get? a = none
  disj : ∀ a ∈ X ++ O, a ∉ P
  disjO : ∀ a ∈ O, a ∉ X
  vars : ∀ x b, ρ.lookup x = some b → Var s.heap env x (val x) ∧ BOk s.heap (X ++ O ++ P) O b (val x)
  brw : ∀ x b, ρ.lookup x = some b → b.m = .brw → ∀ a, val x = .ref a → a ∉ X ++ O ++ G
  sep : ∀ x y bx b', x ≠ y → ρ.lookup x = some bx → bx.m = .own → ρ.lookup y = some b' → b'.m = .own → val x ≠ val y

structure Chg (W : List Addr) (s s' : Shared) : Prop where
  keep : ∀ b o, NT o ∨ b ≠ TB.P → b ∉ W → s.heap.get? b = some o → s'.heap.get? b = some o
  grow : Tgrow s.heap s'.heap
  os : s'.os = s.os
  gens : AllBare s.gens → AllBare s'.gens
theorem Chg.there {W : List Addr} {s s' : Shared} (c : Chg W s s') {b : Addr} {o : Obj} (hb : b ∉ W) (e : s.heap.get? b = some o) : ∃ o', s'.heap.get? b = some o' := by
  by_cases hP : b = TB.P
  · subst hP
    rcases c.grow o e with h | ⟨_, _, _, h, _⟩ <;> exact ⟨_, h⟩
  · exact ⟨o, c.keep b o (.inr hP) hb e⟩
theorem Chg.old {W : List Addr} {s s' : Shared} (c : Chg W s s') {b : Addr} (hb : b ∉ W) (e : s'.heap.get? b = none) : s.heap.get? b = none := by
  cases h : s.heap.get? b with
  | none => rfl
  | some o => obtain ⟨o', h2⟩ := c.there hb h; rw [e] at h2; cases h2
theorem Chg.refl (W : List Addr) (s : Shared) : Chg W s s := ⟨fun _ _ _ _ e => e, (Ext.refl _).grow, rfl, fun h => h⟩
theorem Chg.of_go {W : List Addr} {s s' : Shared} (g : Go s s') : Chg W s s' := ⟨fun b o n _ e => g.ext.get b o n e, g.ext.grow, g.os, g.gens⟩
theorem Chg.trans {W W' : List Addr} {s s' s'' : Shared} (x : Chg W s s') (y : Chg W' s' s'') (h : ∀ a ∈ W', a ∈ W ∨ s.heap.get? a = none) : Chg W s s'' :=
  ⟨fun b o n hb e => y.keep b o n (fun hm => by rcases h b hm with h | h; exact hb h; rw [h] at e; cases e) (x.keep b o n hb e), x.grow.trans y.grow, y.os.trans x.os, fun h => y.gens (x.gens h)⟩

theorem Chg.same {W : List Addr} {s s₁ : Shared} {C : Addr} {h' : Heap} (c : Chg W s s₁) (hs : Heap.SameBut C s₁.heap h') (hC : s.heap.get? C = none) (hP : TB.P ≠ C) : Chg W s { s₁ with heap := h' } :=
  ⟨fun b o n hb e => hs.extBut b o (by rintro rfl; rw [hC] at e; cases e) (c.keep b o n hb e), c.grow.trans fun o e => .inl (hs.extBut _ o hP e), c.os, c.gens⟩

section
variable {base : Heap} {k : Nat} {env : Env} {X O P G : List Addr} {val : Str → Value} {ρ : Rho} {A : Around} {s s' : Shared}
theorem Sx.cx (S : Sx base k env X O P G val ρ A s) : Cx base k env ρ (X ++ O ++ P) O A s := ⟨S.en, S.at_, S.code, S.bas, S.bas.grow.tb S.tb, S.ex, fun x b h => ⟨_, S.vars x b h⟩⟩
theorem Sx.go (S : Sx base k env X O P G val ρ A s) (g : Go s s') : Sx base k env X O P G val ρ A s' where
  en := S.en
  at_ := S.at_
  bas := S.bas.trans g.ext
  tb := S.tb
  code := S.code
  hL := S.hL
  hC := S.hC
  ex := fun a ha => let ⟨o, ho⟩ := S.ex a ha; g.ext.there ho
  loc := let ⟨m, h⟩ := S.loc; ⟨m, g.ext.ns h⟩
  cell := fun x c h => let ⟨⟨v, q⟩, r⟩ := S.cell x c h; ⟨⟨v, g.ext.cell q⟩, r⟩
  inj := S.inj
  fresh := S.fresh
  disj := S.disj
  disjO := S.disjO
  vars := fun x b h => ⟨(S.vars x b h).1.ext g.ext, (S.vars x b h).2.ext g.ext⟩
  brw := S.brw
  sep := S.sep

/-- a change of the heap inside the frame's own addresses leaves every reading as it was -/
theorem BOk.chg {h h' : Heap} {OP O : List Addr} {b : Bd} {v : Value} {W : List Addr} (hW : ∀ a ∈ W, a ∈ OP) (hk : ∀ a o, NT o → a ∉ W → h.get? a = some o → h'.get? a = some o)
    (hv : b.m ≠ .val → ∀ a, v = .ref a → a ∉ W) (x : BOk h OP O b v) : BOk h' OP O b v := by
  have hm : ∀ a o, NT o → a ∉ OP → h.get? a = some o → a ∉ OP ∧ h'.get? a = some o := fun a o n ha ho => ⟨ha, hk a o n (fun hm => ha (hW a hm)) ho⟩
  obtain ⟨m, d⟩ := b
  cases m with
  | val => exact Rd.mono hm x
  | brw =>
    have hv2 := hv (by intro e; cases e)
    cases x with
    | of x => exact .of (x.mono hm)
    | list hl r => obtain ⟨o, ho, q⟩ := hl; exact .list ⟨o, hk _ o (.ty q.1) (hv2 _ rfl) ho, q⟩ (r.mono hm)
    | dict hd r e =>
      refine .dict ⟨hd.1, fun p w => ?_⟩ (r.mono hm) e
      obtain ⟨o, es, ep, ho, q⟩ := hd.2 p w
      exact ⟨o, es, ep, hk _ o (.ty q.1.1) (hv2 _ rfl) ho, q⟩
  | own =>
    have hv2 := hv (by intro e; cases e)
    obtain ⟨a, rfl, h2, h3⟩ := x
    refine ⟨a, rfl, h2, ?_⟩
    cases h3 with
    | list p r => obtain ⟨o, n, ho, q⟩ := p; exact .list ⟨o, n, hk _ o (.ty q.1) (hv2 _ rfl) ho, q⟩ (r.mono hm)
    | dict hd r e =>
      refine .dict ⟨hd.1, fun p w => ?_⟩ (r.mono hm) e
      obtain ⟨o, es, ep, ho, q⟩ := hd.2 p w
      exact ⟨o, es, ep, hk _ o (.ty q.1.1) (hv2 _ rfl) ho, q⟩

theorem Sx.own_ref (S : Sx base k env X O P G val ρ A s) {x : Str} {b : Bd} (h : ρ.lookup x = some b) (hm : b.m = .own) : ∃ a, val x = .ref a ∧ a ∈ O ∧ OwnT s.heap (X ++ O ++ P) a b.d := by
  have q := (S.vars x b h).2
  unfold BOk at q
  rw [hm] at q; exact q
theorem Sx.not_val (S : Sx base k env X O P G val ρ A s) {x : Str} {b : Bd} (h : ρ.lookup x = some b) (hm : b.m ≠ .val) : ∀ a, val x = .ref a → a ∉ X := by
  intro a ha hX
  cases hb : b.m with
  | val => exact hm hb
  | brw => exact S.brw x b h hb a ha (by simp [hX])
  | own =>
    obtain ⟨a', h1, h2, _⟩ := S.own_ref h hb
    rw [h1] at ha; cases ha
    exact S.disjO _ h2 hX

theorem locals_mem (S : Sx base k env X O P G val ρ A s) : env.locals ∈ X := S.hL
theorem cell_mem (S : Sx base k env X O P G val ρ A s) {x : Str} {c : Addr} (h : env.cells.lookup x = some c) : c ∈ X := S.hC x c h

/-- storing a name of the frame: x gets the value v, bound as b -/
theorem store_sound {prog : Program} {w : World} {x : Str} {v : Value} {b : Bd} {O' : List Addr} {E : Value → Shared → Prop} {Q : Unit → Shared → Prop}
    (S : Sx base k env X O P G val ρ A s) (hk : env.kindOf x = some .local ∨ env.kindOf x = some .cell)
    (hO : ∀ a ∈ O, a ∈ O') (hO' : ∀ a ∈ O', a ∈ O ∨ (a ∉ X ++ O ++ P ∧ base.get? a = none ∧ ∃ o, s.heap.get? a = some o))
    (hold : ∀ y b', ρ.lookup y = some b' → BOk s.heap (X ++ O' ++ P) O' b' (val y) ∧ (b'.m = .brw → ∀ a, val y = .ref a → a ∉ X ++ O' ++ G) ∧ (b.m = .own → b'.m = .own → v ≠ val y))
    (hnew : BOk s.heap (X ++ O' ++ P) O' b v) (hbrw : b.m ≠ .brw)
    (hQ : ∀ s', Chg X s s' → Sx base k env X O' P G (fun y => if y = x then v else val y) (setR ρ x b) A s' → Q () s') :
    wpAny (model prog w) A (storeName env x v) Q E s := by
  have hvX : b.m ≠ .val → ∀ a, v = .ref a → a ∉ X := by
    intro hm a ha hXa
    cases hb : b.m with
    | val => exact hm hb
    | brw => exact hbrw hb
    | own =>
      unfold BOk at hnew
      rw [hb] at hnew
      obtain ⟨a', h1, h2, _⟩ := hnew
      rw [h1] at ha; cases ha
      rcases hO' _ h2 with h | h
      · exact S.disjO _ h hXa
      · exact h.1 (List.mem_append.mpr (.inl (List.mem_append.mpr (.inl hXa))))
  -- the common part: a heap h' that differs from s.heap at one address c ∈ X
  have key : ∀ (s' : Shared) (c : Addr), c ∈ X → (∀ a o, a ≠ c → s.heap.get? a = some o → s'.heap.get? a = some o) → (∃ o, s'.heap.get? c = some o) → s'.os = s.os → (AllBare s.gens → AllBare s'.gens) →
      (∃ m, s'.heap.Ns env.locals m) → (∀ y c', env.cells.lookup y = some c' → ∃ u, s'.heap.IsCell c' u) → Var s'.heap env x v → (∀ y u, y ≠ x → Var s.heap env y u → Var s'.heap env y u) → Q () s' := by
    intro s' c hc hkeep hcx hos hgen hloc hcell hvar hvars
    have hXc : ∀ a ∈ [c], a ∈ X := fun a ha => by rw [List.mem_singleton.mp ha]; exact hc
    have hsub : ∀ a ∈ [c], a ∈ X ++ O' ++ P := fun a ha => List.mem_append.mpr (.inl (List.mem_append.mpr (.inl (hXc a ha))))
    have hk1 : ∀ a o, a ∉ [c] → s.heap.get? a = some o → s'.heap.get? a = some o := fun a o ha ho => hkeep a o (by simpa using ha) ho
    have hPc : TB.P ≠ c := S.tb.new (S.fresh c (List.mem_append.mpr (.inl hc)))
    refine hQ s' ⟨fun a o _ ha ho => hkeep a o (fun e => ha (e ▸ hc)) ho, fun o e => .inl (hkeep _ o hPc e), hos, hgen⟩ ⟨S.en, S.at_, ?_, S.tb, S.code, S.hL, S.hC, ?_, hloc, fun y c' hy => ⟨hcell y c' hy, (S.cell y c' hy).2⟩, S.inj, ?_, ?_, ?_, ?_, ?_, ?_⟩
    · exact S.bas.thenB (W := [c]) (.of hk1 (by simpa using hPc)) (by simpa using S.fresh c (List.mem_append.mpr (.inl hc)))
    · intro a ha
      have hex : ∃ o, s.heap.get? a = some o := by
        simp only [List.mem_append] at ha
        rcases ha with (ha | ha) | ha
        · exact S.ex a (by simp [ha])
        · rcases hO' a ha with h | h
          · exact S.ex a (by simp [h])
          · exact h.2.2
        · exact S.ex a (by simp [ha])
      by_cases hac : a = c
      · rw [hac]; exact hcx
      · obtain ⟨o, ho⟩ := hex; exact ⟨o, hkeep a o hac ho⟩
    · intro a ha
      simp only [List.mem_append] at ha
      rcases ha with ha | ha
      · exact S.fresh a (by simp [ha])
      · rcases hO' a ha with h | h
        · exact S.fresh a (by simp [h])
        · exact h.2.1
    · intro a ha
      simp only [List.mem_append] at ha
      rcases ha with ha | ha
      · exact S.disj a (by simp [ha])
      · rcases hO' a ha with h | h
        · exact S.disj a (by simp [h])
        · exact fun hp => h.1 (by simp [hp])
    · intro a ha
      rcases hO' a ha with h | h
      · exact S.disjO a h
      · exact fun hx => h.1 (by simp [hx])
    · intro y b' hy
      rw [setR_lookup] at hy
      split at hy
      · rename_i e; subst e; cases hy
        simp only [if_true]
        exact ⟨hvar, hnew.chg hsub (fun a o _ => hk1 a o) fun hm a ha => by simp only [List.mem_singleton]; intro e; exact hvX hm a ha (e ▸ hc)⟩
      · rename_i e
        simp only [e, if_false]
        refine ⟨hvars y _ e (S.vars y b' hy).1, (hold y b' hy).1.chg hsub (fun a o _ => hk1 a o) fun hm a ha => ?_⟩
        simp only [List.mem_singleton]; intro e'
        exact S.not_val hy hm a ha (e' ▸ hc)
    · intro y b' hy hm a ha
      rw [setR_lookup] at hy
      split at hy
      · cases hy; exact absurd hm hbrw
      · rename_i e
        simp only [e, if_false] at ha
        exact (hold y b' hy).2.1 hm a ha
    · intro y z by_ bz hne hy hmy hz hmz
      rw [setR_lookup] at hy hz
      by_cases e1 : y = x
      · have e2 : z ≠ x := fun e => hne (e1.trans e.symm)
        rw [if_pos e1] at hy; rw [if_neg e2] at hz
        cases hy
        simp only [e1, if_true, e2, if_false]
        exact (hold z bz hz).2.2 hmy hmz
      · rw [if_neg e1] at hy
        by_cases e2 : z = x
        · rw [if_pos e2] at hz
          cases hz
          simp only [e1, if_false, e2, if_true]
          exact ((hold y by_ hy).2.2 hmz hmy).symm
        · rw [if_neg e2] at hz
          simp only [e1, e2, if_false]
          exact S.sep y z by_ bz hne hy hmy hz hmz
  rcases hk with hk | hk
  · obtain ⟨m, hm⟩ := S.loc
    refine wpAny_storeName_local hk hm (fun h' hn hsb => ?_) (by rw [S.en.kind]; rfl)
    have hns : ∃ o, h'.get? env.locals = some o := by obtain ⟨o, _, _, e, _⟩ := hn; exact ⟨o, e⟩
    refine key { s with heap := h', toks := s.toks + 1 } env.locals (locals_mem S) (fun a o ha ho => hsb.extBut a o ha ho) hns rfl (fun h => h) ⟨_, hn⟩ (fun y c' hy => ?_) (.inl ⟨hk, _, hn, by simp⟩) (fun y u hyx hv => ?_)
    · obtain ⟨⟨u, hu⟩, hne⟩ := S.cell y c' hy
      exact ⟨u, hu.sameBut hsb hne⟩
    · rcases hv with ⟨a, m', b, c⟩ | ⟨a, c, b, d⟩ | ⟨a, q, c, b, d⟩
      · have : m' y = m y := by
          obtain ⟨o1, e1, p1, h1, h2, _, h3⟩ := b
          obtain ⟨o2, e2, p2, h4, h5, _, h6⟩ := hm
          rw [h1] at h4; cases h4
          rw [h2] at h5; cases h5
          rw [← h3, ← h6]
        exact .inl ⟨a, _, hn, by simp only [hyx, if_false]; rw [← this]; exact c⟩
      · exact .inr (.inl ⟨a, c, b, d.sameBut hsb (S.cell y c b).2⟩)
      · exact .inr (.inr ⟨a, q, c, b, d.sameBut hsb (S.cell y c b).2⟩)
  · have hc := S.en.cells x (.inl hk)
    cases hcx : env.cells.lookup x with
    | none => rw [hcx] at hc; cases hc
    | some c =>
      obtain ⟨⟨u, hu⟩, hne⟩ := S.cell x c hcx
      refine wpAny_storeName_cell S.en.kind hk hcx hu fun h' hic hsb => ?_
      have hcx' : ∃ o, h'.get? c = some o := by obtain ⟨o, e, _⟩ := hic; exact ⟨o, e⟩
      refine key { s with heap := h' } c (cell_mem S hcx) (fun a o ha ho => hsb.extBut a o ha ho) hcx' rfl (fun h => h) ?_ (fun y c' hy => ?_) (.inr (.inl ⟨hk, c, hcx, hic⟩)) (fun y u hyx hv => ?_)
      · obtain ⟨m, hm⟩ := S.loc; exact ⟨m, hm.sameBut hsb hne.symm⟩
      · by_cases e : c' = c
        · rw [e]; exact ⟨_, hic⟩
        · obtain ⟨⟨u, hu⟩, _⟩ := S.cell y c' hy; exact ⟨u, hu.sameBut hsb e⟩
      · rcases hv with ⟨a, m', b, c1⟩ | ⟨a, c1, b, d⟩ | ⟨a, q, c1, b, d⟩
        · exact .inl ⟨a, m', b.sameBut hsb hne.symm, c1⟩
        · exact .inr (.inl ⟨a, c1, b, d.sameBut hsb fun e => hyx (S.inj y x c (e ▸ b) hcx)⟩)
        · exact .inr (.inr ⟨a, q, c1, b, d.sameBut hsb fun e => hyx (S.inj y x c (e ▸ b) hcx)⟩)
end
end Mine
set_option autoImplicit false
set_option linter.unusedSectionVars false
set_option linter.unusedVariables false
set_option linter.unusedSimpArgs false
namespace Mine
open PySem PySem.Spec PySem.Calls PyProof.Rows
variable [TB]

noncomputable def Post (base : Heap) (k : Nat) (env : Env) (X P G : List Addr) (A : Around) (O : List Addr) (s : Shared) (fl : Fl) (ρ' : Rho) (f : Flow) (s' : Shared) : Prop :=
  Chg (X ++ O) s s' ∧ match fl with
    | .next => f = .next ∧ ∃ O' val', Sx base k env X O' P G val' ρ' A s' ∧ ∀ a ∈ O', a ∈ O ∨ s.heap.get? a = none
    | .ret d => ∃ v, f = .ret v ∧ Rd s'.heap P v d

theorem chg_next {X O O' : List Addr} {s s₁ s₂ : Shared} (c : Chg (X ++ O) s s₁) (hO : ∀ a ∈ O', a ∈ O ∨ s.heap.get? a = none) (c' : Chg (X ++ O') s₁ s₂) : Chg (X ++ O) s s₂ :=
  c.trans c' fun a ha => by
    rcases List.mem_append.mp ha with h | h
    · exact .inl (List.mem_append.mpr (.inl h))
    · exact (hO a h).imp (fun h => List.mem_append.mpr (.inr h)) id
theorem own_next {X O O' O'' : List Addr} {s s₁ : Shared} (c : Chg (X ++ O) s s₁) (hX : ∀ a ∈ O'', a ∉ X) (hO : ∀ a ∈ O', a ∈ O ∨ s.heap.get? a = none) (hO' : ∀ a ∈ O'', a ∈ O' ∨ s₁.heap.get? a = none) : ∀ a ∈ O'', a ∈ O ∨ s.heap.get? a = none := fun a ha => by
  rcases hO' a ha with h | h
  · exact hO a h
  · by_cases hao : a ∈ O
    · exact .inl hao
    · refine .inr ?_
      exact c.old (by rw [List.mem_append]; rintro (q | q); exact hX a ha q; exact hao q) h
theorem Post.trans {base : Heap} {k : Nat} {env : Env} {X P G : List Addr} {A : Around} {O O' : List Addr} {s s₁ s₂ : Shared} {fl : Fl} {ρ' : Rho} {f : Flow} (c : Chg (X ++ O) s s₁) (hO : ∀ a ∈ O', a ∈ O ∨ s.heap.get? a = none)
    (p : Post base k env X P G A O' s₁ fl ρ' f s₂) : Post base k env X P G A O s fl ρ' f s₂ := by
  obtain ⟨c', p⟩ := p
  refine ⟨chg_next c hO c', ?_⟩
  cases fl with
  | ret d => exact p
  | next => obtain ⟨h1, O2, v2, S2, h2⟩ := p; exact ⟨h1, O2, v2, S2, own_next c S2.disjO hO h2⟩

noncomputable def XS (prog : Program) (w : World) (base : Heap) (Φ : Fns) (k wf n : Nat) : Prop := ∀ (env : Env) (ρ : Rho) (st : Stmt) (fl : Fl) (ρ' : Rho), execS Φ wf n env.kindOf ρ st = some (fl, ρ') →
  ∀ (X O P G : List Addr) (val : Str → Value) (A : Around) (s : Shared) (E : Value → Shared → Prop), Sx base k env X O P G val ρ A s → wpAny (model prog w) A (exec st env) (Post base k env X P G A O s fl ρ') E s

section
variable {prog : Program} {w : World} {mg mb : Str → Option Value} {base : Heap} {Φ : Fns} {k wf : Nat}

theorem seq_sound {n : Nat} (hX : XS prog w base Φ k wf n) {env : Env} {X P G : List Addr} {A : Around} {E : Value → Shared → Prop} : ∀ (sts : List Stmt) (ρ : Rho) (fl : Fl) (ρ' : Rho), seqGo (execS Φ wf n env.kindOf) ρ sts = some (fl, ρ') →
    ∀ (O : List Addr) (val : Str → Value) (s : Shared), Sx base k env X O P G val ρ A s → wpAny (model prog w) A (execs sts env) (Post base k env X P G A O s fl ρ') E s
  | [], ρ, fl, ρ', h, O, val, s, S => by
    simp only [seqGo, Option.some.injEq, Prod.mk.injEq] at h
    obtain ⟨rfl, rfl⟩ := h
    exact wpAny_execs_nil ⟨.refl _ _, rfl, O, val, S, fun a h => .inl h⟩
  | st :: r, ρ, fl, ρ', h, O, val, s, S => by
    simp only [seqGo, Option.bind_eq_some_iff] at h
    obtain ⟨⟨f1, ρ1⟩, h1, h⟩ := h
    refine wpAny_execs_cons (wpAny_mono (hX env ρ st f1 ρ1 h1 X O P G val A s E S) (fun f s₁ p => ?_) fun _ _ e => e)
    obtain ⟨c, p⟩ := p
    cases f1 with
    | next =>
      obtain ⟨rfl, O1, v1, S1, hO1⟩ := p
      exact wpAny_mono (seq_sound hX r ρ1 fl ρ' h O1 v1 s₁ S1) (fun f s₂ q => q.trans c hO1) fun _ _ e => e
    | ret d =>
      simp only [Option.some.injEq, Prod.mk.injEq] at h
      obtain ⟨rfl, rfl⟩ := h
      obtain ⟨v, hf, p⟩ := p
      subst hf
      exact ⟨c, v, rfl, p⟩

/-- a new list or dict, not yet held by anything -/
theorem fresh_sound {n : Nat} (hB : Base mg mb base) (hE : ES prog w base Φ k n) {env : Env} {ρ : Rho} {e : Expr} {d : PyData} (h : evalE Φ (n + 1) env.kindOf ρ false e = some d) (hf : isFresh e d = .own) {OP O : List Addr} {A : Around} {s : Shared} {Q E : Value → Shared → Prop}
    (C : Cx base k env ρ OP O A s) (hQ : ∀ a s', Go s s' → s.heap.get? a = none → OwnT s'.heap (a :: OP) a d → Q (.ref a) s') : wpAny (model prog w) A (eval e env) Q E s := by
  have hnew : ∀ s₁, Go s s₁ → s.heap.get? s₁.heap.objs.size = none := fun s₁ g => g.ext.old (fresh_size (Nat.le_refl _))
  have hmono : ∀ (s₁ : Shared) (o : Obj) {vs : List Value} {ds : List PyData}, RdAll s₁.heap OP vs ds → RdAll (s₁.heap.push o) (s₁.heap.objs.size :: OP) vs ds := fun s₁ o vs ds r =>
    r.mono fun a ob _ ha hob => ⟨by simp only [List.mem_cons, not_or]; exact ⟨Nat.ne_of_lt (Heap.lt_size hob), ha⟩, Heap.get?_push_of_some _ hob⟩
  cases e with
  | List es pos =>
    simp only [evalE, Option.bind_eq_some_iff] at h
    obtain ⟨ds, hds, h⟩ := h
    split at h
    · rename_i hsz
      cases h
      refine wpAny_List (args_sound hE es _ ds (mapO_mapF _ false _ _ hds) s _ C fun vs s₁ g₁ r₁ => ?_)
      have r2 := r₁.all
      have hl := r2.length
      exact ⟨by omega, hQ _ _ (g₁.trans (Go.heap _ (Ext.push _ _))) (hnew s₁ g₁) (.list (vs := vs.toArray) ⟨_, _, Heap.get?_push_size _ rfl, rfl, rfl, rfl⟩ (by simpa using hmono s₁ _ r2))⟩
    · cases h
  | Dict ks vs pos =>
    simp only [evalE] at h
    split at h
    · cases h
      refine wpAny_Dict_empty (hQ _ _ (Go.heap _ (Ext.push _ _)) (hnew s (Go.refl _)) (.dict (kvs := []) (xs := []) ⟨?_, fun prog w => ⟨_, _, _, Heap.get?_push_size _ rfl, ⟨rfl, rfl, rfl⟩, rfl, fun e he => by simp at he, by constructor, by simp⟩⟩ .nil rfl))
      refine beq_eq_false_iff_ne.mpr (Nat.ne_of_gt ?_)
      obtain ⟨o, es, ep, ho, _⟩ := C.base.ns hB.g
      exact Nat.lt_trans (by decide) (Heap.lt_size ho)
    · cases h
  | BinOp l op r pos =>
    cases op with
    | Add =>
      simp only [evalE, Option.bind_eq_some_iff] at h
      obtain ⟨a, ha, b, hb, h⟩ := h
      refine wpAny_BinOp (hE env ρ true l a ha OP O A s _ E C fun va s₁ g₁ r₁ => hE env ρ true r b hb OP O A s₁ _ E (C.go g₁) fun vb s₂ g₂ r₂ => ?_)
      have r1 := RdT.ext g₂.ext r₁
      cases d with
      | list zs =>
        cases a with
        | list xs =>
          cases b with
          | list ys =>
            simp only [binD] at h
            split at h
            · rename_i hsz
              cases h
              obtain ⟨la, vs, rfl, hl, hvs⟩ := r1.list_inv
              obtain ⟨lb, ws, rfl, hm, hws⟩ := RdT.list_inv r₂
              obtain ⟨⟨cls, dd, data, sl⟩, ho, hc, nn, hd⟩ := id hl
              obtain ⟨⟨cls2, dd2, data2, sl2⟩, ho2, hc2, n2, hd2⟩ := id hm
              simp only at hc hd hc2 hd2
              subst hc hd hc2 hd2
              refine concat_meets ⟨_, ho, rfl⟩ ⟨_, ho2, rfl⟩ noFill_list_add seq_list_add PySem.F.slot_list_add PySem.F.entry_list_add (PySem.F.args_list_add_2 _ _) (list_addW la lb vs ws nn n2 dd dd2 sl sl2 (by
                have e1 := hvs.length; have e2 := hws.length
                simp only [Array.length_toList] at e1 e2
                omega)) ⟨ho, ho2, ?_⟩
              refine hQ _ _ ((g₁.trans g₂).trans (Go.heap _ (Ext.push _ _))) (hnew s₂ (g₁.trans g₂)) (.list (vs := vs ++ ws) ⟨_, _, Heap.get?_push_size _ rfl, rfl, rfl, rfl⟩ ?_)
              rw [Array.toList_append]
              exact (hmono s₂ _ hws).append (hmono s₂ _ hvs)
            · cases h
          | _ => simp [binD] at h
        | int i => cases b <;> simp [binD] at h
        | _ => simp [binD] at h
      | _ => simp [isFresh] at hf
    | _ => simp [isFresh] at hf
  | _ => simp [isFresh] at hf

theorem Sx.protect {env : Env} {X O P G : List Addr} {val : Str → Value} {ρ : Rho} {A : Around} {s : Shared} (S : Sx base k env X O P G val ρ A s) {a : Addr} (ha : s.heap.get? a = none) {h' : Heap} (e : Ext s.heap h') {y : Str} {b : Bd} (hy : ρ.lookup y = some b) :
    BOk h' (X ++ (a :: O) ++ P) (a :: O) b (val y) ∧ (b.m = .brw → ∀ a', val y = .ref a' → a' ∉ X ++ (a :: O) ++ G) ∧ (b.m = .own → Value.ref a ≠ val y) := by
  have hv := (S.vars y b hy).2
  have hm : ∀ a' o, NT o → a' ∉ X ++ O ++ P → s.heap.get? a' = some o → a' ∉ X ++ (a :: O) ++ P ∧ h'.get? a' = some o := fun a' o n h1 h2 => by
    refine ⟨?_, e.nt n h2⟩
    simp only [List.mem_append, List.mem_cons, not_or] at h1 ⊢
    exact ⟨⟨h1.1.1, (by rintro rfl; rw [ha] at h2; cases h2), h1.1.2⟩, h1.2⟩
  obtain ⟨m, d⟩ := b
  cases m with
  | val => exact ⟨Rd.mono hm hv, (fun h => by cases h), (fun h => by cases h)⟩
  | brw =>
    have hex : ∀ a', val y = .ref a' → a' ≠ a := by
      rintro a' h1 rfl
      have hv' : RdT s.heap (X ++ O ++ P) (val y) d := hv
      rw [h1] at hv'
      cases hv' with
      | of q =>
        cases q with
        | list _ hl _ => obtain ⟨o, ho, _⟩ := hl; rw [ha] at ho; cases ho
        | tuple _ hl _ => obtain ⟨o, ho, _⟩ := hl; rw [ha] at ho; cases ho
        | dict _ hd _ _ => obtain ⟨o, ho, _⟩ := hd.there; rw [ha] at ho; cases ho
      | list hl _ => obtain ⟨o, ho, _⟩ := hl; rw [ha] at ho; cases ho
      | dict hd _ _ => obtain ⟨o, ho, _⟩ := hd.there; rw [ha] at ho; cases ho
    refine ⟨?_, fun _ a' h1 h2 => ?_, fun h => by cases h⟩
    · have hv' : RdT s.heap (X ++ O ++ P) (val y) d := hv
      show RdT _ _ _ _
      generalize val y = vy at hv'
      cases hv' with
      | of x => exact .of (x.mono hm)
      | list hl r => exact .list (e.list hl) (r.mono hm)
      | dict hd r e' => exact .dict (hd.ext e) (r.mono hm) e'
    · simp only [List.mem_append, List.mem_cons] at h2
      rcases h2 with (h2 | h2 | h2) | h2
      · exact S.brw y _ hy rfl a' h1 (by simp [h2])
      · exact hex a' h1 h2
      · exact S.brw y _ hy rfl a' h1 (by simp [h2])
      · exact S.brw y _ hy rfl a' h1 (by simp [h2])
  | own =>
    obtain ⟨a', h1, h2, h3⟩ := hv
    refine ⟨⟨a', h1, .tail _ h2, ?_⟩, (fun h => by cases h), fun _ h => ?_⟩
    · cases h3 with
      | list p r => exact .list (e.plainL p) (r.mono hm)
      | dict hd r e' => exact .dict (hd.ext e) (r.mono hm) e'
    · rw [h1] at h; cases h
      obtain ⟨o, ho⟩ := S.ex a (by simp [h2])
      rw [ha] at ho; cases ho
end
end Mine
set_option autoImplicit false
set_option linter.unusedSectionVars false
set_option linter.unusedVariables false
set_option linter.unusedSimpArgs false
namespace Mine
open PySem PySem.Spec PySem.Calls PyProof.Rows
variable [TB]

section
variable {prog : Program} {w : World} {mg mb : Str → Option Value} {base : Heap} {Φ : Fns} {k wf : Nat}
variable {env : Env} {X O P G : List Addr} {val : Str → Value} {ρ : Rho} {A : Around} {s : Shared}

/-- an own address that nothing reads is dropped; it may turn or vanish -/
theorem Sx.drop {c : Addr} (S : Sx base k env X (c :: O) P G val ρ A s) {s' : Shared} (hcO : c ∉ O) (hv : ∀ x b, ρ.lookup x = some b → b.m ≠ .val → val x ≠ .ref c) (hk : ∀ a o, a ≠ c → s.heap.get? a = some o → s'.heap.get? a = some o) : Sx base k env X O P G val ρ A s' := by
  have hcX : c ∉ X := S.disjO c (.head _)
  have hcP : c ∉ P := S.disj c (by simp)
  have hL : env.locals ≠ c := fun h => hcX (h ▸ locals_mem S)
  have hm : ∀ a o, NT o → a ∉ X ++ (c :: O) ++ P → s.heap.get? a = some o → a ∉ X ++ O ++ P ∧ s'.heap.get? a = some o := fun a o _ h1 h2 => by
    simp only [List.mem_append, List.mem_cons, not_or] at h1 ⊢
    exact ⟨⟨⟨h1.1.1, h1.1.2.2⟩, h1.2⟩, hk a o h1.1.2.1 h2⟩
  refine ⟨S.en, S.at_, ?_, S.tb, S.code, S.hL, S.hC, ?_, ?_, ?_, S.inj, ?_, ?_, ?_, ?_, ?_, S.sep⟩
  · exact S.bas.thenB (W := [c]) (.of (fun a o ha ho => hk a o (by simpa using ha) ho) (by simpa using S.tb.new (S.fresh c (by simp)))) (by simpa using S.fresh c (by simp))
  · intro a ha
    have hac : a ≠ c := by
      rintro rfl
      simp only [List.mem_append] at ha
      rcases ha with (h | h) | h
      · exact hcX h
      · exact hcO h
      · exact hcP h
    obtain ⟨o, ho⟩ := S.ex a (by simp only [List.mem_append, List.mem_cons] at ha ⊢; rcases ha with (h | h) | h; exact .inl (.inl h); exact .inl (.inr (.inr h)); exact .inr h)
    exact ⟨o, hk a o hac ho⟩
  · obtain ⟨m, hm⟩ := S.loc
    exact ⟨m, hm.at' fun o e => hk _ o hL e⟩
  · intro x c' h
    obtain ⟨⟨v, o, ho, q⟩, r⟩ := S.cell x c' h
    exact ⟨⟨v, o, hk _ o (fun h' => hcX (h' ▸ cell_mem S h)) ho, q⟩, r⟩
  · exact fun a ha => S.fresh a (by simp only [List.mem_append, List.mem_cons] at ha ⊢; rcases ha with h | h; exact .inl h; exact .inr (.inr h))
  · exact fun a ha => S.disj a (by simp only [List.mem_append, List.mem_cons] at ha ⊢; rcases ha with h | h; exact .inl h; exact .inr (.inr h))
  · exact fun a ha => S.disjO a (.tail _ ha)
  · intro x b h
    constructor
    · rcases (S.vars x b h).1 with ⟨a, m, b, d⟩ | ⟨a, c', b, o, ho, d⟩ | ⟨a, q, c', b, o, ho, d⟩
      · exact .inl ⟨a, m, b.at' fun o e => hk _ o hL e, d⟩
      · exact .inr (.inl ⟨a, c', b, o, hk _ o (fun h' => hcX (h' ▸ cell_mem S b)) ho, d⟩)
      · exact .inr (.inr ⟨a, q, c', b, o, hk _ o (fun h' => hcX (h' ▸ cell_mem S b)) ho, d⟩)
    · have q := (S.vars x b h).2
      have hne := hv x b h
      obtain ⟨m, d⟩ := b
      cases m with
      | val => exact Rd.mono hm q
      | brw =>
        have hne2 := hne (by intro e; cases e)
        show RdT _ _ _ _
        have q2 : RdT s.heap (X ++ (c :: O) ++ P) (val x) d := q
        generalize val x = vx at q2 hne2
        cases q2 with
        | of x => exact .of (x.mono hm)
        | list hl r => obtain ⟨o, ho, q⟩ := hl; exact .list ⟨o, hk _ o (fun e => hne2 (by rw [e])) ho, q⟩ (r.mono hm)
        | dict hd r e =>
          refine .dict ⟨hd.1, fun p w => ?_⟩ (r.mono hm) e
          obtain ⟨o, es, ep, ho, q⟩ := hd.2 p w
          exact ⟨o, es, ep, hk _ o (fun e => hne2 (by rw [e])) ho, q⟩
      | own =>
        have hne2 := hne (by intro e; cases e)
        obtain ⟨a, h1, h2, h3⟩ := q
        have hac : a ≠ c := fun e => hne2 (by rw [h1, e])
        have ha : a ∈ O := by rcases List.mem_cons.mp h2 with e | e; exact absurd e hac; exact e
        refine ⟨a, h1, ha, ?_⟩
        cases h3 with
        | list p r => obtain ⟨o, n, ho, q⟩ := p; exact .list ⟨o, n, hk _ o hac ho, q⟩ (r.mono hm)
        | dict hd r e =>
          refine .dict ⟨hd.1, fun p w => ?_⟩ (r.mono hm) e
          obtain ⟨o, es, ep, ho, q⟩ := hd.2 p w
          exact ⟨o, es, ep, hk _ o hac ho, q⟩
  · exact fun x b h hm a ha hx => S.brw x b h hm a ha (by simp only [List.mem_append, List.mem_cons] at hx ⊢; rcases hx with (h | h) | h; exact .inl (.inl h); exact .inl (.inr (.inr h)); exact .inr h)

/-- an address that is new is put under guard: nothing of the frame reads it -/
theorem Sx.guard (S : Sx base k env X O P G val ρ A s) {c : Addr} {s₂ : Shared} (g : Go s s₂) (hc : s.heap.get? c = none) (hex : ∃ o, s₂.heap.get? c = some o) : Sx base k env X O (c :: P) (c :: G) val ρ A s₂ := by
  have hne : ∀ a, (∃ o, s.heap.get? a = some o) → a ≠ c := by rintro a ⟨o, ho⟩ rfl; rw [hc] at ho; cases ho
  have hm : ∀ a o, NT o → a ∉ X ++ O ++ P → s.heap.get? a = some o → a ∉ X ++ O ++ (c :: P) ∧ s₂.heap.get? a = some o := fun a o n h1 h2 => by
    refine ⟨?_, g.ext.nt n h2⟩
    simp only [List.mem_append, List.mem_cons, not_or] at h1 ⊢
    exact ⟨h1.1, hne a ⟨o, h2⟩, h1.2⟩
  have S2 := S.go g
  refine ⟨S.en, S.at_, S2.bas, S.tb, S.code, S.hL, S.hC, ?_, S2.loc, S2.cell, S.inj, S.fresh, ?_, S.disjO, ?_, ?_, S.sep⟩
  · intro a ha
    simp only [List.mem_append, List.mem_cons] at ha
    rcases ha with (h | h) | rfl | h
    · exact S2.ex a (by simp [h])
    · exact S2.ex a (by simp [h])
    · exact hex
    · exact S2.ex a (by simp [h])
  · intro a ha
    simp only [List.mem_cons, not_or]
    exact ⟨hne a (S.ex a (List.mem_append.mpr (.inl ha))), S.disj a ha⟩
  · intro x b h
    refine ⟨(S2.vars x b h).1, ?_⟩
    have q := (S.vars x b h).2
    obtain ⟨m, d⟩ := b
    cases m with
    | val => exact Rd.mono hm q
    | brw =>
      show RdT _ _ _ _
      have q2 : RdT s.heap (X ++ O ++ P) (val x) d := q
      generalize val x = vx at q2
      cases q2 with
      | of x => exact .of (x.mono hm)
      | list hl r => exact .list (g.ext.list hl) (r.mono hm)
      | dict hd r e => exact .dict (hd.ext g.ext) (r.mono hm) e
    | own =>
      obtain ⟨a, h1, h2, h3⟩ := q
      refine ⟨a, h1, h2, ?_⟩
      cases h3 with
      | list p r => exact .list (g.ext.plainL p) (r.mono hm)
      | dict hd r e => exact .dict (hd.ext g.ext) (r.mono hm) e
  · intro x b h hb a ha hx
    simp only [List.mem_append, List.mem_cons] at hx
    rcases hx with (h' | h') | rfl | h'
    · exact S.brw x b h hb a ha (by simp [h'])
    · exact S.brw x b h hb a ha (by simp [h'])
    · have q := (S.vars x b h).2.top
      rw [ha] at q
      refine hne a ?_ rfl
      generalize hvv : Value.ref a = vv at q
      generalize b.d = bd at q
      cases q with
      | of q =>
        cases q with
        | list _ hl _ => cases hvv; obtain ⟨o, ho, _⟩ := hl; exact ⟨o, ho⟩
        | tuple _ hl _ => cases hvv; obtain ⟨o, ho, _⟩ := hl; exact ⟨o, ho⟩
        | dict _ hd _ _ => cases hvv; obtain ⟨o, ho, _⟩ := hd.there; exact ⟨o, ho⟩
        | _ => cases hvv
      | list hl _ => cases hvv; obtain ⟨o, ho, _⟩ := hl; exact ⟨o, ho⟩
      | dict hd _ _ => cases hvv; obtain ⟨o, ho, _⟩ := hd.there; exact ⟨o, ho⟩
    · exact S.brw x b h hb a ha (by simp [h'])
/-- a guarded address turns -/
theorem Sx.turn {c : Addr} (S : Sx base k env X O (c :: P) (c :: G) val ρ A s) {s' : Shared} (hk : ∀ a o, a ≠ c → s.heap.get? a = some o → s'.heap.get? a = some o) (hex : ∃ o, s'.heap.get? c = some o) (hb : base.get? c = none) : Sx base k env X O (c :: P) (c :: G) val ρ A s' := by
  have hcXO : c ∉ X ++ O := fun h => S.disj c h (.head _)
  have hcX : c ∉ X := fun h => hcXO (by simp [h])
  have hL : env.locals ≠ c := fun h => hcX (h ▸ locals_mem S)
  refine ⟨S.en, S.at_, ?_, S.tb, S.code, S.hL, S.hC, ?_, ?_, ?_, S.inj, S.fresh, S.disj, S.disjO, ?_, S.brw, S.sep⟩
  · exact S.bas.thenB (W := [c]) (.of (fun a o ha ho => hk a o (by simpa using ha) ho) (by simpa using S.tb.new hb)) (by simpa using hb)
  · intro a ha
    by_cases e : a = c
    · rw [e]; exact hex
    · obtain ⟨o, ho⟩ := S.ex a ha; exact ⟨o, hk a o e ho⟩
  · obtain ⟨m, hm⟩ := S.loc
    exact ⟨m, hm.at' fun o e => hk _ o hL e⟩
  · intro x c' h
    obtain ⟨⟨v, o, ho, q⟩, r⟩ := S.cell x c' h
    exact ⟨⟨v, o, hk _ o (fun h' => hcX (h' ▸ cell_mem S h)) ho, q⟩, r⟩
  · intro x b h
    refine ⟨?_, (S.vars x b h).2.chg (W := [c]) (fun a ha => by rw [List.mem_singleton.mp ha]; simp) (fun a o _ ha ho => hk a o (by simpa using ha) ho) fun hm a ha => ?_⟩
    · rcases (S.vars x b h).1 with ⟨a, m, b, d⟩ | ⟨a, c', b, o, ho, d⟩ | ⟨a, q, c', b, o, ho, d⟩
      · exact .inl ⟨a, m, b.at' fun o e => hk _ o hL e, d⟩
      · exact .inr (.inl ⟨a, c', b, o, hk _ o (fun h' => hcX (h' ▸ cell_mem S b)) ho, d⟩)
      · exact .inr (.inr ⟨a, q, c', b, o, hk _ o (fun h' => hcX (h' ▸ cell_mem S b)) ho, d⟩)
    · simp only [List.mem_singleton]
      rintro rfl
      cases hbm : b.m with
      | val => exact hm hbm
      | brw => exact S.brw x b h hbm a ha (by simp)
      | own =>
        obtain ⟨a', h1, h2, _⟩ := S.own_ref h hbm
        rw [h1] at ha; cases ha
        exact hcXO (by simp [h2])
theorem Sx.unguard {c : Addr} (S : Sx base k env X O (c :: P) (c :: G) val ρ A s) : Sx base k env X O P G val ρ A s := by
  have hm : ∀ a o, NT o → a ∉ X ++ O ++ (c :: P) → s.heap.get? a = some o → a ∉ X ++ O ++ P ∧ s.heap.get? a = some o := fun a o _ h1 h2 => by
    refine ⟨?_, h2⟩
    simp only [List.mem_append, List.mem_cons, not_or] at h1 ⊢
    exact ⟨h1.1, h1.2.2⟩
  refine ⟨S.en, S.at_, S.bas, S.tb, S.code, S.hL, S.hC, fun a ha => S.ex a ?_, S.loc, S.cell, S.inj, S.fresh, fun a ha hp => S.disj a ha (.tail _ hp), S.disjO, ?_, fun x b h hb a ha hx => S.brw x b h hb a ha ?_, S.sep⟩
  · simp only [List.mem_append, List.mem_cons] at ha ⊢
    rcases ha with h | h
    · exact .inl h
    · exact .inr (.inr h)
  · intro x b h
    refine ⟨(S.vars x b h).1, ?_⟩
    have q := (S.vars x b h).2
    obtain ⟨m, d⟩ := b
    cases m with
    | val => exact Rd.mono hm q
    | brw =>
      show RdT _ _ _ _
      have q2 : RdT s.heap (X ++ O ++ (c :: P)) (val x) d := q
      generalize val x = vx at q2
      cases q2 with
      | of x => exact .of (x.mono hm)
      | list hl r => exact .list hl (r.mono hm)
      | dict hd r e => exact .dict hd (r.mono hm) e
    | own =>
      obtain ⟨a, h1, h2, h3⟩ := q
      refine ⟨a, h1, h2, ?_⟩
      cases h3 with
      | list p r => exact .list p (r.mono hm)
      | dict hd r e => exact .dict hd (r.mono hm) e
  · simp only [List.mem_append, List.mem_cons] at hx ⊢
    rcases hx with h | h
    · exact .inl h
    · exact .inr (.inr h)

/-- a guarded address turns, or vanishes, and is guarded no longer -/
theorem Sx.leave {c : Addr} (S : Sx base k env X O (c :: P) (c :: G) val ρ A s) {s' : Shared} (hk : ∀ a o, a ≠ c → s.heap.get? a = some o → s'.heap.get? a = some o) (hb : base.get? c = none) (hcP : c ∉ P) : Sx base k env X O P G val ρ A s' := by
  have hcXO : c ∉ X ++ O := fun h => S.disj c h (.head _)
  have hcX : c ∉ X := fun h => hcXO (by simp [h])
  have hL : env.locals ≠ c := fun h => hcX (h ▸ locals_mem S)
  have hm : ∀ a o, NT o → a ∉ X ++ O ++ (c :: P) → s.heap.get? a = some o → a ∉ X ++ O ++ P ∧ s'.heap.get? a = some o := fun a o _ h1 h2 => by
    simp only [List.mem_append, List.mem_cons, not_or] at h1 ⊢
    exact ⟨⟨h1.1, h1.2.2⟩, hk a o h1.2.1 h2⟩
  refine ⟨S.en, S.at_, ?_, S.tb, S.code, S.hL, S.hC, ?_, ?_, ?_, S.inj, S.fresh, fun a ha hp => S.disj a ha (.tail _ hp), S.disjO, ?_, fun x b h hbm a ha hx => S.brw x b h hbm a ha ?_, S.sep⟩
  · exact S.bas.thenB (W := [c]) (.of (fun a o ha ho => hk a o (by simpa using ha) ho) (by simpa using S.tb.new hb)) (by simpa using hb)
  · intro a ha
    have hac : a ≠ c := by
      rintro rfl
      rcases List.mem_append.mp ha with h | h
      · exact hcXO h
      · exact hcP h
    obtain ⟨o, ho⟩ := S.ex a (by simp only [List.mem_append, List.mem_cons] at ha ⊢; rcases ha with h | h; exact .inl h; exact .inr (.inr h))
    exact ⟨o, hk a o hac ho⟩
  · obtain ⟨m, hm⟩ := S.loc
    exact ⟨m, hm.at' fun o e => hk _ o hL e⟩
  · intro x c' h
    obtain ⟨⟨v, o, ho, q⟩, r⟩ := S.cell x c' h
    exact ⟨⟨v, o, hk _ o (fun h' => hcX (h' ▸ cell_mem S h)) ho, q⟩, r⟩
  · intro x b h
    constructor
    · rcases (S.vars x b h).1 with ⟨a, m, b, d⟩ | ⟨a, c', b, o, ho, d⟩ | ⟨a, q, c', b, o, ho, d⟩
      · exact .inl ⟨a, m, b.at' fun o e => hk _ o hL e, d⟩
      · exact .inr (.inl ⟨a, c', b, o, hk _ o (fun h' => hcX (h' ▸ cell_mem S b)) ho, d⟩)
      · exact .inr (.inr ⟨a, q, c', b, o, hk _ o (fun h' => hcX (h' ▸ cell_mem S b)) ho, d⟩)
    · have q := (S.vars x b h).2
      have hbr := S.brw x b h
      obtain ⟨m, d⟩ := b
      cases m with
      | val => exact Rd.mono hm q
      | brw =>
        have hne2 : val x ≠ .ref c := fun e => hbr rfl c e (by simp)
        show RdT _ _ _ _
        have q2 : RdT s.heap (X ++ O ++ (c :: P)) (val x) d := q
        generalize val x = vx at q2 hne2
        cases q2 with
        | of x => exact .of (x.mono hm)
        | list hl r => obtain ⟨o, ho, q⟩ := hl; exact .list ⟨o, hk _ o (fun e => hne2 (by rw [e])) ho, q⟩ (r.mono hm)
        | dict hd r e =>
          refine .dict ⟨hd.1, fun p w => ?_⟩ (r.mono hm) e
          obtain ⟨o, es, ep, ho, q⟩ := hd.2 p w
          exact ⟨o, es, ep, hk _ o (fun e => hne2 (by rw [e])) ho, q⟩
      | own =>
        obtain ⟨a, h1, h2, h3⟩ := q
        have hac : a ≠ c := by rintro rfl; exact hcXO (by simp [h2])
        refine ⟨a, h1, h2, ?_⟩
        cases h3 with
        | list p r => obtain ⟨o, n, ho, q⟩ := p; exact .list ⟨o, n, hk _ o hac ho, q⟩ (r.mono hm)
        | dict hd r e =>
          refine .dict ⟨hd.1, fun p w => ?_⟩ (r.mono hm) e
          obtain ⟨o, es, ep, ho, q⟩ := hd.2 p w
          exact ⟨o, es, ep, hk _ o hac ho, q⟩
  · simp only [List.mem_append, List.mem_cons] at hx ⊢
    rcases hx with h | h
    · exact .inl h
    · exact .inr (.inr h)

theorem swaps_eq (value : Expr) (x : Str) (p : Pos) (line : Nat) (env : Env) : swapsWith value (some (.Name x p)) line env = pure false ∨
    (swapsWith value (some (.Name x p)) line env = pure true ∧ (∃ elt gens sc pos, value = .ListComp elt gens sc pos)) ∨ ∀ Φ n K ρ rd, evalE Φ n K ρ rd value = none := by
  cases value with
  | ListComp elt gens sc pos =>
    have e : ∃ b, swapsWith (.ListComp elt gens sc pos) (some (.Name x p)) line env = pure b := ⟨_, rfl⟩
    obtain ⟨b, hb⟩ := e
    cases b with
    | false => exact .inl hb
    | true => exact .inr (.inl ⟨hb, _, _, _, _, rfl⟩)
  | SetComp => exact .inr (.inr fun Φ n K ρ rd => by cases n <;> simp [evalE])
  | DictComp => exact .inr (.inr fun Φ n K ρ rd => by cases n <;> simp [evalE])
  | _ => exact .inl rfl

/-- a plain store of a frozen value -/
theorem bind_sound {x : Str} {v : Value} {d : PyData} {s₀ : Shared} {E : Value → Shared → Prop} {Q : Unit → Shared → Prop} (S : Sx base k env X O P G val ρ A s) (hk : (env.kindOf x == some .local || env.kindOf x == some .cell) = true) (hv : Rd s.heap (X ++ O ++ P) v d) (hc : Chg (X ++ O) s₀ s)
    (hQ : ∀ s' val', Chg (X ++ O) s₀ s' → Sx base k env X O P G val' (setR ρ x ⟨.val, d⟩) A s' → Chg X s s' → Q () s') : wpAny (model prog w) A (storeName env x v) Q E s := by
  simp only [Bool.or_eq_true, beq_iff_eq] at hk
  refine store_sound (b := ⟨.val, d⟩) S hk (fun a h => h) (fun a h => .inl h) (fun y b hy => ⟨(S.vars y b hy).2, S.brw y b hy, (fun h => by cases h)⟩) hv (by intro e; cases e) fun s' c S' => ?_
  exact hQ s' _ (hc.trans (W' := X) c fun a h => .inl (by simp [h])) S' c

theorem thaw_lookup (x : Str) (b : Bd) : ∀ ρ : Rho, (thaw ρ).lookup x = some b → ∃ b', ρ.lookup x = some b' ∧ b = if b'.m == .own then ⟨.val, b'.d⟩ else b'
  | [], h => by simp [thaw] at h
  | (y, c) :: r, h => by
    have ih := thaw_lookup x b r
    unfold thaw at h ih
    rw [List.map_cons, List.lookup_cons] at h
    rw [List.lookup_cons]
    cases hx : x == y with
    | true => rw [hx] at h; simp only [Option.some.injEq] at h; exact ⟨c, rfl, h.symm⟩
    | false => rw [hx] at h; exact ih h

theorem Sx.thawed (S : Sx base k env X O P G val ρ A s) : Cx base k env (thaw ρ) (X ++ P) O A s := by
  have hm : ∀ a o, NT o → a ∉ X ++ O ++ P → s.heap.get? a = some o → a ∉ X ++ P ∧ s.heap.get? a = some o := fun a o _ h1 h2 => by
    refine ⟨?_, h2⟩
    simp only [List.mem_append, not_or] at h1 ⊢
    exact ⟨h1.1.1, h1.2⟩
  refine ⟨S.en, S.at_, S.code, S.bas, S.bas.grow.tb S.tb, fun a ha => S.ex a (by simp only [List.mem_append] at ha ⊢; rcases ha with h | h; exact .inl (.inl h); exact .inr h), fun x b hb => ?_⟩
  obtain ⟨⟨m, d⟩, hb', rfl⟩ := thaw_lookup x b ρ hb
  obtain ⟨h1, h2⟩ := S.vars x _ hb'
  refine ⟨_, h1, ?_⟩
  cases m with
  | val => exact Rd.mono hm h2
  | brw =>
    show RdT _ _ _ _
    have h3 : RdT s.heap (X ++ O ++ P) (val x) d := h2
    generalize val x = vx at h3
    cases h3 with
    | of x => exact .of (x.mono hm)
    | list hl r => exact .list hl (r.mono hm)
    | dict hd r e => exact .dict hd (r.mono hm) e
  | own =>
    obtain ⟨a, h3, h4, h5⟩ := h2
    show Rd _ _ _ _
    have ha : a ∉ X ++ P := by
      simp only [List.mem_append, not_or]
      exact ⟨S.disjO a h4, S.disj a (by simp [h4])⟩
    rw [h3]
    cases h5 with
    | list p r => exact .list ha p.isList (r.mono hm)
    | dict hd r e => exact .dict ha hd (r.mono hm) e

/-- an own object of the frame turns in its place -/
theorem Sx.put (S : Sx base k env X O P G val ρ A s) {x : Str} {d₀ d' : PyData} {a : Addr} (hx : ρ.lookup x = some ⟨.own, d₀⟩) (hva : val x = .ref a) (haO : a ∈ O) {h' : Heap} {tk : Nat} (hsb : Heap.SameBut a s.heap h') (hown : OwnT h' (X ++ O ++ P) a d') :
    Sx base k env X O P G val (setR ρ x ⟨.own, d'⟩) A { s with heap := h', toks := tk } ∧ Chg (X ++ O) s { s with heap := h', toks := tk } := by
  have haX : a ∉ X := S.disjO a haO
  have hPa : TB.P ≠ a := S.tb.new (S.fresh a (by simp [haO]))
  have hkp : ∀ b o, b ≠ a → s.heap.get? b = some o → h'.get? b = some o := fun b o hb e => hsb.extBut b o hb e
  have hal : ∃ o, h'.get? a = some o := by
    cases hown with
    | list p r => obtain ⟨o, _, e, _⟩ := p; exact ⟨o, e⟩
    | dict hdd r e => obtain ⟨o, ho, _⟩ := hdd.there; exact ⟨o, ho⟩
  have hL : env.locals ≠ a := fun e => haX (e ▸ locals_mem S)
  refine ⟨⟨S.en, S.at_, ?_, S.tb, S.code, S.hL, S.hC, ?_, ?_, ?_, S.inj, S.fresh, S.disj, S.disjO, ?_, ?_, ?_⟩, ?_⟩
  · exact S.bas.thenB (W := [a]) (.of (fun b o hb e => hkp b o (by simpa using hb) e) (by simpa using hPa)) (by simpa using S.fresh a (by simp [haO]))
  · intro b hb
    by_cases e : b = a
    · rw [e]; exact hal
    · obtain ⟨o, ho⟩ := S.ex b hb; exact ⟨o, hkp b o e ho⟩
  · obtain ⟨m, hm⟩ := S.loc; exact ⟨m, hm.at' fun o e => hkp _ o hL e⟩
  · intro y c hy
    obtain ⟨⟨u, o, ho, q⟩, r⟩ := S.cell y c hy
    exact ⟨⟨u, o, hkp _ o (fun e => haX (e ▸ cell_mem S hy)) ho, q⟩, r⟩
  · intro y b hy
    have hvar : ∀ u, Var s.heap env y u → Var h' env y u := by
      rintro u (⟨a', m, b', d'⟩ | ⟨a', c', b', o, ho, d'⟩ | ⟨a', q, c', b', o, ho, d'⟩)
      · exact .inl ⟨a', m, b'.at' fun o e => hkp _ o hL e, d'⟩
      · exact .inr (.inl ⟨a', c', b', o, hkp _ o (fun e => haX (e ▸ cell_mem S b')) ho, d'⟩)
      · exact .inr (.inr ⟨a', q, c', b', o, hkp _ o (fun e => haX (e ▸ cell_mem S b')) ho, d'⟩)
    rw [setR_lookup] at hy
    by_cases e : y = x
    · rw [if_pos e] at hy; cases hy; subst e
      exact ⟨hvar _ (S.vars y _ hx).1, a, hva, haO, hown⟩
    · rw [if_neg e] at hy
      refine ⟨hvar _ (S.vars y b hy).1, (S.vars y b hy).2.chg (W := [a]) (fun b hb => by rw [List.mem_singleton.mp hb]; simp [haO]) (fun b o _ hb ho => hkp b o (by simpa using hb) ho) fun hmv a' ha' => ?_⟩
      simp only [List.mem_singleton]
      rintro rfl
      cases hbm : b.m with
      | val => exact hmv hbm
      | brw => exact S.brw y b hy hbm a' ha' (by simp [haO])
      | own => exact S.sep y x b _ e hy hbm hx rfl (by rw [ha', hva])
  · intro y b hy hbm a' ha'
    rw [setR_lookup] at hy
    by_cases e : y = x
    · rw [if_pos e] at hy; cases hy; cases hbm
    · rw [if_neg e] at hy; exact S.brw y b hy hbm a' ha'
  · intro y z by_ bz hne hy hmy hz hmz
    rw [setR_lookup] at hy hz
    by_cases e1 : y = x
    · subst e1
      rw [if_neg (fun e => hne e.symm)] at hz
      exact S.sep y z _ bz hne hx rfl hz hmz
    · rw [if_neg e1] at hy
      by_cases e2 : z = x
      · subst e2
        exact S.sep y z by_ _ hne hy hmy hx rfl
      · rw [if_neg e2] at hz
        exact S.sep y z by_ bz hne hy hmy hz hmz
  · exact ⟨fun b o n hb e => hkp b o (by rintro rfl; exact hb (by simp [haO])) e, fun o e => .inl (hkp _ o hPa e), rfl, fun h => h⟩

theorem pairs_any {p p' : Program} {w w' : World} : ∀ {es : List DictEntry} {kvs : List (Int × Value)}, Pairs (intKind p w) es kvs → Pairs (intKind p' w') es kvs
  | _, _, .nil => .nil
  | _, _, .cons a b r => .cons a b (pairs_any r)
theorem dict_any {p p' : Program} {w w' : World} {h : Heap} {a : Addr} {kvs : List (Int × Value)} : h.DictOf (intKind p w) a kvs → h.DictOf (intKind p' w') a kvs
  | ⟨o, es, ep, ho, hx, hd, hk, hp, hn⟩ => ⟨o, es, ep, ho, hx, hd, hk, pairs_any hp, hn⟩
theorem isKey_int (c j : Int) : isKey c (.int j) = decide (j = c) := rfl
theorem any_zip (c : Int) : ∀ (kvs : List (Int × Value)) (xs : List PyData), kvs.length = xs.length → ((kvs.map fun p => PyData.int p.1).zip xs).any (fun p => isKey c p.1) = kvs.any fun kv => decide (kv.1 = c)
  | [], [], _ => rfl
  | (j, v) :: kvs, x :: xs, h => by
    simp only [List.map_cons, List.zip_cons_cons, List.any_cons, isKey_int]
    rw [any_zip c kvs xs (by simpa using h)]
theorem put_map {h : Heap} {OP : List Addr} (c : Int) {v : Value} {d : PyData} (hv : Rd h OP v d) : ∀ (kvs : List (Int × Value)) (xs : List PyData), RdAll h OP (kvs.map (·.2)) xs →
    ∃ xs', RdAll h OP ((kvs.map fun kv => if kv.1 = c then (kv.1, v) else kv).map (·.2)) xs' ∧ ((kvs.map fun p => PyData.int p.1).zip xs).map (fun p => if isKey c p.1 then (p.1, d) else p) = ((kvs.map fun kv => if kv.1 = c then (kv.1, v) else kv).map fun p => PyData.int p.1).zip xs'
  | [], xs, r => ⟨[], .nil, by simp⟩
  | (j, u) :: kvs, xs, r => by
    cases r with
    | cons x r =>
      rename_i e xs
      obtain ⟨xs', r', h'⟩ := put_map c hv kvs xs r
      by_cases hj : j = c
      · refine ⟨d :: xs', ?_, ?_⟩
        · simp only [List.map_cons, hj, if_true]; exact .cons hv r'
        · simp only [List.map_cons, List.zip_cons_cons, isKey_int, hj, decide_true, if_true, h']
      · refine ⟨e :: xs', ?_, ?_⟩
        · simp only [List.map_cons, hj, if_false]; exact .cons x r'
        · simp only [List.map_cons, List.zip_cons_cons, isKey_int, hj, decide_false, Bool.false_eq_true, if_false, h']
theorem put_stored {h : Heap} {OP : List Addr} (c : Int) {v : Value} {d : PyData} (hv : Rd h OP v d) {kvs : List (Int × Value)} {xs : List PyData} (r : RdAll h OP (kvs.map (·.2)) xs) :
    ∃ xs', RdAll h OP ((stored kvs c v).map (·.2)) xs' ∧ putI ((kvs.map fun p => PyData.int p.1).zip xs) c d = ((stored kvs c v).map fun p => PyData.int p.1).zip xs' := by
  have hl : kvs.length = xs.length := by simpa using r.length
  unfold putI stored
  rw [any_zip c kvs xs hl]
  split
  · exact put_map c hv kvs xs r
  · refine ⟨xs ++ [d], ?_, ?_⟩
    · rw [List.map_append]; exact RdAll.append (.cons hv .nil) r
    · rw [List.map_append, List.zip_append (by simpa using hl)]; rfl

set_option maxHeartbeats 1000000 in
theorem xs_step {n : Nat} (hB : Base mg mb base) (hF : FnsOk prog w mg base Φ k) (hX : XS prog w base Φ k wf n) : XS prog w base Φ k wf (n + 1) := by
  intro env ρ st fl ρ' h X O P G val A s E S
  obtain ⟨hE, hT, _, _, hI⟩ := sound_all hB hF n
  cases st with
  | Pass pos =>
    simp only [execS, Option.some.injEq, Prod.mk.injEq] at h
    obtain ⟨rfl, rfl⟩ := h
    exact wpAny_Pass ⟨.refl _ _, rfl, O, val, S, fun a h => .inl h⟩
  | Return v pos =>
    cases v with
    | none => simp [execS] at h
    | some e =>
      simp only [execS, Option.map_eq_some_iff, Prod.mk.injEq] at h
      obtain ⟨d, hd, rfl, rfl⟩ := h
      refine wpAny_Return_some (hE env (thaw ρ) false e d hd (X ++ P) O A s _ E S.thawed fun v s' g r => ⟨.of_go g, v, rfl, ?_⟩)
      have r2 : Rd s'.heap (X ++ P) v d := r
      exact r2.mono fun a o _ h1 h2 => ⟨fun hp => h1 (by simp [hp]), h2⟩
  | If t b o pos =>
    simp only [execS, Option.bind_eq_some_iff] at h
    obtain ⟨c, hc, h⟩ := h
    refine wpAny_If (hT env ρ t c hc _ O A s _ E S.cx fun s₁ g₁ => ?_)
    cases c with
    | true => exact wpAny_mono (seq_sound hX b ρ fl ρ' h O val s₁ (S.go g₁)) (fun f s₂ p => p.trans (.of_go g₁) fun a h => .inl h) fun _ _ e => e
    | false => exact wpAny_mono (seq_sound hX o ρ fl ρ' h O val s₁ (S.go g₁)) (fun f s₂ p => p.trans (.of_go g₁) fun a h => .inl h) fun _ _ e => e
  | Assign ts v pos =>
    simp only [execS] at h
    split at h
    · rename_i x xp
      split at h
      · rename_i hk
        simp only [Option.map_eq_some_iff, Prod.mk.injEq] at h
        obtain ⟨d, hd, rfl, rfl⟩ := h
        rcases swaps_eq v x xp pos.line env with hs | ⟨hs, elt, gens, sc, cpos, rfl⟩ | hs
        · refine wpAny_Assign_Name ?_ hs
          cases hfr : frM x v d with
          | val =>
            refine hE env ρ false v d hd _ O A s _ E S.cx fun u s₁ g₁ r₁ => ?_
            refine bind_sound (S.go g₁) hk r₁ (.of_go g₁) fun s' val' c' S' _ => ⟨c', rfl, O, val', S', fun a h => .inl h⟩
          | own =>
            cases n with
            | zero => simp [evalE] at hd
            | succ n =>
              refine fresh_sound hB (sound_all hB hF n).1 hd (by unfold frM at hfr; split at hfr <;> first | exact hfr | cases hfr) S.cx fun a s₁ g₁ ha ho => ?_
              have hk2 : env.kindOf x = some .local ∨ env.kindOf x = some .cell := by simpa using hk
              have hax : ∃ o, s₁.heap.get? a = some o := by
                cases ho with
                | list p r => obtain ⟨o, _, e, _⟩ := p; exact ⟨o, e⟩
                | dict hdd r e => obtain ⟨o, ho, _⟩ := hdd.there; exact ⟨o, ho⟩
              have hnot : a ∉ X ++ O ++ P := fun hm => by obtain ⟨o, e⟩ := S.ex a hm; rw [ha] at e; cases e
              have hbn : base.get? a = none := S.bas.old ha
              have ho2 : OwnT s₁.heap (X ++ (a :: O) ++ P) a d := by
                have hm : ∀ b o, NT o → b ∉ a :: (X ++ O ++ P) → s₁.heap.get? b = some o → b ∉ X ++ (a :: O) ++ P ∧ s₁.heap.get? b = some o := fun b o _ h1 h2 => by
                  refine ⟨?_, h2⟩
                  simp only [List.mem_append, List.mem_cons, not_or] at h1 ⊢
                  exact ⟨⟨h1.2.1.1, h1.1, h1.2.1.2⟩, h1.2.2⟩
                cases ho with
                | list p r => exact .list p (r.mono hm)
                | dict hdd r e => exact .dict hdd (r.mono hm) e
              refine store_sound (O' := a :: O) (b := ⟨.own, d⟩) (S.go g₁) hk2 (fun b h => .tail _ h) ?_ ?_ ⟨a, rfl, .head _, ho2⟩ (by intro e; cases e) fun s' c' S' => ?_
              · intro b hb
                rcases List.mem_cons.mp hb with rfl | hb
                · exact .inr ⟨hnot, hbn, hax⟩
                · exact .inl hb
              · intro y b' hy
                have q := S.protect ha g₁.ext hy
                exact ⟨q.1, q.2.1, fun _ => q.2.2⟩
              · refine ⟨(Chg.of_go (W := X ++ O) g₁).trans c' fun a h => .inl (by simp [h]), rfl, a :: O, _, S', ?_⟩
                intro b hb
                rcases List.mem_cons.mp hb with rfl | hb
                · exact .inr ha
                · exact .inl hb
          | brw => unfold frM at hfr; split at hfr <;> cases v <;> cases d <;> simp [isFresh] at hfr <;> (first | contradiction | (rename_i op _ _ _; cases op <;> simp [isFresh] at hfr) | skip)
        · have hiff : frM x (.ListComp elt gens sc cpos) d = .val := by unfold frM; split <;> cases d <;> rfl
          rw [hiff]
          cases n with
          | zero => simp [evalE] at hd
          | succ n =>
            obtain ⟨hE', hT', _, _, hI'⟩ := sound_all hB hF n
            simp only [evalE] at hd
            split at hd
            · rename_i tgt iter ifs asy
              split at hd
              · rename_i hc
                simp only [Bool.and_eq_true, beq_iff_eq] at hc
                obtain ⟨⟨rfl, hcs⟩, htg⟩ := hc
                simp only [Option.bind_eq_some_iff, Option.map_eq_some_iff] at hd
                obtain ⟨xs, hxs, ys, hys, rfl⟩ := hd
                rw [exec_Assign_Name_used _ _ _ _ hs]
                refine wpAny_bind (wpAny_standAt (wpAny_bind ?_))
                show wpAny _ A (do let _ ← comprehension (.ListComp elt [⟨tgt, iter, ifs, 0⟩] sc cpos) sc env _ (newList []) false (eval iter env) (some (assign (.Name x xp) env))) _ _ s
                refine wpAny_bind (wpAny_mono (comp_sound (Q := fun _ s' => Post base k env X P G A O s .next (setR ρ x ⟨.val, .list ys⟩) .next s') (use := some (assign (.Name x xp) env)) hE' hT' hI' hcs htg hxs hys S.cx fun D C s' g hD hC hDC hr _ hn => ?_) (fun _ s' hq => wpAny_pure (wpAny_pure hq)) fun _ _ e => e)
                have hk2 : env.kindOf x = some .local ∨ env.kindOf x = some .cell := by simpa using hk
                obtain ⟨mC, hnC⟩ := hn
                have hCx : ∃ o, s'.heap.get? C = some o := by obtain ⟨o, _, _, e, _⟩ := hnC; exact ⟨o, e⟩
                have hCnot : C ∉ X ++ O ++ P := fun hm => by obtain ⟨o, e⟩ := S.ex C hm; rw [hC] at e; cases e
                have hCb : base.get? C = none := S.bas.old hC
                have hCO : ∀ b ∈ C :: O, b ∈ O ∨ s.heap.get? b = none := by
                  intro b hb
                  rcases List.mem_cons.mp hb with rfl | hb
                  · exact .inr hC
                  · exact .inl hb
                refine wpAny_assign_Name (store_sound (O' := C :: O) (b := ⟨.val, .list ys⟩) (S.go g) hk2 (fun b h => .tail _ h) ?_ ?_ ?_ (by intro e; cases e) fun s₃ c₃ S₃ => ?_)
                · intro b hb
                  rcases List.mem_cons.mp hb with rfl | hb
                  · exact .inr ⟨hCnot, hCb, hCx⟩
                  · exact .inl hb
                · intro y b' hy
                  have q := S.protect hC g.ext hy
                  exact ⟨q.1, q.2.1, (fun h => by cases h)⟩
                · show Rd _ _ _ _
                  refine hr.mono fun a o _ h1 h2 => ⟨?_, h2⟩
                  simp only [List.mem_append, List.mem_cons, not_or] at h1 ⊢
                  exact ⟨⟨h1.2.1.1, h1.1, h1.2.1.2⟩, h1.2.2⟩
                · have hnC3 : s₃.heap.Ns C mC := hnC.at' fun o e => c₃.keep _ o (.inr (S.tb.new hCb).symm) (fun h => hCnot (by simp [h])) e
                  refine ⟨mC, hnC3, fun h' hsb => ?_⟩
                  have hlt : ∀ y b', (setR ρ x ⟨.val, .list ys⟩).lookup y = some b' → b'.m ≠ .val → (if y = x then Value.ref D else val y) ≠ .ref C := by
                    intro y b' hy hm
                    rw [setR_lookup] at hy
                    by_cases e : y = x
                    · rw [if_pos e] at hy; cases hy; exact absurd rfl hm
                    · rw [if_neg e] at hy
                      simp only [e, if_false]
                      intro he
                      have q := S.protect hC g.ext hy
                      cases hbm : b'.m with
                      | val => exact hm hbm
                      | brw => exact q.2.1 hbm C he (by simp)
                      | own => exact q.2.2 hbm he.symm
                  have S4 := S₃.drop (s' := { s₃ with heap := h' }) (fun h => hCnot (by simp [h])) hlt (fun a o ha ho => hsb.extBut a o ha ho)
                  exact ⟨((Chg.of_go (W := X ++ O) g).trans c₃ fun a h => .inl (by simp [h])).same hsb hC (S.tb.new hCb), rfl, O, _, S4, fun a h => .inl h⟩
              · cases hd
            · cases hd
        · rw [hs] at hd; cases hd
      · cases h
    · rename_i o i ipos
      split at h
      · rename_i x xp
        split at h
        · rename_i hnc
          simp only [Bool.and_eq_true, Bool.not_eq_true'] at hnc
          obtain ⟨hnc, hdb⟩ := hnc
          split at h
          · rename_i D hx
            simp only [Option.bind_eq_some_iff] at h
            obtain ⟨d, hd, c, hc, h⟩ := h
            split at h
            · rename_i c
              split at h
              · rename_i hsz
                simp only [Option.some.injEq, Prod.mk.injEq] at h
                obtain ⟨rfl, rfl⟩ := h
                refine wpAny_Assign_Subscript ?_ (by cases v <;> first | rfl | cases hnc)
                obtain ⟨a, hva, haO, hown⟩ := S.own_ref hx rfl
                refine hE env ρ false v d hd _ O A s _ E S.cx fun u s₁ g₁ r₁ => ?_
                refine wpAny_Name (load_sound S.en ((S.go g₁).vars x _ hx).1 ?_) hdb
                refine hE env ρ true i _ hc _ O A s₁ _ E (S.go g₁).cx fun y s₂ g₂ r₂ => ?_
                obtain ⟨t, rfl⟩ := RdT.int_inv r₂
                rw [hva]
                have g := g₁.trans g₂
                have S₂ := S.go g
                have r1 : Rd s₂.heap (X ++ O ++ P) u d := Rd.ext g₂.ext r₁
                have hown₂ := hown.ext g.ext
                cases hown₂ with
                | dict hdd r e =>
                  rename_i kvs xs
                  have hlen : kvs.length ≤ sizeLine := by
                    have hl : kvs.length = xs.length := by simpa using r.length
                    rw [e] at hsz
                    simpa [hl] using hsz
                  refine wpAny_setItem_pairs (intKind_is prog w c t) (hdd.2 prog w) (fun h' hm' hsb => ?_) hlen
                  have hdi : DictI h' a (stored kvs c u) := ⟨hdd.1, fun p' w' => dict_any hm'⟩
                  have hm : ∀ b o, NT o → b ∉ X ++ O ++ P → s₂.heap.get? b = some o → b ∉ X ++ O ++ P ∧ h'.get? b = some o := fun b o _ h1 h2 => ⟨h1, hsb.extBut b o (by rintro rfl; exact h1 (by simp [haO])) h2⟩
                  obtain ⟨xs', r', e'⟩ := put_stored c (r1.mono hm) (r.mono hm)
                  obtain ⟨S₃, c₃⟩ := S₂.put (d' := .dict (putI D c d)) hx hva haO hsb (tk := s₂.toks + 1) (.dict hdi r' (by rw [e, e']))
                  exact ⟨(Chg.of_go g).trans c₃ fun a h => .inl h, rfl, O, val, S₃, fun a h => .inl h⟩
              · cases h
            · cases h
          · cases h
        · cases h
      · cases h
    · cases h
  | Expr v pos =>
    simp only [execS] at h
    split at h
    · rename_i f args kws cpos
      split at h
      · rename_i o attr apos e
        split at h
        · rename_i x xp
          split at h
          · rename_i hcond
            simp only [Bool.and_eq_true, beq_iff_eq, Bool.not_eq_true'] at hcond
            obtain ⟨⟨rfl, hline⟩, hdb⟩ := hcond
            split at h
            · rename_i xs hx
              simp only [Option.bind_eq_some_iff] at h
              obtain ⟨d, hd, h⟩ := h
              split at h
              · rename_i hsz
                simp only [Option.some.injEq, Prod.mk.injEq] at h
                obtain ⟨rfl, rfl⟩ := h
                have hi : interactive env = false := by unfold interactive; rw [S.en.kind]; rfl
                have hst := not_star hd [] env
                have htrees : backTo cpos (starEach [e] env) = [(false, eval e env)] := by rw [hst]; rfl
                refine wpAny_Expr (wpAny_Call_append rfl (by rw [htrees]; rfl) (by simpa using hline) htrees ?_) hi rfl
                obtain ⟨a, hva, haO, hown⟩ := S.own_ref hx rfl
                refine wpAny_Name (load_sound S.en (S.vars x _ hx).1 ?_) hdb
                rw [hva]
                cases hown with
                | list hpl hrd =>
                  rename_i vs
                  refine ⟨a, vs, rfl, hpl, hE env ρ false e d hd _ O A s _ E S.cx fun y s₁ g₁ r₁ => ?_⟩
                  have hlen : vs.size = xs.length := by have := hrd.length; simpa using this
                  refine list_append_plainL (g₁.ext.plainL hpl) (fun h' hpl' hsb => ?_) (by omega)
                  have hm : ∀ b o, NT o → b ∉ X ++ O ++ P → s₁.heap.get? b = some o → b ∉ X ++ O ++ P ∧ h'.get? b = some o := fun b o _ h1 h2 => ⟨h1, hsb.extBut b o (by rintro rfl; exact h1 (by simp [haO])) h2⟩
                  have r2 : Rd s₁.heap (X ++ O ++ P) _ d := r₁
                  obtain ⟨S₃, c₃⟩ := (S.go g₁).put (d' := .list (xs ++ [d])) (tk := s₁.toks) hx hva haO hsb (.list hpl' (by rw [Array.toList_push]; exact RdAll.append (.cons (r2.mono hm) .nil) ((hrd.ext g₁.ext).mono hm)))
                  exact ⟨(Chg.of_go g₁).trans c₃ fun a h => .inl h, rfl, O, val, S₃, fun a h => .inl h⟩
              · cases h
            · cases h
          · cases h
        · cases h
      · cases h
    · cases h
  | For tgt iter body orelse pos =>
    simp only [execS] at h
    split at h
    · split at h
      · rename_i htg
        simp only [Option.bind_eq_some_iff] at h
        obtain ⟨xs, hxs, h⟩ := h
        obtain ⟨hset, hiter⟩ := hI env ρ false iter xs hxs
        refine wpAny_For (hiter _ O A s _ E S.cx fun I fp Pp St s₂ it => ?_) hset
        have hIX : I ∉ X ++ O ++ P := fun hm => by obtain ⟨o, ho⟩ := S.ex I hm; rw [it.fresh] at ho; cases ho
        obtain ⟨oI, hoI⟩ := it.live 0 _ it.st
        cases tgt with
        | Name x xp =>
          have hIb : base.get? I = none := S.bas.old it.fresh
          have hPI : TB.P ≠ I := S.tb.new hIb
          have tb₂ : Tb s₂.heap := it.go.ext.grow.tb (S.bas.grow.tb S.tb)
          have hfpP : ∀ b ∈ fp, b ≠ TB.P := fun b hb => by
            by_cases hbI : b = I
            · subst hbI; exact hPI.symm
            · obtain ⟨o, ho, hc, _⟩ := it.foot b hb hbI
              exact tb₂.ne ho (.ty hc)
          have hPW : TB.P ∉ I :: (X ++ O) := fun hm => by
            rcases List.mem_cons.mp hm with h | h
            · exact hPI h
            · have := S.fresh _ h
              obtain ⟨ps, e⟩ := S.tb
              rw [e] at this; cases this
          refine codeAny_forLoop (prog := prog) (w := w)
            (fun m s₁ => ∃ (i : Nat) (ρi : Rho) (Oi : List Addr) (vali : Str → Value), m = xs.length + 1 - i ∧ i ≤ xs.length ∧ forGo (fun ρ d => (bindT env.kindOf (.Name x xp) d ρ).bind (runB (execS Φ wf n env.kindOf) body)) ρi (xs.drop i) = some (fl, ρ') ∧
              Sx base k env X Oi (I :: P) (I :: G) vali ρi A s₁ ∧ (∀ a ∈ Oi, a ∈ O ∨ s₂.heap.get? a = none) ∧ ExtB (I :: (X ++ O)) s₂.heap s₁.heap ∧ s₁.os = s₂.os ∧ (AllBare s₂.gens → AllBare s₁.gens) ∧ St i s₁.heap) ?_ (xs.length + 1)
            ⟨0, ρ, O, val, rfl, Nat.zero_le _, by simpa using h, S.guard it.go it.fresh ⟨oI, hoI⟩, fun a h => .inl h, (Ext.refl _).toB, rfl, fun h => h, it.st⟩
          rintro m s₁ ⟨i, ρi, Oi, vali, rfl, hi, hgo, Si, hOi, hkeep, hos, hgen, hst⟩
          have hfoot : ∀ b ∈ fp, b ≠ I → (∃ o, s₂.heap.get? b = some o) ∧ b ∉ X ++ O ∧ b ∉ X ++ Oi := by
            intro b hb hbI
            obtain ⟨o, ho, _, hOP⟩ := it.foot b hb hbI
            have hOP := hOP rfl
            simp only [List.mem_append, not_or] at hOP ⊢
            refine ⟨⟨o, ho⟩, hOP.1, hOP.1.1, fun hm => ?_⟩
            rcases hOi b hm with h | h
            · exact hOP.1.2 h
            · rw [ho] at h; cases h
          have chgs : ∀ s₃ : Shared, ExtB (I :: (X ++ O)) s₂.heap s₃.heap → s₃.os = s₂.os → (AllBare s₂.gens → AllBare s₃.gens) → Chg (X ++ O) s s₃ := fun s₃ h1 h2 h3 =>
            ⟨fun b o n hb e => h1.get b o n (fun hm => by rcases List.mem_cons.mp hm with h | h; rw [h, it.fresh] at e; cases e; exact hb h) (it.go.ext.get b o n e), it.go.ext.grow.trans h1.grow, h2.trans it.go.os, fun h => h3 (it.go.gens h)⟩
          have owns : ∀ O3 : List Addr, (∀ a ∈ O3, a ∈ O ∨ s₂.heap.get? a = none) → ∀ a ∈ O3, a ∈ O ∨ s.heap.get? a = none := fun O3 h a ha => (h a ha).imp id fun e => it.go.ext.old e
          by_cases hlt : i < xs.length
          · refine it.walks.item i _ _ _ hlt hst fun v h₂ tk₂ hPv hst₂ hk₂ => ?_
            have hxi : xs[i]? = some xs[i] := List.getElem?_eq_getElem hlt
            rw [List.drop_eq_getElem_cons hlt] at hgo
            simp only [forGo, Option.bind_eq_some_iff] at hgo
            obtain ⟨⟨f1, ρ1⟩, ⟨ρb, hρb, hbody⟩, hgo⟩ := hgo
            simp only [bindT] at hρb
            split at hρb
            · rename_i hkx
              cases hρb
              have hk' : ∀ a o, a ≠ I → s₁.heap.get? a = some o → h₂.get? a = some o := fun a o ha ho => hk₂ a o (by simpa using ha) ho
              have Sj : Sx base k env X Oi (I :: P) (I :: G) vali ρi A { s₁ with heap := h₂, toks := tk₂ } := Si.turn hk' (it.live _ _ hst₂) hIb
              have hv : Rd h₂ (X ++ Oi ++ (I :: P)) v xs[i] := by
                refine (it.items i v _ hPv hxi).mono fun a o nt ha ho => ?_
                simp only [List.mem_cons, List.mem_append, not_or] at ha ⊢
                refine ⟨⟨⟨ha.2.1.1, fun hm => ?_⟩, ha.1, ha.2.2⟩, hk' a o ha.1 (hkeep.get a o (.inl nt) (by simp only [List.mem_cons, List.mem_append, not_or]; exact ⟨ha.1, ha.2.1⟩) ho)⟩
                rcases hOi a hm with h | h
                · exact ha.2.1.2 h
                · rw [ho] at h; cases h
              refine wpAny_assign_Name (bind_sound Sj hkx hv (.refl _ _) fun s₃ val₃ c₃ S₃ cX => ?_)
              -- the turn's body
              refine wpAny_mono (seq_sound hX body _ f1 ρ1 hbody Oi val₃ s₃ S₃) (fun f s₄ p => ?_) fun _ _ e => e
              have p2 := p.trans (O := Oi) c₃ fun a h => .inl h
              obtain ⟨c4, p4⟩ := p2
              have hk4 : ExtB (I :: (X ++ O)) s₂.heap s₄.heap := by
                refine ⟨fun b o nt hbw e => ?_, (hkeep.grow.trans fun o e => .inl (hk' _ o hPI e)).trans c4.grow⟩
                have hbI : b ≠ I := fun h => hbw (by simp [h])
                have hb : b ∉ X ++ O := fun h => hbw (.tail _ h)
                refine c4.keep b o nt (fun hm => ?_) (hk' b o hbI (hkeep.get b o nt hbw e))
                rcases List.mem_append.mp hm with h | h
                · exact hb (by simp [h])
                · rcases hOi b h with h | h
                  · exact hb (by simp [h])
                  · rw [h] at e; cases e
              have hos4 : s₄.os = s₂.os := c4.os.trans hos
              have hgen4 : AllBare s₂.gens → AllBare s₄.gens := fun h => c4.gens (hgen h)
              have hIXO : I ∉ X ++ Oi := fun h => Si.disj I h (.head _)
              have hst4 : St (i + 1) s₄.heap := it.walks.frame _ _ _ hst₂ fun b hb o e => by
                refine c4.keep b o (.inr (hfpP b hb)) ?_ e
                by_cases hbI : b = I
                · rw [hbI]; exact hIXO
                · exact (hfoot b hb hbI).2.2
              have hO4 : ∀ O3 : List Addr, (∀ a ∈ O3, a ∉ X) → (∀ a ∈ O3, a ∈ Oi ∨ h₂.get? a = none) → ∀ a ∈ O3, a ∈ O ∨ s₂.heap.get? a = none := by
                intro O3 hX3 h3 a ha
                rcases h3 a ha with h | h
                · exact hOi a h
                · by_cases hao : a ∈ O
                  · exact .inl hao
                  · refine .inr ?_
                    cases e : s₂.heap.get? a with
                    | none => rfl
                    | some o =>
                      by_cases haI : a = I
                      · obtain ⟨oi, hoi⟩ := it.live _ _ hst₂; rw [haI, hoi] at h; cases h
                      · obtain ⟨o1, e1⟩ := hkeep.there (b := a) (by simp only [List.mem_cons, List.mem_append, not_or]; exact ⟨haI, hX3 a ha, hao⟩) e
                        have := hk' a o1 haI e1
                        rw [h] at this; cases this
              cases f1 with
              | next =>
                obtain ⟨hf, O3, v3, S3, hO3⟩ := p4
                subst hf
                exact ⟨xs.length + 1 - (i + 1), by omega, i + 1, ρ1, O3, v3, rfl, hlt, hgo, S3, hO4 O3 S3.disjO hO3, hk4, hos4, hgen4, hst4⟩
              | ret d =>
                obtain ⟨v', hf, p3⟩ := p4
                subst hf
                simp only [Option.some.injEq, Prod.mk.injEq] at hgo
                obtain ⟨rfl, rfl⟩ := hgo
                exact ⟨chgs s₄ hk4 hos4 hgen4, v', rfl, p3.mono fun a o _ ha ho => ⟨fun h => ha (.tail _ h), ho⟩⟩
            · cases hρb
          · have hin : i = xs.length := by omega
            subst hin
            refine it.walks.done _ _ _ hst fun h₂ tk₂ hk₂ => ?_
            rw [List.drop_length] at hgo
            simp only [forGo, Option.some.injEq, Prod.mk.injEq] at hgo
            obtain ⟨rfl, rfl⟩ := hgo
            have hk' : ∀ a o, a ≠ I → s₁.heap.get? a = some o → h₂.get? a = some o := fun a o ha ho => hk₂ a o (by simpa using ha) ho
            have hdrop : Sx base k env X Oi P G vali ρi A { s₁ with heap := h₂, toks := tk₂ } := Si.leave hk' hIb (fun h => hIX (by simp [h]))
            exact wpAny_execs_nil ⟨chgs _ (hkeep.trans (.of (fun b o hb e => hk' b o (fun h => hb (by simp [h])) e) hPW)) hos hgen, rfl, Oi, vali, hdrop, owns Oi hOi⟩
        | _ => simp [tgtT] at htg
      · cases h
    · cases h
  | _ => simp [execS] at h
end
end Mine
set_option autoImplicit false
set_option linter.unusedSectionVars false
set_option linter.unusedVariables false
set_option linter.unusedSimpArgs false
namespace Mine
open PySem PySem.Spec PySem.Calls PyProof.Rows
variable [TB]

structure Def where
  name : Str
  params : Arguments
  fl : List Bool
  body : List Stmt
  scope : Scope
noncomputable def Def.names (d : Def) : List Str := d.params.args.map (·.arg)

noncomputable def entry (d : Def) (ds : List PyData) : Rho := (d.names.zip (d.fl.zip ds)).map fun p => (p.1, ⟨if p.2.1 then .brw else .val, p.2.2⟩)
noncomputable def retOf (p : Fl × Rho) : Option PyData := match p.1 with | .ret d => some d | _ => none
noncomputable def callD (Φ : Fns) (wf n : Nat) (d : Def) (ds : List PyData) : Option PyData :=
  if ds.length = d.names.length then (seqGo (execS Φ wf n (fun x => d.scope.names.lookup x)) (entry d ds) d.body).bind retOf else none

structure DefOk (d : Def) : Prop where
  bind : ∀ pm cd doc (args : List Value), args.length = d.names.length → bindArgs (docDef d.name d.params d.body d.scope pm cd doc) ⟨args, []⟩ = pure (d.names.zip args)
  kind : d.scope.kind = .function
  co : d.scope.isCoroutine = false
  gen : d.scope.isGenerator = false
  fl : d.fl.length = d.names.length
  nodup : d.names.Nodup
  par : ∀ x ∈ d.names, d.scope.names.lookup x = some .local ∨ d.scope.names.lookup x = some .cell
  nofree : ∀ x, d.scope.names.lookup x ≠ some .free

structure FnAt (mg : Str → Option Value) (base : Heap) (d : Def) (a : Addr) : Prop where
  at_ : mg d.name = some (.ref a)
  obj : ∃ o pm cd doc, base.get? a = some o ∧ o.data = .func (docDef d.name d.params d.body d.scope pm cd doc) ∧ base.CodeRec cd d.name ∧ (d.scope.names.lookup (Str.ofString "all") = some .globalImplicit → ∃ c, cd = .ref c ∧ base.IsCode c TB.P #[] ∧ base.TableAt c TB.P #[])

theorem cells_some {x : Str} : ∀ (names : List (Str × NameKind)) (n : Nat) (acc : List (Str × Addr)), names.lookup x = some .cell ∨ (acc.lookup x).isSome = true → ((cellsFrom n names acc).lookup x).isSome = true
  | [], _, _, h => h.elim (fun e => by cases e) id
  | (y, kd) :: r, n, acc, h => by
    unfold cellsFrom
    by_cases hk : (kd == .cell) = true
    · rw [if_pos hk]
      refine cells_some r (n + 1) ((y, n) :: acc) ?_
      by_cases hy : (x == y) = true
      · exact .inr (by rw [List.lookup_cons, hy]; rfl)
      · refine h.imp (fun e => ?_) fun e => ?_
        · rw [List.lookup_cons] at e; simpa only [hy] using e
        · rw [List.lookup_cons]; simpa only [hy] using e
    · rw [if_neg hk]
      refine cells_some r n acc ?_
      by_cases hy : (x == y) = true
      · refine .inr (h.elim (fun e => ?_) id)
        rw [List.lookup_cons, hy] at e
        exact absurd (by rw [Option.some.inj e]; rfl) hk
      · refine h.imp (fun e => ?_) id
        rw [List.lookup_cons] at e; simpa only [hy] using e

theorem bindL_get (K : Kd) {x : Str} {v : Value} (hx : K x = some .local) : ∀ (bs : List (Str × Value)) (m : Str → Option Value), (bs.map (·.1)).Nodup → ((x, v) ∈ bs ∨ (m x = some v ∧ x ∉ bs.map (·.1))) → bindL K bs m x = some v
  | [], m, _, h => by rcases h with h | h; cases h; exact h.1
  | (y, u) :: r, m, hn, h => by
    simp only [List.map_cons, List.nodup_cons] at hn
    unfold bindL
    refine bindL_get K hx r _ hn.2 ?_
    rcases h with h | h
    · rcases List.mem_cons.mp h with e | h
      · cases e
        right
        exact ⟨by rw [if_pos hx]; simp, hn.1⟩
      · exact .inl h
    · right
      simp only [List.map_cons, List.mem_cons, not_or] at h
      refine ⟨?_, h.2.2⟩
      split
      · simp only [h.2.1, if_false]; exact h.1
      · exact h.1
theorem bindC_get (K : Kd) {x : Str} {v : Value} (hx : K x = some .cell) : ∀ (bs : List (Str × Value)) (m : Str → Option Value), (bs.map (·.1)).Nodup → ((x, v) ∈ bs ∨ (m x = some v ∧ x ∉ bs.map (·.1))) → PySem.bindC K bs m x = some v
  | [], m, _, h => by rcases h with h | h; cases h; exact h.1
  | (y, u) :: r, m, hn, h => by
    simp only [List.map_cons, List.nodup_cons] at hn
    unfold PySem.bindC
    refine bindC_get K hx r _ hn.2 ?_
    rcases h with h | h
    · rcases List.mem_cons.mp h with e | h
      · cases e
        right
        refine ⟨?_, hn.1⟩
        rw [if_neg (by rw [hx]; intro e; cases e)]; simp
      · exact .inl h
    · right
      simp only [List.map_cons, List.mem_cons, not_or] at h
      refine ⟨?_, h.2.2⟩
      split
      · exact h.1
      · simp only [h.2.1, if_false]; exact h.1

theorem mem_zip_of {names : List Str} : ∀ {fl : List Bool} {args : List Value} {ds : List PyData} {h : Heap} {P : List Addr} {x : Str} {b : Bd}, RdXs h P fl args ds → names.length = args.length →
    ((names.zip (fl.zip ds)).map fun p => (p.1, (⟨if p.2.1 then Md.brw else Md.val, p.2.2⟩ : Bd))).lookup x = some b → ∃ v, (x, v) ∈ names.zip args ∧ ((b.m = .val ∧ Rd h P v b.d) ∨ (b.m = .brw ∧ RdT h P v b.d)) := by
  induction names with
  | nil => intro fl args ds h P x b _ _ hb; simp at hb
  | cons y names ih =>
    intro fl args ds h P x b r hl hb
    cases r with
    | nil => simp at hl
    | @cons c fl v args d ds hx r =>
      simp only [List.zip_cons_cons, List.map_cons, List.lookup_cons] at hb
      cases hxy : x == y with
      | true =>
        rw [hxy] at hb
        simp only [Option.some.injEq] at hb
        subst hb
        have := eq_of_beq hxy
        subst this
        refine ⟨v, by simp, ?_⟩
        cases c with
        | true => exact .inr ⟨rfl, hx⟩
        | false => exact .inl ⟨rfl, hx⟩
      | false =>
        rw [hxy] at hb
        obtain ⟨u, hu, q⟩ := ih r (by simpa using hl) hb
        exact ⟨u, by simp only [List.zip_cons_cons, List.mem_cons]; exact .inr hu, q⟩

section
variable {prog : Program} {w : World} {mg mb : Str → Option Value} {base : Heap} {Φ : Fns} {k wf : Nat}

theorem xs_all (hB : Base mg mb base) (hF : FnsOk prog w mg base Φ k) : ∀ n, XS prog w base Φ k wf n
  | 0 => fun _ _ _ _ _ h => by simp [execS] at h
  | n + 1 => xs_step hB hF (xs_all hB hF n)

theorem nodup_zip {names : List Str} {args : List Value} (hn : names.Nodup) : ((names.zip args).map (·.1)).Nodup := by
  induction names generalizing args with
  | nil => simp
  | cons y names ih =>
    cases args with
    | nil => simp
    | cons u args =>
      simp only [List.nodup_cons] at hn
      simp only [List.zip_cons_cons, List.map_cons, List.nodup_cons]
      refine ⟨fun h => ?_, ih hn.2⟩
      obtain ⟨p, hp, e⟩ := List.mem_map.mp h
      exact hn.1 (e ▸ (List.of_mem_zip hp).1)
theorem lookup_of_mem {x : Str} {v : Value} : ∀ {l : List (Str × Value)}, (l.map (·.1)).Nodup → (x, v) ∈ l → l.lookup x = some v
  | [], _, hv => by cases hv
  | (y, u) :: l, hnd, hv => by
    simp only [List.map_cons, List.nodup_cons] at hnd
    rcases List.mem_cons.mp hv with e | hv'
    · cases e; simp [List.lookup_cons]
    · have : x ≠ y := by rintro rfl; exact hnd.1 (List.mem_map.mpr ⟨(x, v), hv', rfl⟩)
      rw [List.lookup_cons, beq_eq_false_iff_ne.mpr this]
      exact lookup_of_mem hnd.2 hv'

theorem code_ext (hB : Base mg mb base) {h : Heap} (hx : Ext base h) {cd : Value} {q : Str} : base.CodeRec cd q → h.CodeRec cd q
  | ⟨c, o, vs, t, e, g, hd, r⟩ => ⟨c, o, vs, t, e, hx.get c o (.inr (by rintro rfl; rw [hB.tb0] at g; cases g; cases hd; simp at r)) g, hd, r⟩
theorem def_sound (hB : Base mg mb base) (hF : FnsOk prog w mg base Φ k) {d : Def} (hd : DefOk d) {a : Addr} (hf : FnAt mg base d a) {n : Nat} {A : Around} {s : Shared} {args : List Value} {ds : List PyData} {r : PyData} {P : List Addr} {R : Result → Shared → Prop}
    (hA : At A (k + 1)) (hx : Ext base s.heap) (hP : ∀ a ∈ P, ∃ o, s.heap.get? a = some o) (hr : RdXs s.heap P d.fl args ds) (hc : callD Φ wf n d ds = some r) (hQ : ∀ v s', Go s s' → Rd s'.heap P v r → R (.ok (.ret v)) s') :
    codeAny (model prog w) A (.call (.ref a) ⟨args, []⟩) R s := by
  unfold callD at hc
  split at hc
  · rename_i hlen
    simp only [Option.bind_eq_some_iff] at hc
    obtain ⟨⟨fl1, ρ1⟩, hex, hret⟩ := hc
    obtain ⟨o, pm, cd, doc, ho, hod, hcr, hall⟩ := hf.obj
    have hla : args.length = d.names.length := by rw [hr.length, hlen]
    have hdep := hA.depth
    have hun := hA.units
    refine codeAny_call_cells (binds := d.names.zip args) (by omega) (hx.nt (.func hod) ho) hod (hx.nolimit hB.nolimit) (code_ext hB hx hcr) rfl (hd.bind pm cd doc args hla) rfl ?_ ?_ hd.co hd.gen hd.kind
    · intro p hp
      have hpn : p.1 ∈ d.names := (List.of_mem_zip hp).1
      rcases hd.par _ hpn with h | h
      · exact .inl h
      · exact .inr ⟨h, cells_some _ _ _ (.inl h)⟩
    · intro s₁ ic
      generalize hL : s.heap.objs.size = L at *
      generalize henv : callEnvC (docDef d.name d.params d.body d.scope pm cd doc) L a = env at *
      have e1 : env.locals = L := by rw [← henv]; rfl
      have e2 : env.scope = d.scope := by rw [← henv]; rfl
      have e3 : env.cells = cellsFrom (L + 1) d.scope.names [] := by rw [← henv]; rfl
      have e4 : env.kindOf = fun x => d.scope.names.lookup x := by funext x; unfold Env.kindOf; rw [e2]
      have e5 : env.globals = mainGlobals := by rw [← henv]; rfl
      have e6 : env.builtins = builtinsNs := by rw [← henv]; rfl
      have keep := ic.toInCall.keep
      have hfr : s.heap.objs.size ≤ env.locals := ic.toInCall.fresh
      have old : ∀ b, (∃ o, s.heap.get? b = some o) → b < env.locals := fun b ⟨o, ho⟩ => Nat.lt_of_lt_of_le (Heap.lt_size ho) hfr
      let X : List Addr := env.locals :: d.scope.names.filterMap fun p => env.cells.lookup p.1
      have hXge : ∀ c ∈ X, env.locals ≤ c := by
        intro c hc
        rcases List.mem_cons.mp hc with rfl | hc
        · exact Nat.le_refl _
        · obtain ⟨p, _, hp⟩ := List.mem_filterMap.mp hc
          exact Nat.le_of_lt (ic.above p.1 c (mem_of_lookup hp))
      have hXold : ∀ b, (∃ o, s.heap.get? b = some o) → b ∉ X := fun b hb hm => Nat.lt_irrefl _ (Nat.lt_of_lt_of_le (old b hb) (hXge b hm))
      have hmono : ∀ b o', NT o' → b ∉ P → s.heap.get? b = some o' → b ∉ X ++ [] ++ P ∧ s₁.heap.get? b = some o' := fun b o' _ h1 h2 => by
        refine ⟨?_, keep b o' h2⟩
        simp only [List.append_nil, List.mem_append, not_or]
        exact ⟨hXold b ⟨o', h2⟩, h1⟩
      have S : Sx base k env X [] P [] (fun x => ((d.names.zip args).lookup x).getD .none) (entry d ds) (A.deeper env) s₁ := by
        have hval : ∀ x b, (entry d ds).lookup x = some b → ∃ v, ((d.names.zip args).lookup x).getD .none = v ∧ (x, v) ∈ d.names.zip args ∧ ((b.m = .val ∧ Rd s.heap P v b.d) ∨ (b.m = .brw ∧ RdT s.heap P v b.d)) := by
          intro x b hb
          obtain ⟨v, hv, q⟩ := mem_zip_of (names := d.names) hr hla.symm hb
          refine ⟨v, ?_, hv, q⟩
          have this := lookup_of_mem (nodup_zip (args := args) hd.nodup) hv
          rw [this]; rfl
        refine ⟨⟨by rw [e2]; exact hd.kind, e5, e6, ?_⟩, ⟨hA.handled, ?_, ?_⟩, hx.trans (.of keep), ⟨_, hB.tb0⟩, (fun h => by rw [e4] at h; obtain ⟨c, h1, h2⟩ := hall h; exact ⟨c, by rw [← henv]; exact h1, h2⟩), .head _, ?_, ?_, ⟨_, ic.toInCall.ns⟩, ?_, ?_, ?_, ?_, ?_, ?_, ?_, ?_⟩
        · intro x hx'
          rw [e4] at hx'
          rcases hx' with h | h
          · rw [e3]; exact cells_some _ _ _ (.inl h)
          · exact absurd h (hd.nofree x)
        · show A.depth + 1 + k < recursionLimit; omega
        · show A.units + 3 + 4 * k + 200 < cLine; omega
        · intro x c hc
          refine .tail _ (List.mem_filterMap.mpr ?_)
          have hmem : ∃ p ∈ d.scope.names, p.1 = x := by
            have : ∀ (names : List (Str × NameKind)) (n : Nat) (acc : List (Str × Addr)) (c : Addr), (x, c) ∈ cellsFrom n names acc → (∃ p ∈ names, p.1 = x) ∨ (x, c) ∈ acc := by
              intro names
              induction names with
              | nil => intro n acc c h; exact .inr h
              | cons p r ih =>
                obtain ⟨y, kd⟩ := p
                intro n acc c h
                unfold cellsFrom at h
                split at h
                · rcases ih _ _ _ h with ⟨q, hq, e⟩ | h
                  · exact .inl ⟨q, .tail _ hq, e⟩
                  · rcases List.mem_cons.mp h with e | h
                    · cases e; exact .inl ⟨_, .head _, rfl⟩
                    · exact .inr h
                · rcases ih _ _ _ h with ⟨q, hq, e⟩ | h
                  · exact .inl ⟨q, .tail _ hq, e⟩
                  · exact .inr h
            have hm := mem_of_lookup hc
            rw [e3] at hm
            rcases this _ _ _ _ hm with h | h
            · exact h
            · cases h
          obtain ⟨p, hp, rfl⟩ := hmem
          exact ⟨p, hp, hc⟩
        · intro b hb
          simp only [List.append_nil, List.mem_append] at hb
          rcases hb with hb | hb
          · rcases List.mem_cons.mp hb with rfl | hb
            · obtain ⟨o', _, _, e, _⟩ := ic.toInCall.ns; exact ⟨o', e⟩
            · obtain ⟨p, _, hp⟩ := List.mem_filterMap.mp hb
              obtain ⟨o', e, _⟩ := ic.cell p.1 b hp
              exact ⟨o', e⟩
          · obtain ⟨o', ho'⟩ := hP b hb; exact ⟨o', keep _ _ ho'⟩
        · intro x c hc
          exact ⟨⟨_, ic.cell x c hc⟩, Nat.ne_of_gt (ic.above x c (mem_of_lookup hc))⟩
        · intro x y c h1 h2
          exact name_of_addr ic.apart (mem_of_lookup h1) (mem_of_lookup h2)
        · intro b hb
          rw [List.append_nil] at hb
          cases e : base.get? b with
          | none => rfl
          | some o' => exact absurd hb (hXold b (hx.there e))
        · intro b hb hp
          rw [List.append_nil] at hb
          exact hXold b (hP b hp) hb
        · intro b hb; cases hb
        · intro x b hb
          obtain ⟨v, hv1, hv2, q⟩ := hval x b hb
          simp only [hv1]
          have hxn : x ∈ d.names := (List.of_mem_zip hv2).1
          constructor
          · rcases hd.par x hxn with h | h
            · refine .inl ⟨by rw [e4]; exact h, _, ic.toInCall.ns, ?_⟩
              exact bindL_get env.kindOf (by rw [e4]; exact h) _ _ (nodup_zip hd.nodup) (.inl hv2)
            · have hcs : (env.cells.lookup x).isSome = true := by rw [e3]; exact cells_some _ _ _ (.inl h)
              cases hc : env.cells.lookup x with
              | none => rw [hc] at hcs; cases hcs
              | some c =>
                refine .inr (.inl ⟨by rw [e4]; exact h, c, hc, ?_⟩)
                have := ic.cell x c hc
                rw [bindC_get env.kindOf (by rw [e4]; exact h) _ _ (nodup_zip hd.nodup) (.inl hv2)] at this
                exact this
          · rcases q with ⟨q1, q2⟩ | ⟨q1, q2⟩
            · unfold BOk; rw [q1]; exact q2.mono hmono
            · unfold BOk; rw [q1]
              show RdT _ _ _ _
              generalize b.d = bd at q2
              cases q2 with
              | of q => exact .of (q.mono hmono)
              | list hl r => obtain ⟨o', ho', q⟩ := hl; exact .list ⟨o', keep _ _ ho', q⟩ (r.mono hmono)
              | dict hdd r e => exact .dict (hdd.ext (.of keep)) (r.mono hmono) e
        · intro x b hb hbm b' hb' hm
          simp only [List.append_nil] at hm
          obtain ⟨v, hv1, hv2, q⟩ := hval x b hb
          simp only [hv1] at hb'
          subst hb'
          rcases q with ⟨q1, q2⟩ | ⟨q1, q2⟩
          · rw [q1] at hbm; cases hbm
          · refine hXold b' ?_ hm
            generalize hvv : Value.ref b' = vv at q2
            generalize b.d = bd at q2
            cases q2 with
            | of q =>
              cases q with
              | list _ hl _ => cases hvv; obtain ⟨o, ho, _⟩ := hl; exact ⟨o, ho⟩
              | tuple _ hl _ => cases hvv; obtain ⟨o, ho, _⟩ := hl; exact ⟨o, ho⟩
              | dict _ hd _ _ => cases hvv; obtain ⟨o, ho, _⟩ := hd.there; exact ⟨o, ho⟩
              | _ => cases hvv
            | list hl _ => cases hvv; obtain ⟨o, ho, _⟩ := hl; exact ⟨o, ho⟩
            | dict hd _ _ => cases hvv; obtain ⟨o, ho, _⟩ := hd.there; exact ⟨o, ho⟩
        · intro x y bx b' hne hx' hmx
          obtain ⟨v, _, _, q⟩ := hval x bx hx'
          rcases q with ⟨q1, _⟩ | ⟨q1, _⟩ <;> rw [q1] at hmx <;> cases hmx
      rw [← e4] at hex
      refine wpAny_mono (seq_sound (xs_all hB hF n) d.body (entry d ds) fl1 ρ1 hex [] _ s₁ S) (fun f s' p => ?_) fun _ _ e => e
      obtain ⟨c, p⟩ := p
      unfold retOf at hret
      cases fl1 with
      | ret d' =>
        simp only [Option.some.injEq] at hret
        subst hret
        obtain ⟨v, hf', hv⟩ := p
        subst hf'
        obtain ⟨h', tk, hs⟩ := ic.toInCall.same
        refine hQ v s' ⟨⟨fun b o' n e => c.keep b o' n (by rw [List.append_nil]; exact hXold b ⟨o', e⟩) (keep b o' e), (Ext.of keep).grow.trans c.grow⟩, c.os.trans (by rw [hs]), fun h => c.gens (by rw [hs]; exact h)⟩ hv
      | _ => cases hret
  · cases hc

/-- the table of the text's own functions, by depth of calls -/
noncomputable def tabF (defs : List Def) (wf n : Nat) : Nat → Fns
  | 0 => fun _ => none
  | k + 1 => fun f => (defs.find? fun d => d.name == f).map fun d => (d.fl, callD (tabF defs wf n k) wf n d)

theorem tab_ok (hB : Base mg mb base) {defs : List Def} (hd : ∀ d ∈ defs, DefOk d) (hf : ∀ d ∈ defs, ∃ a, FnAt mg base d a) {n : Nat} : ∀ k, FnsOk prog w mg base (tabF defs wf n k) k
  | 0 => fun f fl F h => by simp [tabF] at h
  | k + 1 => fun f fl F h => by
    simp only [tabF, Option.map_eq_some_iff, Prod.mk.injEq] at h
    obtain ⟨d, hfind, rfl, rfl⟩ := h
    have hm := List.mem_of_find?_eq_some hfind
    have hname : d.name = f := by simpa using List.find?_some hfind
    obtain ⟨a, fa⟩ := hf d hm
    obtain ⟨o, pm, cd, doc, ho, hod, _, _⟩ := fa.obj
    refine ⟨a, o, _, hname ▸ fa.at_, ho, hod, fun A s args ds r P Q E hA hx hP hr hc hQ => ?_⟩
    exact wpAny_call (def_sound hB (tab_ok hB hd hf k) (hd d hm) fa hA hx hP hr hc fun v s' g q => hQ v s' g q)
end
end Mine
set_option autoImplicit false
set_option linter.unusedSectionVars false
set_option linter.unusedVariables false
namespace Mine
open PySem PySem.Spec PySem.Calls PyProof.Rows PySem.W
section
variable [TB]

noncomputable def defOf (fl : List Bool) (r : DefRec) : Def := ⟨r.name, r.params, fl, r.body, r.scope⟩

theorem bmod_of_top {view : Program} {loose : List Str} {mean : ExcName → Option Value} {mg mb : Str → Option Value} {h : Heap} (T : Top view loose mean mg mb h) : ∃ bm ob, BMod h mainGlobals mg bm ob := by
  obtain ⟨bm, ob, h1, h2, h3, h4, h5, h6⟩ := T.bmain
  exact ⟨bm, ob, T.g, h1, h2, h3, h4, h5, h6⟩

theorem base_of_top {view : Program} {loose : List Str} {mean : ExcName → Option Value} {mg mb : Str → Option Value} {h : Heap} (T : Top view loose mean mg mb h)
    (hfree : ∀ p ∈ biTab, p.1 ∉ startupNames ∧ p.1 ∉ loose ∧ p.1 ∉ (recsOf view).map (·.name) ∧ p.1 ∉ (litsOf view).map (·.1) ∧ p.1 ∉ (clssOf view loose).map (·.name)) (htb : h.get? TB.P = some (tabO #[])) : Base mg mb h := by
  refine ⟨T.g, T.b, T.nolimit, htb, bmod_of_top T, fun f v hv => ?_⟩
  have hm := mem_of_lookup hv
  obtain ⟨h1, h2, h3, h4, h5⟩ := hfree _ hm
  refine ⟨T.free f h1 h2 h3 h4 h5, ?_⟩
  have hall : ∀ p ∈ biTab, p.1 ≠ Str.ofString "__name__" ∧ bootBuiltins p.1 = some p.2 := by decide +kernel
  obtain ⟨h6, h7⟩ := hall _ hm
  rw [T.builtins f h6]; exact h7

theorem fns_of_top {view : Program} {loose : List Str} {mean : ExcName → Option Value} {mg mb : Str → Option Value} {h : Heap} (T : Top view loose mean mg mb h) {fl : DefRec → List Bool} (htab : ∀ r ∈ recsOf view, r.scope.names.lookup (Str.ofString "all") = some .globalImplicit → ∃ a o fd c, mg r.name = some (.ref a) ∧ h.get? a = some o ∧ o.data = .func fd ∧ fd.code = .ref c ∧ h.IsCode c TB.P #[] ∧ h.TableAt c TB.P #[]) :
    ∀ d ∈ (recsOf view).map (fun r => defOf (fl r) r), ∃ a, FnAt mg h d a := by
  intro d hd
  obtain ⟨r, hr, rfl⟩ := List.mem_map.mp hd
  obtain ⟨a, o, pm, cd, doc, h1, h2, h3, h4⟩ := T.fn r hr
  refine ⟨a, h1, o, pm, cd, doc, h2, h3, h4, fun hall => ?_⟩
  obtain ⟨a', o', fd, c, q1, q2, q3, q4, q5, q6⟩ := htab r hr hall
  have e1 : a' = a := by have h1' : mg r.name = some (.ref a) := h1; rw [h1'] at q1; cases q1; rfl
  subst e1
  rw [h2] at q2; cases q2
  rw [h3] at q3; cases q3
  exact ⟨c, q4, q5, q6⟩

theorem rd_script {h : Heap} {l : Addr} {vs : List Value} {ns : List Int} (hl : h.IsList l vs.toArray) (hi : IntsAre vs ns) : Rd h [] (.ref l) (.list (ns.map .int)) := by
  refine .list (by simp) hl ?_
  show RdAll h [] vs (ns.map .int)
  clear hl
  induction hi with
  | nil => exact .nil
  | cons n t _ ih => exact .cons (.int _ _) ih

theorem caller_at (k : Nat) (hk : k ≤ 100) : At callerA k := by
  have h1 : callerA.depth + 101 < recursionLimit := by decide +kernel
  have h2 : callerA.units + 600 < cLine := by decide +kernel
  exact ⟨rfl, by omega, by omega⟩

theorem oldK_of {h h' : Heap} {c₀ : Addr} (htb : h.TableAt c₀ TB.P #[]) (x : Ext h h') : OldK h h' := by
  refine ⟨fun b o e => ?_, fun b o e => x.there e⟩
  by_cases hb : b = TB.P
  · subst hb
    rcases x.grow o e with h1 | ⟨ps, more, rfl, h1, _⟩
    · exact .inl h1
    · exact .inr (.inl ⟨htb.isCodeTable, rfl, ps, more, rfl, h1⟩)
  · exact .inl (x.get b o (.inr hb) e)

/-- the end of a law: its call comes back with True -/
theorem law_end {c : ClaimW} {cl : Str → Option Addr} {mean : ExcName → Option Value} {args : List WData} {s₁ s' : Shared} {v : Value} (hr : ∀ cls, c.raises args cls = false) (hp : c.post args (.bool true) args = true) (hg : s₁.gens = #[])
    {c₀ : Addr} (htb : s₁.heap.TableAt c₀ TB.P #[]) (g : Go s₁ s') (hv : Rd s'.heap [] v (.bool true)) : GoodWG c cl mean args s₁ (.ok (.ret v)) s' := by
  cases hv
  exact ⟨.inl ⟨_, .bool true, [], rfl, hr, .bool true, hp, fun _ => ⟨.nil, fun _ h => nomatch h⟩⟩, oldK_of htb g.ext, g.os, g.gens (.of_eq hg)⟩

theorem law_call {prog : Program} {w : World} {view : Program} {loose : List Str} {mean : ExcName → Option Value} {mg mb : Str → Option Value} {s₁ : Shared} (T : Top view loose mean mg mb s₁.heap) {recs : List DefRec} (hrec : recsOf view = recs)
    (hfree : ∀ p ∈ biTab, p.1 ∉ startupNames ∧ p.1 ∉ loose ∧ p.1 ∉ (recsOf view).map (·.name) ∧ p.1 ∉ (litsOf view).map (·.1) ∧ p.1 ∉ (clssOf view loose).map (·.name))
    (htab : ∀ r ∈ recsOf view, r.scope.names.lookup (Str.ofString "all") = some .globalImplicit → ∃ a o fd c, mg r.name = some (.ref a) ∧ s₁.heap.get? a = some o ∧ o.data = .func fd ∧ fd.code = .ref c ∧ s₁.heap.IsCode c TB.P #[] ∧ s₁.heap.TableAt c TB.P #[]) {c₀ : Addr} (htb : s₁.heap.TableAt c₀ TB.P #[])
    {fl : DefRec → List Bool} (hok : ∀ r ∈ recs, DefOk (defOf (fl r) r)) {law : DefRec} (hlaw : law ∈ recs) (hfl : fl law = [false]) {fa l : Addr} (hmg : mg law.name = some (.ref fa)) {vs : List Value} {ns : List Int} (hl : s₁.heap.IsList l vs.toArray) (hi : IntsAre vs ns)
    {k wf n : Nat} (hk : k + 1 ≤ 100) (hpure : callD (tabF (recs.map fun r => defOf (fl r) r) wf n k) wf n (defOf [false] law) [.list (ns.map .int)] = some (.bool true)) {Q E : Value → Shared → Prop} (hQ : ∀ v s', Go s₁ s' → Rd s'.heap [] v (.bool true) → Q v s') :
    wpAny (model prog w) callerA (call (.ref fa) [.ref l]) Q E s₁ := by
  subst hrec
  have hB := base_of_top T hfree htb.2
  have hfn := fns_of_top T (fl := fl) htab
  have hdo : ∀ d ∈ (recsOf view).map (fun r => defOf (fl r) r), DefOk d := fun d hd => by obtain ⟨r, hr, rfl⟩ := List.mem_map.mp hd; exact hok r hr
  obtain ⟨a, fa'⟩ := hfn (defOf (fl law) law) (List.mem_map.mpr ⟨law, hlaw, rfl⟩)
  have e : a = fa := by have := fa'.at_; rw [show (defOf (fl law) law).name = law.name from rfl, hmg] at this; cases this; rfl
  subst e
  rw [← hfl] at hpure
  refine wpAny_call (def_sound hB (tab_ok hB hdo hfn k) (hok law hlaw) fa' (caller_at _ hk) (Ext.refl _) (P := []) (by simp) (args := [.ref l]) (ds := [.list (ns.map .int)]) ?_ hpure fun v s' g q => hQ v s' g q)
  rw [show (defOf (fl law) law).fl = [false] from hfl]
  exact .cons (rd_script hl hi) .nil
end
end Mine
set_option autoImplicit false
set_option maxRecDepth 100000
namespace Mine
open PySem PySem.Spec PySem.Calls PyProof.Rows PySem.W

/-! ## running the evaluator by rewriting -/
theorem map_toNat_inj : ∀ {a b : List Char}, a.map Char.toNat = b.map Char.toNat → a = b
  | [], [], _ => rfl
  | [], _ :: _, h => by cases h
  | _ :: _, [], h => by cases h
  | x :: a, y :: b, h => by
    simp only [List.map_cons, List.cons.injEq] at h
    rw [Char.toNat_inj.mp h.1, map_toNat_inj h.2]
theorem ofString_inj {a b : String} (h : Str.ofString a = Str.ofString b) : a = b := by
  rw [Str.ofString_eq_toList, Str.ofString_eq_toList] at h
  have h1 := congrArg (fun s : Str => s.cps.toList) h
  simp only at h1
  exact String.toList_inj.mp (map_toNat_inj h1)
theorem ofString_beq (a b : String) : (Str.ofString a == Str.ofString b) = (a == b) := by
  by_cases h : a = b
  · subst h; simp
  · have : Str.ofString a ≠ Str.ofString b := fun e => h (ofString_inj e)
    rw [beq_eq_false_iff_ne.mpr this, beq_eq_false_iff_ne.mpr h]
theorem strOk_ofString (a : String) : PyData.strOk (Str.ofString a) = true := by
  unfold PyData.strOk
  rw [Str.ofString_eq_toList]
  simp only [List.all_toArray, List.all_map, List.all_eq_true, Function.comp, decide_eq_true_eq]
  intro c _
  have h := c.valid
  simp only [UInt32.isValidChar, Nat.isValidChar] at h
  show c.val.toNat < _
  omega
theorem szl : sizeLine = 16777216 := by decide

noncomputable def enc (x : String × Int) : PyData := .tuple [.str (Str.ofString x.1), .int x.2]
noncomputable def encL (t : List (String × Int)) : PyData := .list (t.map enc)
theorem eqv_enc (x : String × Int) (k : String) (n : Int) : PyData.eqv (enc x) (.tuple [.str (Str.ofString k), .int n]) = decide (x = (k, n)) := by
  obtain ⟨a, b⟩ := x
  simp only [enc, PyData.eqv, PyData.eqvAll, ofString_beq, Bool.and_true, Prod.mk.injEq]
  by_cases h1 : a = k <;> by_cases h2 : b = n <;> simp [h1, h2]
theorem eqv_encs : ∀ (a b : List (String × Int)), PyData.eqvAll (a.map enc) (b.map enc) = decide (a = b)
  | [], [] => by simp [PyData.eqvAll]
  | [], _ :: _ => by simp [PyData.eqvAll]
  | _ :: _, [] => by simp [PyData.eqvAll]
  | x :: a, y :: b => by
    have h : enc y = .tuple [.str (Str.ofString y.1), .int y.2] := rfl
    rw [List.map_cons, List.map_cons, PyData.eqvAll, eqv_encs a b, h, eqv_enc]
    by_cases h1 : x = y <;> by_cases h2 : a = b <;> simp [h1, h2]
theorem dep_enc (n : Nat) (x : String × Int) : dep (n + 1) (enc x) = true := by simp [enc, dep]
theorem dep_encs (n : Nat) (t : List (String × Int)) : (t.map enc).all (dep (n + 1)) = true := by
  rw [List.all_eq_true]; intro d hd; obtain ⟨x, _, rfl⟩ := List.mem_map.mp hd; exact dep_enc n x

theorem bnd {α β : Type} (a : α) (f : α → Option β) : (some a).bind f = f a := by rw [Option.bind_some]
theorem mpd {α β : Type} (a : α) (f : α → β) : (some a).map f = some (f a) := by rw [Option.map_some]
theorem bn5 (a b : List PyData) : binD .Add (.list a) (.list b) = if a.length + b.length ≤ sizeLine then some (.list (a ++ b)) else none := rfl
theorem cm1 (a b : PyData) : cmpD .Eq a b = if dep 8 a && dep 8 b then some (PyData.eqv a b) else none := rfl
theorem cm2 (a b : PyData) : cmpD .NotEq a b = if dep 8 a && dep 8 b then some (!PyData.eqv a b) else none := rfl
theorem cm3 (a b : Int) : cmpD .Lt (.int a) (.int b) = some (decide (a < b)) := rfl
theorem cm4 (a b : Int) : cmpD .LtE (.int a) (.int b) = some (decide (a ≤ b)) := rfl
theorem cm5 (a b : Int) : cmpD .Gt (.int a) (.int b) = some (decide (a > b)) := rfl
theorem cm6 (a b : Int) : cmpD .GtE (.int a) (.int b) = some (decide (a ≥ b)) := rfl
theorem bi1 (xs : List PyData) : biD .len [.list xs] = if xs.length ≤ sizeLine then some (.int xs.length) else none := rfl
theorem idxL (xs : List PyData) (i : Int) : idxD (.list xs) (.int i) = if inFit i then (seqIndex? i xs.length).bind fun j => xs[j]? else none := rfl
theorem idx_enc0 (x : String × Int) : idxD (enc x) (.int 0) = some (.str (Str.ofString x.1)) := rfl
theorem idx_enc1 (x : String × Int) : idxD (enc x) (.int 1) = some (.int x.2) := rfl
theorem eqv_str (a b : Str) : PyData.eqv (.str a) (.str b) = (a == b) := by simp [PyData.eqv]
theorem eqv_int (a b : Int) : PyData.eqv (.int a) (.int b) = decide (a = b) := by by_cases h : a = b <;> simp [PyData.eqv, h]
theorem dep_str (n : Nat) (a : Str) : dep n (.str a) = true := by cases n <;> rfl
theorem dep_int (n : Nat) (a : Int) : dep n (.int a) = true := by cases n <;> rfl
theorem dep_tup (n : Nat) (a : Str) (i : Int) : dep (n + 1) (.tuple [.str a, .int i]) = true := by simp [dep, dep_str, dep_int]
theorem dep_encL (n : Nat) (t : List (String × Int)) : dep (n + 2) (encL t) = true := by simp only [encL, dep]; exact dep_encs n t
theorem dep_nilL (n : Nat) : dep (n + 1) (.list []) = true := rfl
theorem eqv_encL (a b : List (String × Int)) : PyData.eqv (encL a) (encL b) = decide (a = b) := by simp only [encL, PyData.eqv]; exact eqv_encs a b

theorem foldlM_err {σ α ε : Type} {P : ε → Prop} (f : σ → α → Except ε σ) (h : ∀ s x d, f s x = .error d → P d) : ∀ (l : List α) (s : σ) (d : ε), l.foldlM f s = .error d → P d
  | [], s, d, e => by cases e
  | x :: l, s, d, e => by
    rw [List.foldlM_cons] at e
    cases hs : f s x with
    | ok s1 => rw [hs] at e; exact foldlM_err f h l s1 d e
    | error d' => rw [hs] at e; cases e; exact h s x d hs
theorem pickL {α : Type} (xs : List α) (a : Nat) : ∀ k : Nat, ((List.range k).map (a + ·)).filterMap (xs[·]?) = (xs.drop a).take k
  | 0 => by simp
  | k + 1 => by
    rw [List.range_succ, List.map_append, List.filterMap_append, pickL xs a k, List.take_add_one]
    congr 1
    simp only [List.map_cons, List.map_nil, List.getElem?_drop]
    cases h : xs[a + k]? <;> simp [h]
theorem slD_all (xs : List PyData) : slD xs none none none = xs := by
  have e : sliceBounds none none none xs.length = (((0 : Nat) : Int), (xs.length : Int), 1) := by simp [sliceBounds]
  unfold slD
  rw [e]
  simp only [sliceRange_one, pickL]
  rw [List.drop_zero, Nat.sub_zero, List.take_of_length_le (by simp)]
theorem idx_nat (xs : List PyData) (i : Nat) (h : i < xs.length) (hx : xs.length ≤ 16777216) : idxD (.list xs) (.int i) = some xs[i] := by
  have h3 : inFit (i : Int) = true := by unfold inFit; simp only [Bool.and_eq_true, decide_eq_true_eq]; omega
  have h4 : seqIndex? (i : Int) xs.length = some i := by
    unfold seqIndex?
    simp only [show ¬ (i : Int) < 0 by omega, if_false]
    rw [if_pos (by simp only [Bool.and_eq_true, decide_eq_true_eq]; omega)]
    simp
  simp only [idxD, h3, if_true, h4, Option.bind_some, List.getElem?_eq_getElem h]
theorem add_encL (a b : List (String × Int)) (h : a.length + b.length ≤ 16777216) : binD .Add (encL a) (encL b) = some (encL (a ++ b)) := by
  rw [encL, encL, bn5, if_pos (by rw [szl]; simpa using h), encL, List.map_append]
/-! ### one step of the evaluator, by constructor -/
section steps
variable (Φ : Fns) (wf n : Nat) (K : Kd) (ρ : Rho) (rd : Bool)
theorem ev_const (c : Const) (k) (p : Pos) : evalE Φ (n + 1) K ρ rd (.Constant c k p) = constD c := by rw [evalE]
theorem ev_name (x : Str) (p : Pos) : evalE Φ (n + 1) K ρ rd (.Name x p) = nameD ρ rd x := by rw [evalE]
theorem ev_tuple (es : List Expr) (c p) : evalE Φ (n + 1) K ρ rd (.Tuple es c p) = (mapO (evalE Φ n K ρ false) es).bind fun ds => if ds.length ≤ sizeLine then some (.tuple ds) else none := by rw [evalE]
theorem ev_list (es : List Expr) (p) : evalE Φ (n + 1) K ρ rd (.List es p) = (mapO (evalE Φ n K ρ false) es).bind fun ds => if ds.length ≤ sizeLine then some (.list ds) else none := by rw [evalE]
theorem ev_bin (l op r p) : evalE Φ (n + 1) K ρ rd (.BinOp l op r p) = (evalE Φ n K ρ true l).bind fun a => (evalE Φ n K ρ true r).bind fun b => binD op a b := by rw [evalE]
theorem ev_un (op x p) : evalE Φ (n + 1) K ρ rd (.UnaryOp op x p) = (evalE Φ n K ρ true x).bind fun a => unD op a := by rw [evalE]
theorem ev_cmp (l op r p) : evalE Φ (n + 1) K ρ rd (.Compare l [op] [r] p) = (cmpE Φ n K ρ l op r).map PyData.bool := by rw [evalE]
theorem ev_bool (op vs p) : evalE Φ (n + 1) K ρ rd (.BoolOp op vs p) = boolGo (evalE Φ n K ρ rd) op vs := by rw [evalE]
noncomputable def slcD (a : PyData) (l h s : Option (Option Int)) : Option PyData := match a with
  | .list xs => l.bind fun l => h.bind fun h => s.bind fun s => if s ≠ some 0 ∧ xs.length ≤ sizeLine then some (.list (slD xs l h s)) else none
  | _ => none
theorem ev_slice (v lo hi st q p) : evalE Φ (n + 1) K ρ rd (.Subscript v (.Slice lo hi st q) p) = (evalE Φ n K ρ true v).bind fun a => slcD a (partE Φ n K ρ lo) (partE Φ n K ρ hi) (partE Φ n K ρ st) := by
  rw [evalE]; congr 1
theorem slc_all (t : List (String × Int)) (h : t.length ≤ 16777216) : slcD (encL t) (some none) (some none) (some none) = some (encL t) := by
  simp only [slcD, encL, Option.bind_some, slD_all, List.length_map, szl, h, ne_eq, reduceCtorEq, not_false_iff, and_self, if_true]
noncomputable def isiD (d : PyData) : Option PyData := if isBoolD d then some (.bool true) else none
noncomputable def callB (ev : Bool → Expr → Option PyData) (Φ : Fns) (K : Kd) (g : Str) (args : List Expr) : Option Bi → Option PyData
  | some .isi => match args with
    | [e, t] => if isBoolName K t then (ev true e).bind isiD else none
    | _ => none
  | some b => (mapO (ev true) args).bind fun ds => biD b ds
  | none => match Φ g with
    | some (fl, F) => (mapF ev fl args).bind fun ds => F ds
    | none => none
theorem ev_call (g q args p) (hg : (g == Str.ofString "all") = false) : evalE Φ (n + 1) K ρ rd (.Call (.Name g q) args [] p) = if K g == some .globalImplicit && !(g == Str.ofString "__debug__") then callB (evalE Φ n K ρ) Φ K g args (biOf g) else none := by
  unfold evalE
  show (if (g == Str.ofString "all" && K g == some .globalImplicit) = true then _ else if _ then _ else _) = _
  rw [hg, Bool.false_and, if_neg (by simp)]
  congr 1
theorem callB_len (ev : Bool → Expr → Option PyData) (g args) : callB ev Φ K g args (some .len) = (mapO (ev true) args).bind fun ds => biD .len ds := by rw [callB]; intro h; cases h
theorem callB_abs (ev : Bool → Expr → Option PyData) (g args) : callB ev Φ K g args (some .abs) = (mapO (ev true) args).bind fun ds => biD .abs ds := by rw [callB]; intro h; cases h
theorem callB_sum (ev : Bool → Expr → Option PyData) (g args) : callB ev Φ K g args (some .sum) = (mapO (ev true) args).bind fun ds => biD .sum ds := by rw [callB]; intro h; cases h
theorem callB_list (ev : Bool → Expr → Option PyData) (g args) : callB ev Φ K g args (some .list) = (mapO (ev true) args).bind fun ds => biD .list ds := by rw [callB]; intro h; cases h
theorem callB_sorted (ev : Bool → Expr → Option PyData) (g args) : callB ev Φ K g args (some .sorted) = (mapO (ev true) args).bind fun ds => biD .sorted ds := by rw [callB]; intro h; cases h
theorem callB_fn (ev : Bool → Expr → Option PyData) (g args fl F) (h : Φ g = some (fl, F)) : callB ev Φ K g args none = (mapF ev fl args).bind fun ds => F ds := by rw [callB, h]
theorem ev_lc (elt tgt iter ifs sc p) (asy : Int) : evalE Φ (n + 1) K ρ rd (.ListComp elt [⟨tgt, iter, ifs, asy⟩] sc p) = if asy == 0 && compSc sc K && tgtC sc tgt then
          (itemsE Φ n K ρ true iter).bind fun items => (compGo (compB sc tgt (capt sc ρ) (testsB (testE Φ n (fun x => (relN sc.names K).lookup x)) ifs) (elB (evalE Φ n (fun x => (relN sc.names K).lookup x)) elt)) items).map PyData.list
        else none := by rw [evalE]
theorem pt_some (e) : partE Φ (n + 1) K ρ (some e) = (evalE Φ n K ρ true e).bind asPart := by rw [partE]
noncomputable def cmT (op : CmpOp) (d : PyData) : Option Bool := if isBoolD d then match op with
          | .Is => some true
          | .IsNot => some false
          | _ => none
        else none
noncomputable def cmB (ev : Bool → Expr → Option PyData) (K : Kd) (l : Expr) (op : CmpOp) (r : Expr) : Option Expr → Option Bool
  | some e => if isBoolName K r then (ev true e).bind (cmT op) else none
  | none => (ev true l).bind fun a => (ev true r).bind fun b => cmpD op a b
theorem cm_step (l op r) : cmpE Φ (n + 1) K ρ l op r = if behindInMarks op r then none else cmB (evalE Φ n K ρ) K l op r (typeArg? K l) := by
  unfold cmpE
  congr 1
theorem cmB_none (ev : Bool → Expr → Option PyData) (l op r) : cmB ev K l op r none = (ev true l).bind fun a => (ev true r).bind fun b => cmpD op a b := by rw [cmB]
noncomputable def itB (ev : Bool → Expr → Option PyData) (rd : Bool) (e : Expr) : Option (List Expr) → Option (List PyData)
  | some args => (mapO (ev true) args).bind rangeD
  | none => (ev rd e).bind itemsD
theorem it_step (e) : itemsE Φ (n + 1) K ρ rd e = itB (evalE Φ n K ρ) rd e (rangeArgs? K e) := by
  rw [itemsE]
  unfold itB
  cases rangeArgs? K e <;> rfl
theorem itB_none (ev : Bool → Expr → Option PyData) (e) : itB ev rd e none = (ev rd e).bind itemsD := by rw [itB]
theorem itB_some (ev : Bool → Expr → Option PyData) (e args) : itB ev rd e (some args) = (mapO (ev true) args).bind rangeD := by rw [itB]
theorem te_not (x p) : testE Φ (n + 1) K ρ (.UnaryOp .Not x p) = (testE Φ n K ρ x).map (!·) := by rw [testE]
theorem te_bool (op vs p) : testE Φ (n + 1) K ρ (.BoolOp op vs p) = allGo (testE Φ n K ρ) op vs := by rw [testE]
theorem te_cmp (l op r p) : testE Φ (n + 1) K ρ (.Compare l [op] [r] p) = cmpE Φ n K ρ l op r := by rw [testE]
theorem te_name (x p) : testE Φ (n + 1) K ρ (.Name x p) = (evalE Φ n K ρ true (.Name x p)).bind asBool := by rw [testE] <;> simp
theorem te_call (f a k p) : testE Φ (n + 1) K ρ (.Call f a k p) = (evalE Φ n K ρ true (.Call f a k p)).bind asBool := by rw [testE] <;> simp
theorem ex_ret (e p) : execS Φ wf (n + 1) K ρ (.Return (some e) p) = (evalE Φ n K (thaw ρ) false e).map fun d => (.ret d, ρ) := by rw [execS]
theorem ex_assign (x q v p) : execS Φ wf (n + 1) K ρ (.Assign [.Name x q] v p) = if K x == some .local || K x == some .cell then
          (evalE Φ n K ρ false v).map fun d => (.next, setR ρ x ⟨frM x v d, d⟩) else none := by rw [execS]
noncomputable def appB (ρ : Rho) (x : Str) (v : Option PyData) : Option Bd → Option (Fl × Rho)
  | some ⟨.own, .list xs⟩ => v.bind fun d => if xs.length < sizeLine then some (.next, setR ρ x ⟨.own, .list (xs ++ [d])⟩) else none
  | _ => none
theorem ex_app (x q attr apos e cpos p) : execS Φ wf (n + 1) K ρ (.Expr (.Call (.Attribute (.Name x q) attr apos) [e] [] cpos) p) = if attr == Str.ofString "append" && apos.endLine == cpos.line && !(x == Str.ofString "__debug__") then
              appB ρ x (evalE Φ n K ρ false e) (ρ.lookup x) else none := by
  rw [execS]
  congr 1
theorem appB_own (xs : List PyData) (x : Str) (v : Option PyData) : appB ρ x v (some ⟨.own, .list xs⟩) = v.bind fun d => if xs.length < sizeLine then some (.next, setR ρ x ⟨.own, .list (xs ++ [d])⟩) else none := by rw [appB]
end steps

theorem seq_next {f : Rho → Stmt → Option (Fl × Rho)} {ρ ρ1 : Rho} {st : Stmt} {r : List Stmt} (h : f ρ st = some (.next, ρ1)) : seqGo f ρ (st :: r) = seqGo f ρ1 r := by simp only [seqGo, h, Option.bind_some]
theorem seq_ret {f : Rho → Stmt → Option (Fl × Rho)} {ρ ρ1 : Rho} {st : Stmt} {r : List Stmt} {d : PyData} (h : f ρ st = some (.ret d, ρ1)) : seqGo f ρ (st :: r) = some (.ret d, ρ1) := by simp only [seqGo, h, Option.bind_some]
theorem exec_for {Φ : Fns} {wf n : Nat} {K : Kd} {ρ : Rho} {tgt iter : Expr} {body : List Stmt} {pos : Pos} {items : List PyData} {r : Fl × Rho} (ht : tgtT K tgt = true) (hi : itemsE Φ n K ρ false iter = some items)
    (hf : forGo (fun ρ d => (bindT K tgt d ρ).bind (runB (execS Φ wf n K) body)) ρ items = some r) : execS Φ wf (n + 1) K ρ (.For tgt iter body [] pos) = some r := by
  simp only [execS, ht, if_true, hi, Option.bind_some]; exact hf
theorem exec_if_true {Φ : Fns} {wf n : Nat} {K : Kd} {ρ : Rho} {t : Expr} {b o : List Stmt} {pos : Pos} {r : Fl × Rho} (ht : testE Φ n K ρ t = some true) (h : seqGo (execS Φ wf n K) ρ b = some r) : execS Φ wf (n + 1) K ρ (.If t b o pos) = some r := by
  simp only [execS, ht, Option.bind_some, if_true]; exact h
theorem exec_if_false {Φ : Fns} {wf n : Nat} {K : Kd} {ρ : Rho} {t : Expr} {b o : List Stmt} {pos : Pos} {r : Fl × Rho} (ht : testE Φ n K ρ t = some false) (h : seqGo (execS Φ wf n K) ρ o = some r) : execS Φ wf (n + 1) K ρ (.If t b o pos) = some r := by
  simp only [execS, ht, Option.bind_some, Bool.false_eq_true, if_false]; exact h

/-- a for at the head of a suite whose value is asked: its turns fold a state -/
theorem for_turns {α σ : Type} {Φ : Fns} {wf n : Nat} {K : Kd} {tgt : Expr} {body : List Stmt} (en : α → PyData) (step : σ → α → Except PyData σ) (ρ1 : σ → α → Rho) (Inv : Nat → σ → Prop) (N : Nat)
    (h1 : ∀ s x y, bindT K tgt (en y) (ρ1 s x) = some (ρ1 s y))
    (hb : ∀ i s y, i < N → Inv i s → (∀ s', step s y = .ok s' → Inv (i + 1) s' ∧ runB (execS Φ wf n K) body (ρ1 s y) = some (.next, ρ1 s' y)) ∧ (∀ d, step s y = .error d → ∃ ρ', runB (execS Φ wf n K) body (ρ1 s y) = some (.ret d, ρ'))) :
    ∀ (l : List α) (i : Nat) (s : σ) (x : α), i + l.length ≤ N → Inv i s →
      (∀ s', l.foldlM step s = .ok s' → Inv (i + l.length) s' ∧ ∃ y, forGo (fun ρ d => (bindT K tgt d ρ).bind (runB (execS Φ wf n K) body)) (ρ1 s x) (l.map en) = some (.next, ρ1 s' y)) ∧
      (∀ d, l.foldlM step s = .error d → ∃ ρ', forGo (fun ρ d => (bindT K tgt d ρ).bind (runB (execS Φ wf n K) body)) (ρ1 s x) (l.map en) = some (.ret d, ρ'))
  | [], i, s, x, _, hi => ⟨fun s' e => by cases e; exact ⟨hi, x, rfl⟩, fun d e => by cases e⟩
  | y :: l, i, s, x, hN, hi => by
    simp only [List.length_cons] at hN
    obtain ⟨g1, g2⟩ := hb i s y (by omega) hi
    cases hs : step s y with
    | ok s1 =>
      obtain ⟨hi1, hF⟩ := g1 s1 hs
      obtain ⟨r1, r2⟩ := for_turns en step ρ1 Inv N h1 hb l (i + 1) s1 y (by omega) hi1
      simp only [List.foldlM_cons, hs, List.map_cons, forGo, h1, hF, Option.bind_some, List.length_cons]
      rw [show i + (l.length + 1) = i + 1 + l.length by omega]
      exact ⟨r1, r2⟩
    | error d =>
      obtain ⟨ρ', hF⟩ := g2 d hs
      simp only [List.foldlM_cons, hs, List.map_cons, forGo, h1, hF, Option.bind_some]
      refine ⟨fun s' e => (by cases e), fun d' e => ?_⟩
      cases e
      exact ⟨ρ', rfl⟩
theorem for_seq {α σ : Type} {Φ : Fns} {wf n : Nat} {K : Kd} {ρ0 : Rho} {tgt iter : Expr} {body rest : List Stmt} {pos : Pos} {res : PyData} (en : α → PyData) (step : σ → α → Except PyData σ) (ρ1 : σ → α → Rho) (Inv : Nat → σ → Prop) (l : List α) (s0 : σ)
    (ht : tgtT K tgt = true) (hi : itemsE Φ n K ρ0 false iter = some (l.map en)) (h0 : ∀ y, bindT K tgt (en y) ρ0 = some (ρ1 s0 y)) (h1 : ∀ s x y, bindT K tgt (en y) (ρ1 s x) = some (ρ1 s y))
    (hI : Inv 0 s0)
    (hb : ∀ i s y, i < l.length → Inv i s → (∀ s', step s y = .ok s' → Inv (i + 1) s' ∧ runB (execS Φ wf n K) body (ρ1 s y) = some (.next, ρ1 s' y)) ∧ (∀ d, step s y = .error d → ∃ ρ', runB (execS Φ wf n K) body (ρ1 s y) = some (.ret d, ρ')))
    (hnil : l = [] → (seqGo (execS Φ wf (n + 1) K) ρ0 rest).bind retOf = some res)
    (hend : ∀ s' y, l.foldlM step s0 = .ok s' → Inv l.length s' → (seqGo (execS Φ wf (n + 1) K) (ρ1 s' y) rest).bind retOf = some res)
    (herr : ∀ d, l.foldlM step s0 = .error d → d = res) :
    (seqGo (execS Φ wf (n + 1) K) ρ0 (.For tgt iter body [] pos :: rest)).bind retOf = some res := by
  cases l with
  | nil =>
    rw [seq_next (exec_for ht hi rfl)]
    exact hnil rfl
  | cons y l =>
    have key : forGo (fun ρ d => (bindT K tgt d ρ).bind (runB (execS Φ wf n K) body)) ρ0 ((y :: l).map en) = forGo (fun ρ d => (bindT K tgt d ρ).bind (runB (execS Φ wf n K) body)) (ρ1 s0 y) ((y :: l).map en) := by
      simp only [List.map_cons, forGo, h0, h1]
    obtain ⟨r1, r2⟩ := for_turns (Φ := Φ) (wf := wf) (n := n) (K := K) (tgt := tgt) (body := body) en step ρ1 Inv (y :: l).length h1 hb (y :: l) 0 s0 y (by omega) hI
    cases hf : (y :: l).foldlM step s0 with
    | ok s' =>
      obtain ⟨hi', z, hz⟩ := r1 s' hf
      rw [Nat.zero_add] at hi'
      rw [seq_next (exec_for ht hi (key.trans hz))]
      exact hend s' z hf hi'
    | error d =>
      obtain ⟨ρ', hz⟩ := r2 d hf
      rw [seq_ret (exec_for ht hi (key.trans hz)), ← herr d hf]
      rfl

theorem foldlM_ok {σ α : Type} (f : σ → α → σ) : ∀ (l : List α) (s : σ), l.foldlM (fun s x => (Except.ok (f s x) : Except PyData σ)) s = .ok (l.foldl f s)
  | [], _ => rfl
  | x :: l, s => by rw [List.foldlM_cons, List.foldl_cons]; exact foldlM_ok f l (f s x)

noncomputable def recAt (p : Program) (i : Nat) : DefRec := match p.main.body[i]? with
  | some (.FunctionDef name a b _ _ _ sc _ _ pos) => ⟨name, a, b, sc, pos⟩
  | _ => ⟨Str.empty, ⟨[], [], none, [], [], none, []⟩, [], default, default⟩
theorem defOk_of (r : DefRec) (fl : List Bool) (hfl : fl.length = r.params.args.length) (hk : r.scope.kind = .function ∧ r.scope.isCoroutine = false ∧ r.scope.isGenerator = false)
    (hb : ∀ pm cd doc (args : List Value), args.length = r.params.args.length → bindArgs (docDef r.name r.params r.body r.scope pm cd doc) ⟨args, []⟩ = pure ((r.params.args.map (·.arg)).zip args))
    (hn : (r.params.args.map (·.arg)).Nodup) (hpar : ∀ x ∈ r.params.args.map (·.arg), r.scope.names.lookup x = some .local ∨ r.scope.names.lookup x = some .cell) (hfree : ∀ p ∈ r.scope.names, p.2 ≠ .free) : DefOk (defOf fl r) := by
  refine ⟨fun pm cd doc args h => hb pm cd doc args (by simpa [Def.names, defOf] using h), hk.1, hk.2.1, hk.2.2, by simp [defOf, Def.names, hfl], hn, hpar, fun x hx => ?_⟩
  exact hfree _ (mem_of_lookup hx) rfl
theorem tab_at {D : List Def} {wf n k : Nat} {f : Str} {d : Def} (h : D.find? (fun d => d.name == f) = some d) : tabF D wf n (k + 1) f = some (d.fl, callD (tabF D wf n k) wf n d) := by
  simp only [tabF, h, Option.map_some]
theorem frm_own {x : Str} (v : Expr) (d : PyData) (h : ownN x = true) : frM x v d = isFresh v d := by rw [frM, if_pos h]
theorem frm_val {x : Str} (v : Expr) (d : PyData) (h : ownN x = false) : frM x v d = .val := by rw [frM, h]; rfl
/-! comprehensions -/
theorem compGo_eq {α : Type} {f : PyData → Option (Option PyData)} (en : α → PyData) (h : α → Option PyData) : ∀ (l : List α), (∀ x ∈ l, f (en x) = some (h x)) → compGo f (l.map en) = some (l.filterMap h)
  | [], _ => rfl
  | x :: l, hx => by
    simp only [List.map_cons, compGo, hx x (by simp), Option.bind_some, compGo_eq en h l fun y hy => hx y (by simp [hy]), List.filterMap_cons]
    cases h x <;> rfl
theorem compGo_map {α : Type} {f : PyData → Option (Option PyData)} (en : α → PyData) (h : α → PyData) (l : List α) (hx : ∀ x ∈ l, f (en x) = some (some (h x))) : compGo f (l.map en) = some (l.map h) := by
  rw [compGo_eq en (fun x => some (h x)) l hx, List.filterMap_eq_map']
theorem intsOf_map : ∀ (l : List Int), intsOf (l.map PyData.int) = some l
  | [] => rfl
  | x :: l => by rw [List.map_cons, intsOf, intsOf_map l]; rfl
theorem eqv_listnil (xs : List PyData) : PyData.eqv (.list xs) (.list []) = xs.isEmpty := by cases xs <;> simp [PyData.eqv, PyData.eqvAll]
theorem dep_ints (n : Nat) (l : List Int) : dep (n + 1) (.list (l.map .int)) = true := by
  rw [dep, List.all_eq_true]; intro d hd; obtain ⟨x, _, rfl⟩ := List.mem_map.mp hd; exact dep_int n x

theorem cm9 (a b : PyData) : cmpD .In a b = inD a b := rfl
theorem cm10 (a b : PyData) : cmpD .NotIn a b = (inD a b).map (!·) := rfl

theorem itemsL (xs : List PyData) : itemsD (.list xs) = if xs.length ≤ sizeLine then some xs else none := rfl
theorem items_encL (t : List (String × Int)) (h : t.length ≤ 16777216) : itemsD (encL t) = some (t.map enc) := by
  rw [encL, itemsL, if_pos (by rw [szl, List.length_map]; exact h)]

theorem bi4 (kvs : List (PyData × PyData)) : biD .len [.dict kvs] = if kvs.length ≤ sizeLine then some (.int kvs.length) else none := rfl
theorem bi5 (xs : List PyData) : biD .list [.list xs] = if xs.length ≤ sizeLine then some (.list xs) else none := rfl
theorem bi6 (xs : List PyData) : biD .sorted [.list xs] = (intsOf xs).bind fun l => if l.length < 64 then some (.list ((sortI l).map .int)) else none := rfl
theorem bn6 (b : Int) : binD .Mult (.int 2) (.int b) = some (.int (2 * b)) := rfl

noncomputable def storeB (ρ : Rho) (x : Str) (v i : Option PyData) : Option Bd → Option (Fl × Rho)
  | some ⟨.own, .dict D⟩ => v.bind fun d => i.bind fun c => match c with
    | .int c => if D.length ≤ sizeLine then some (.next, setR ρ x ⟨.own, .dict (putI D c d)⟩) else none
    | _ => none
  | _ => none
theorem ex_store (Φ : Fns) (wf n : Nat) (K : Kd) (ρ : Rho) (x q i p v r) : execS Φ wf (n + 1) K ρ (.Assign [.Subscript (.Name x q) i p] v r) = if notComp v && !(x == Str.ofString "__debug__") then storeB ρ x (evalE Φ n K ρ false v) (evalE Φ n K ρ true i) (ρ.lookup x) else none := by
  rw [execS]
  congr 1
theorem storeB_own (ρ : Rho) (D : List (PyData × PyData)) (x : Str) (d : PyData) (c : Int) : storeB ρ x (some d) (some (.int c)) (some ⟨.own, .dict D⟩) = if D.length ≤ sizeLine then some (.next, setR ρ x ⟨.own, .dict (putI D c d)⟩) else none := by rw [storeB, bnd, bnd]
theorem ev_all (Φ : Fns) (n : Nat) (K : Kd) (ρ : Rho) (rd : Bool) (np x px cf ca ck cp v p1 d p2 p3 sc gp p) (asy : Int) : evalE Φ (n + 1) K ρ rd (.Call (.Name (Str.ofString "all") np) [.GeneratorExp (.Compare (.Name v p1) [.NotIn] [.Name d p2] p3) [⟨.Name x px, .Call cf ca ck cp, [], asy⟩] sc gp] [] p) =
    if (K (Str.ofString "all") == some .globalImplicit) && (asy == 0 && v == x && genSc sc K x d) then (evalE Φ n K ρ true (.Call cf ca ck cp)).bind fun r => allD r (ρ.lookup d) else if K (Str.ofString "all") == some .globalImplicit then none else evalE Φ (n + 1) K ρ rd (.Call (.Name (Str.ofString "all") np) [.GeneratorExp (.Compare (.Name v p1) [.NotIn] [.Name d p2] p3) [⟨.Name x px, .Call cf ca ck cp, [], asy⟩] sc gp] [] p) := by
  cases hk : K (Str.ofString "all") == some .globalImplicit with
  | false => simp
  | true =>
    rw [evalE]
    simp only [beq_self_eq_true, hk, Bool.and_self, if_true, Bool.true_and]
end Mine
open PySem PySem.W PyProof.Rows
set_option Elab.async false
set_option maxRecDepth 100000
set_option maxHeartbeats 8000000
namespace Mine
end Mine
set_option autoImplicit false
set_option maxRecDepth 100000
namespace Mine
open PySem PySem.Spec PySem.Calls PyProof.Rows PySem.W

/-! ## running the evaluator, one lemma a construct -/
structure Ck (b : Bool) : Prop where
  h : b = true
section
variable {Φ : Fns} {wf n : Nat} {K : Kd} {ρ ρ1 : Rho} {rd : Bool}
theorem lk_h {x : Str} {b : Bd} : ((x, b) :: ρ).lookup x = some b := by rw [List.lookup_cons, beq_self_eq_true]
theorem lk_t {x y : Str} {b b' : Bd} (h : Ck (!(y == x))) (hr : ρ.lookup y = some b') : ((x, b) :: ρ).lookup y = some b' := by rw [List.lookup_cons, (show (y == x) = false by simpa using h.h)]; exact hr
theorem lk_sh {x : Str} {b : Bd} : (setR ρ x b).lookup x = some b := by rw [@setR_lookup ⟨0⟩, if_pos rfl]
theorem lk_st {x y : Str} {b b' : Bd} (h : Ck (!(y == x))) (hr : ρ.lookup y = some b') : (setR ρ x b).lookup y = some b' := by rw [@setR_lookup ⟨0⟩, if_neg (by simpa using h.h)]; exact hr
theorem lk_th {x : Str} {m : Md} {d : PyData} (h : ρ.lookup x = some ⟨m, d⟩) (hm' : Ck (!(m == .brw))) : (thaw ρ).lookup x = some ⟨.val, d⟩ := by
  have hm : (m == .brw) = false := by simpa using hm'.h
  clear hm'
  induction ρ with
  | nil => cases h
  | cons p r ih =>
    obtain ⟨y, c⟩ := p
    simp only [thaw, List.map_cons, List.lookup_cons] at h ⊢
    cases e : x == y with
    | true => rw [e] at h; cases h; cases m <;> first | rfl | cases hm
    | false => rw [e] at h; exact ih h
noncomputable def dbg (x : Str) : Bool := !(x == Str.ofString "__debug__")
theorem q_name {x : Str} {p : Pos} {m : Md} {d : PyData} (h : ρ.lookup x = some ⟨m, d⟩) (hc : Ck ((rd || m == .val) && dbg x)) : evalE Φ (n + 1) K ρ rd (.Name x p) = some d := by
  rw [ev_name, nameD, h]; exact if_pos hc.h
theorem q_int {i : Int} {k} {p : Pos} : evalE Φ (n + 1) K ρ rd (.Constant (.int i) k p) = some (.int i) := by rw [ev_const]; rfl
theorem q_boo {i : Bool} {k} {p : Pos} : evalE Φ (n + 1) K ρ rd (.Constant (.bool i) k p) = some (.bool i) := by rw [ev_const]; rfl
theorem q_str {s : String} {k} {p : Pos} : evalE Φ (n + 1) K ρ rd (.Constant (.str (Str.ofString s)) k p) = some (.str (Str.ofString s)) := by rw [ev_const, constD, if_pos (strOk_ofString s)]
theorem q_tuple {es : List Expr} {c} {p : Pos} {ds : List PyData} (h : mapO (evalE Φ n K ρ false) es = some ds) (hl : Ck (Nat.ble ds.length sizeLine)) : evalE Φ (n + 1) K ρ rd (.Tuple es c p) = some (.tuple ds) := by
  rw [ev_tuple, h]; exact if_pos (Nat.le_of_ble_eq_true hl.h)
theorem q_list {es : List Expr} {p : Pos} {ds : List PyData} (h : mapO (evalE Φ n K ρ false) es = some ds) (hl : Ck (Nat.ble ds.length sizeLine)) : evalE Φ (n + 1) K ρ rd (.List es p) = some (.list ds) := by
  rw [ev_list, h]; exact if_pos (Nat.le_of_ble_eq_true hl.h)
theorem q_dict {p : Pos} : evalE Φ (n + 1) K ρ rd (.Dict [] [] p) = some (.dict []) := by rw [evalE]
theorem m_nil {f : Expr → Option PyData} : mapO f [] = some [] := rfl
theorem m_cons {f : Expr → Option PyData} {x : Expr} {r : List Expr} {y : PyData} {ys : List PyData} (h : f x = some y) (hr : mapO f r = some ys) : mapO f (x :: r) = some (y :: ys) := by rw [mapO, h, bnd, hr, bnd]
theorem f_nil {f : Bool → Expr → Option PyData} : mapF f [] [] = some [] := rfl
theorem f_cons {f : Bool → Expr → Option PyData} {b : Bool} {bs : List Bool} {x : Expr} {r : List Expr} {y : PyData} {ys : List PyData} (h : f b x = some y) (hr : mapF f bs r = some ys) : mapF f (b :: bs) (x :: r) = some (y :: ys) := by rw [mapF, h, bnd, hr, bnd]
theorem q_bin {l r : Expr} {op : Operator} {p : Pos} {a b d : PyData} (h1 : evalE Φ n K ρ true l = some a) (h2 : evalE Φ n K ρ true r = some b) (h : binD op a b = some d) : evalE Φ (n + 1) K ρ rd (.BinOp l op r p) = some d := by rw [ev_bin, h1, bnd, h2, bnd]; exact h
theorem q_un {x : Expr} {op : UnaryOp} {p : Pos} {a d : PyData} (h1 : evalE Φ n K ρ true x = some a) (h : unD op a = some d) : evalE Φ (n + 1) K ρ rd (.UnaryOp op x p) = some d := by rw [ev_un, h1, bnd]; exact h
theorem q_cmp {l r : Expr} {op : CmpOp} {p : Pos} {c : Bool} (h : cmpE Φ n K ρ l op r = some c) : evalE Φ (n + 1) K ρ rd (.Compare l [op] [r] p) = some (.bool c) := by rw [ev_cmp, h]; rfl
noncomputable def notSl : Expr → Bool
  | .Slice _ _ _ _ => false
  | _ => true
theorem q_sub {v i : Expr} {p : Pos} {a k d : PyData} (hi : Ck (notSl i)) (h1 : evalE Φ n K ρ true v = some a) (h2 : evalE Φ n K ρ true i = some k) (h : idxD a k = some d) : evalE Φ (n + 1) K ρ rd (.Subscript v i p) = some d := by
  have e : evalE Φ (n + 1) K ρ rd (.Subscript v i p) = (evalE Φ n K ρ true v).bind fun a => (evalE Φ n K ρ true i).bind fun k => idxD a k := by cases i <;> first | (rw [evalE]; done) | (rw [evalE]; intros; simp_all; done) | cases hi.h
  rw [e, h1, bnd, h2, bnd]; exact h
theorem q_slice {v : Expr} {lo hi st : Option Expr} {q p : Pos} {a d : PyData} {l h s : Option Int} (h1 : evalE Φ n K ρ true v = some a) (hl : partE Φ n K ρ lo = some l) (hh : partE Φ n K ρ hi = some h) (hs : partE Φ n K ρ st = some s) (hd : slcD a (some l) (some h) (some s) = some d) : evalE Φ (n + 1) K ρ rd (.Subscript v (.Slice lo hi st q) p) = some d := by
  rw [ev_slice, h1, bnd, hl, hh, hs]; exact hd
theorem p_none : partE Φ (n + 1) K ρ none = some none := by rw [partE]
theorem p_some {e : Expr} {i : Int} (h : evalE Φ n K ρ true e = some (.int i)) : partE Φ (n + 1) K ρ (some e) = some (some i) := by rw [pt_some, h]; rfl
noncomputable def fnOk (K : Kd) (g : Str) : Bool := !(g == Str.ofString "all") && (K g == some .globalImplicit && !(g == Str.ofString "__debug__")) && (match biOf g with | none => true | _ => false)
theorem q_call {g : Str} {q p : Pos} {args : List Expr} {fl : List Bool} {F : List PyData → Option PyData} {ds : List PyData} {d : PyData} (hΦ : Φ g = some (fl, F)) (hk' : Ck (fnOk K g)) (hm : mapF (evalE Φ n K ρ) fl args = some ds) (hF : F ds = some d) : evalE Φ (n + 1) K ρ rd (.Call (.Name g q) args [] p) = some d := by
  have hk := hk'.h
  simp only [fnOk, Bool.and_eq_true, Bool.not_eq_true'] at hk
  rw [ev_call (hg := hk.1.1), if_pos (by simp only [Bool.and_eq_true, Bool.not_eq_true']; exact hk.1.2)]
  have hb : biOf g = none := by have := hk.2; split at this; assumption; cases this
  rw [hb, callB_fn (h := hΦ), hm, bnd]; exact hF
noncomputable def biOk (K : Kd) (g : Str) (b : Bi) : Bool := !(g == Str.ofString "all") && (K g == some .globalImplicit && !(g == Str.ofString "__debug__")) && (match biOf g with | some c => decide (c = b) | _ => false)
theorem q_bi {g : Str} (b : Bi) {q p : Pos} {args : List Expr} {ds : List PyData} {d : PyData} (hk' : Ck (biOk K g b)) (hn : b ≠ .isi) (hm : mapO (evalE Φ n K ρ true) args = some ds) (hF : biD b ds = some d) : evalE Φ (n + 1) K ρ rd (.Call (.Name g q) args [] p) = some d := by
  have hk := hk'.h
  simp only [biOk, Bool.and_eq_true, Bool.not_eq_true'] at hk
  rw [ev_call (hg := hk.1.1), if_pos (by simp only [Bool.and_eq_true, Bool.not_eq_true']; exact hk.1.2)]
  have hb : biOf g = some b := by
    have := hk.2
    split at this
    · rename_i c e; rw [e, of_decide_eq_true this]
    · cases this
  rw [hb]
  cases b with
  | isi => exact absurd rfl hn
  | len => rw [callB_len, hm, bnd]; exact hF
  | abs => rw [callB_abs, hm, bnd]; exact hF
  | sum => rw [callB_sum, hm, bnd]; exact hF
  | sorted => rw [callB_sorted, hm, bnd]; exact hF
  | list => rw [callB_list, hm, bnd]; exact hF
theorem q_len {q p : Pos} {args : List Expr} {ds : List PyData} {d : PyData} (hk : Ck (biOk K (Str.ofString "len") .len)) (hm : mapO (evalE Φ n K ρ true) args = some ds) (hF : biD .len ds = some d) : evalE Φ (n + 1) K ρ rd (.Call (.Name (Str.ofString "len") q) args [] p) = some d := q_bi .len hk (by intro h; cases h) hm hF
theorem q_abs {q p : Pos} {args : List Expr} {ds : List PyData} {d : PyData} (hk : Ck (biOk K (Str.ofString "abs") .abs)) (hm : mapO (evalE Φ n K ρ true) args = some ds) (hF : biD .abs ds = some d) : evalE Φ (n + 1) K ρ rd (.Call (.Name (Str.ofString "abs") q) args [] p) = some d := q_bi .abs hk (by intro h; cases h) hm hF
theorem q_sorted {q p : Pos} {args : List Expr} {ds : List PyData} {d : PyData} (hk : Ck (biOk K (Str.ofString "sorted") .sorted)) (hm : mapO (evalE Φ n K ρ true) args = some ds) (hF : biD .sorted ds = some d) : evalE Φ (n + 1) K ρ rd (.Call (.Name (Str.ofString "sorted") q) args [] p) = some d := q_bi .sorted hk (by intro h; cases h) hm hF
theorem q_lst {q p : Pos} {args : List Expr} {ds : List PyData} {d : PyData} (hk : Ck (biOk K (Str.ofString "list") .list)) (hm : mapO (evalE Φ n K ρ true) args = some ds) (hF : biD .list ds = some d) : evalE Φ (n + 1) K ρ rd (.Call (.Name (Str.ofString "list") q) args [] p) = some d := q_bi .list hk (by intro h; cases h) hm hF
noncomputable def cmOk (K : Kd) (l : Expr) (op : CmpOp) (r : Expr) : Bool := !(behindInMarks op r) && (match typeArg? K l with | none => true | _ => false)
theorem c_op {l r : Expr} {op : CmpOp} {a b : PyData} {c : Bool} (hk' : Ck (cmOk K l op r)) (h1 : evalE Φ n K ρ true l = some a) (h2 : evalE Φ n K ρ true r = some b) (h : cmpD op a b = some c) : cmpE Φ (n + 1) K ρ l op r = some c := by
  have hk := hk'.h
  simp only [cmOk, Bool.and_eq_true, Bool.not_eq_true'] at hk
  have ht : typeArg? K l = none := by have := hk.2; split at this; assumption; cases this
  rw [cm_step, hk.1, ht, cmB_none, h1, bnd, h2, bnd]
  simpa using h
theorem t_cmp {l r : Expr} {op : CmpOp} {p : Pos} {c : Bool} (h : cmpE Φ n K ρ l op r = some c) : testE Φ (n + 1) K ρ (.Compare l [op] [r] p) = some c := by rw [te_cmp]; exact h
theorem t_not {x : Expr} {p : Pos} {c : Bool} (h : testE Φ n K ρ x = some c) : testE Φ (n + 1) K ρ (.UnaryOp .Not x p) = some (!c) := by rw [te_not, h]; rfl
theorem t_bool {op : BoolOp} {vs : List Expr} {p : Pos} {c : Bool} (h : allGo (testE Φ n K ρ) op vs = some c) : testE Φ (n + 1) K ρ (.BoolOp op vs p) = some c := by rw [te_bool]; exact h
theorem t_name {x : Str} {p : Pos} {c : Bool} (h : evalE Φ n K ρ true (.Name x p) = some (.bool c)) : testE Φ (n + 1) K ρ (.Name x p) = some c := by rw [te_name, h]; rfl
theorem t_call {f : Expr} {a : List Expr} {k} {p : Pos} {c : Bool} (h : evalE Φ n K ρ true (.Call f a k p) = some (.bool c)) : testE Φ (n + 1) K ρ (.Call f a k p) = some c := by rw [te_call, h]; rfl
theorem a_and {f : Expr → Option Bool} {x y : Expr} {c1 c2 : Bool} (h : f x = some c1) (hr : c1 = true → f y = some c2) : allGo f .And [x, y] = some (c1 && c2) := by
  rw [allGo, h, bnd]
  cases c1 with
  | false => rfl
  | true => simp only [allGo, hr rfl, bnd]; cases c2 <;> rfl
theorem a_or {f : Expr → Option Bool} {x y : Expr} {c1 c2 : Bool} (h : f x = some c1) (hr : c1 = false → f y = some c2) : allGo f .Or [x, y] = some (c1 || c2) := by
  rw [allGo, h, bnd]
  cases c1 with
  | true => rfl
  | false => simp only [allGo, hr rfl, bnd]; cases c2 <;> rfl
theorem s_nil {f : Rho → Stmt → Option (Fl × Rho)} (h : ρ = ρ1) : seqGo f ρ [] = some (.next, ρ1) := by rw [h]; rfl
theorem s_next {f : Rho → Stmt → Option (Fl × Rho)} {st : Stmt} {r : List Stmt} {q : Fl × Rho} (h : f ρ st = some (.next, ρ1)) (hr : seqGo f ρ1 r = some q) : seqGo f ρ (st :: r) = some q := by rw [seq_next h]; exact hr
theorem s_ret {e : Expr} {p : Pos} {r : List Stmt} {d : PyData} (h : evalE Φ n K (thaw ρ) false e = some d) : seqGo (execS Φ wf (n + 1) K) ρ (.Return (some e) p :: r) = some (.ret d, ρ) := seq_ret (by rw [ex_ret, h]; rfl)
theorem x_if {t : Expr} {b o : List Stmt} {p : Pos} {c : Bool} {q : Fl × Rho} (ht : testE Φ n K ρ t = some c) (hT : c = true → seqGo (execS Φ wf n K) ρ b = some q) (hF : c = false → seqGo (execS Φ wf n K) ρ o = some q) : execS Φ wf (n + 1) K ρ (.If t b o p) = some q := by
  cases c with
  | true => exact exec_if_true ht (hT rfl)
  | false => exact exec_if_false ht (hF rfl)
theorem x_ift {t : Expr} {b o : List Stmt} {p : Pos} {c : Bool} {q : Fl × Rho} (ht : testE Φ n K ρ t = some c) (hc : c = true) (hb : seqGo (execS Φ wf n K) ρ b = some q) : execS Φ wf (n + 1) K ρ (.If t b o p) = some q := exec_if_true (by rw [ht, hc]) hb
theorem x_iff {t : Expr} {b o : List Stmt} {p : Pos} {c : Bool} {q : Fl × Rho} (ht : testE Φ n K ρ t = some c) (hc : c = false) (hb : seqGo (execS Φ wf n K) ρ o = some q) : execS Φ wf (n + 1) K ρ (.If t b o p) = some q := exec_if_false (by rw [ht, hc]) hb
noncomputable def locK (K : Kd) (x : Str) : Bool := K x == some .local || K x == some .cell
theorem x_val {x : Str} {v : Expr} {q p : Pos} {d : PyData} (hK' : Ck (locK K x && !ownN x)) (hv : evalE Φ n K ρ false v = some d) : execS Φ wf (n + 1) K ρ (.Assign [.Name x q] v p) = some (.next, setR ρ x ⟨.val, d⟩) := by
  have hK := hK'.h
  simp only [Bool.and_eq_true, Bool.not_eq_true'] at hK
  rw [ex_assign, if_pos (by simpa [locK] using hK.1), hv, mpd, frm_val _ _ hK.2]
theorem x_own {x : Str} {v : Expr} {q p : Pos} {d : PyData} (hK' : Ck (locK K x && ownN x)) (hv : evalE Φ n K ρ false v = some d) (hf : isFresh v d = .own) : execS Φ wf (n + 1) K ρ (.Assign [.Name x q] v p) = some (.next, setR ρ x ⟨.own, d⟩) := by
  have hK := hK'.h
  simp only [Bool.and_eq_true] at hK
  rw [ex_assign, if_pos (by simpa [locK] using hK.1), hv, mpd, frm_own _ _ hK.2, hf]
theorem r_ret {e : Expr} {p : Pos} {r : List Stmt} {d d' : PyData} (h : evalE Φ n K (thaw ρ) false e = some d') (hd : d' = d) : (seqGo (execS Φ wf (n + 1) K) ρ (.Return (some e) p :: r)).bind retOf = some d := by rw [s_ret h, ← hd]; rfl
theorem r_next {f : Rho → Stmt → Option (Fl × Rho)} {st : Stmt} {r : List Stmt} {d : PyData} (h : f ρ st = some (.next, ρ1)) (hr : (seqGo f ρ1 r).bind retOf = some d) : (seqGo f ρ (st :: r)).bind retOf = some d := by rw [seq_next h]; exact hr
theorem ret_inv {x : Option (Fl × Rho)} {d : PyData} (h : x.bind retOf = some d) : ∃ ρ, x = some (.ret d, ρ) := by
  cases x with
  | none => cases h
  | some p =>
    obtain ⟨f, r⟩ := p
    cases f with
    | ret d' => cases h; exact ⟨r, rfl⟩
    | _ => cases h
theorem r_ift {t : Expr} {b o r : List Stmt} {p : Pos} {c : Bool} {d : PyData} (ht : testE Φ n K ρ t = some c) (hc : c = true) (hb : (seqGo (execS Φ wf n K) ρ b).bind retOf = some d) : (seqGo (execS Φ wf (n + 1) K) ρ (.If t b o p :: r)).bind retOf = some d := by
  obtain ⟨ρ', e⟩ := ret_inv hb
  subst hc
  rw [seq_ret (exec_if_true ht e)]; rfl
theorem r_iff {t : Expr} {b o r : List Stmt} {p : Pos} {c : Bool} {d : PyData} (ht : testE Φ n K ρ t = some c) (hc : c = false) (hb : (seqGo (execS Φ wf n K) ρ o).bind retOf = some d) : (seqGo (execS Φ wf (n + 1) K) ρ (.If t b o p :: r)).bind retOf = some d := by
  obtain ⟨ρ', e⟩ := ret_inv hb
  subst hc
  rw [seq_ret (exec_if_false ht e)]; rfl
theorem r_skip {t : Expr} {b r : List Stmt} {p : Pos} {c : Bool} {d : PyData} (ht : testE Φ n K ρ t = some c) (hc : c = false) (hr : (seqGo (execS Φ wf (n + 1) K) ρ r).bind retOf = some d) : (seqGo (execS Φ wf (n + 1) K) ρ (.If t b [] p :: r)).bind retOf = some d := by
  subst hc
  exact r_next (exec_if_false ht rfl) hr
theorem cs_lit (a b : String) : cmpD .Eq (.str (Str.ofString a)) (.str (Str.ofString b)) = some (a == b) := by rw [cm1, dep_str, dep_str, Bool.and_self, if_pos rfl, eqv_str, ofString_beq]
theorem ci_eq (a b : Int) : cmpD .Eq (.int a) (.int b) = some (decide (a = b)) := by rw [cm1, dep_int, dep_int, Bool.and_self, if_pos rfl, eqv_int]
theorem ce_eq (x : String × Int) (k : String) (i : Int) : cmpD .Eq (enc x) (.tuple [.str (Str.ofString k), .int i]) = some (decide (x = (k, i))) := by rw [cm1, dep_enc, dep_tup, Bool.and_self, if_pos rfl, eqv_enc]
theorem b_mod {a b : Int} (h : Ck (decide (0 < b) && decide (b < 1073741824))) : binD .Mod (.int a) (.int b) = some (.int (a.fmod b)) := if_pos (by simpa using h.h)
theorem b_div {a b : Int} (h : Ck (decide (0 < b) && decide (b < 1073741824))) : binD .FloorDiv (.int a) (.int b) = some (.int (a.fdiv b)) := if_pos (by simpa using h.h)
theorem b_add {a b : Int} : binD .Add (.int a) (.int b) = some (.int (a + b)) := rfl
theorem b_sub {a b : Int} : binD .Sub (.int a) (.int b) = some (.int (a - b)) := rfl
theorem u_neg {a : Int} : unD .USub (.int a) = some (.int (-a)) := rfl
theorem x_app {x attr : Str} {e : Expr} {q apos cpos p : Pos} {xs : List PyData} {d : PyData} (hk' : Ck (attr == Str.ofString "append" && apos.endLine == cpos.line && dbg x)) (hl : ρ.lookup x = some ⟨.own, .list xs⟩) (he : evalE Φ n K ρ false e = some d) (hz : xs.length < 16777216) : execS Φ wf (n + 1) K ρ (.Expr (.Call (.Attribute (.Name x q) attr apos) [e] [] cpos) p) = some (.next, setR ρ x ⟨.own, .list (xs ++ [d])⟩) := by
  rw [ex_app, if_pos (by simpa [dbg] using hk'.h), hl, he, appB_own, bnd, if_pos (by rw [szl]; exact hz)]
theorem x_store {x : Str} {i v : Expr} {q p r : Pos} {D : List (PyData × PyData)} {d : PyData} {c : Int} (hk' : Ck (notComp v && dbg x)) (hl : ρ.lookup x = some ⟨.own, .dict D⟩) (hv : evalE Φ n K ρ false v = some d) (hi : evalE Φ n K ρ true i = some (.int c)) (hz : D.length ≤ 16777216) : execS Φ wf (n + 1) K ρ (.Assign [.Subscript (.Name x q) i p] v r) = some (.next, setR ρ x ⟨.own, .dict (putI D c d)⟩) := by
  rw [ex_store, if_pos (by simpa [dbg] using hk'.h), hl, hv, hi, storeB_own, if_pos (by rw [szl]; exact hz)]
theorem i_range {e : Expr} {args : List Expr} {ds xs : List PyData} (hr : rangeArgs? K e = some args) (hm : mapO (evalE Φ n K ρ true) args = some ds) (hx : rangeD ds = some xs) : itemsE Φ (n + 1) K ρ rd e = some xs := by rw [it_step, hr, itB_some, hm, bnd]; exact hx
theorem i_val {e : Expr} {d : PyData} {xs : List PyData} (hr : rangeArgs? K e = none) (hm : evalE Φ n K ρ rd e = some d) (hx : itemsD d = some xs) : itemsE Φ (n + 1) K ρ rd e = some xs := by rw [it_step, hr, itB_none, hm, bnd]; exact hx
theorem b_nm {x : Str} {p : Pos} {d : PyData} (h : Ck (locK K x)) (hs : setR ρ x ⟨.val, d⟩ = ρ1) : bindT K (.Name x p) d ρ = some ρ1 := by rw [bindT, if_pos (show (K x == some NameKind.local || K x == some NameKind.cell) = true from h.h), hs]
theorem tg {x : Str} {p : Pos} (h : Ck (locK K x)) : tgtT K (.Name x p) = true := h.h
theorem idx_str0 {a b : PyData} : idxD (.tuple [a, b]) (.int 0) = some a := rfl
theorem idx_str1 {a b : PyData} : idxD (.tuple [a, b]) (.int 1) = some b := rfl
theorem lk_cap {sc : Scope} {x : Str} {b : Bd} (hx : Ck (sc.names.lookup x == some .free)) (h : ρ.lookup x = some b) : (capt sc ρ).lookup x = some b := by
  induction ρ with
  | nil => cases h
  | cons p r ih =>
    obtain ⟨y, c⟩ := p
    rw [List.lookup_cons] at h
    unfold capt at ih ⊢
    cases e : x == y with
    | true =>
      rw [e] at h
      have e' := eq_of_beq e
      subst e'
      rw [List.filter_cons, if_pos hx.h, List.lookup_cons, e]; exact h
    | false =>
      rw [e] at h
      rw [List.filter_cons]
      split
      · rw [List.lookup_cons, e]; exact ih h
      · exact ih h
theorem q_lc {elt tgt iter : Expr} {ifs : List Expr} {sc : Scope} {p : Pos} {asy : Int} {items ys : List PyData} (hk : Ck (asy == 0 && compSc sc K && tgtC sc tgt)) (hi : itemsE Φ n K ρ true iter = some items) (hg : compGo (compB sc tgt (capt sc ρ) (testsB (testE Φ n (fun x => (relN sc.names K).lookup x)) ifs) (elB (evalE Φ n (fun x => (relN sc.names K).lookup x)) elt)) items = some ys) : evalE Φ (n + 1) K ρ rd (.ListComp elt [⟨tgt, iter, ifs, asy⟩] sc p) = some (.list ys) := by
  rw [ev_lc, if_pos hk.h, hi, bnd, hg]; rfl
theorem cb_nm {sc : Scope} {x : Str} {p : Pos} {test : Rho → Option Bool} {el : Rho → Option PyData} {d y : PyData} {c : Bool} (hx : Ck (sc.names.lookup x == some .local)) (ht : test (setR ρ x ⟨.val, d⟩) = some c) (he : c = true → el (setR ρ x ⟨.val, d⟩) = some y) : compB sc (.Name x p) ρ test el d = some (if c then some y else none) := by
  rw [compB, bindC, if_pos hx.h, bnd, ht, bnd]
  cases c with
  | true => rw [he rfl]; rfl
  | false => rfl
theorem cb_tp {sc : Scope} {x z : Str} {p q r : Pos} {k} {test : Rho → Option Bool} {el : Rho → Option PyData} {d e y : PyData} {c : Bool} (hx : Ck (sc.names.lookup x == some .local && sc.names.lookup z == some .local && !(x == z))) (ht : test (setR (setR ρ x ⟨.val, d⟩) z ⟨.val, e⟩) = some c) (he : c = true → el (setR (setR ρ x ⟨.val, d⟩) z ⟨.val, e⟩) = some y) : compB sc (.Tuple [.Name x p, .Name z q] k r) ρ test el (.tuple [d, e]) = some (if c then some y else none) := by
  rw [compB, bindC, if_pos hx.h, bnd, ht, bnd]
  cases c with
  | true => rw [he rfl]; rfl
  | false => rfl
theorem ts_nil {f : Rho → Expr → Option Bool} : testsB f [] ρ = some true := rfl
theorem ts_one {f : Rho → Expr → Option Bool} {t : Expr} {c : Bool} (h : f ρ t = some c) : testsB f [t] ρ = some c := by rw [testsB, allGo, h, bnd]; cases c <;> rfl
theorem el_of {f : Rho → Bool → Expr → Option PyData} {e : Expr} {d : PyData} (h : f ρ false e = some d) : elB f e ρ = some d := h

/-- a for whose state is told by what the names hold -/
theorem has_turns {α σ : Type} {x : Str} {xp : Pos} {body : List Stmt} (en : α → PyData) (step : σ → α → Except PyData σ) (L : σ → Rho → Prop) (Inv : Nat → σ → Prop) (N : Nat) (hK : Ck (locK K x)) (hx : ∀ s ρ b, L s ρ → L s (setR ρ x b))
    (hb : ∀ i s y ρ, i < N → Inv i s → L s ρ → ρ.lookup x = some ⟨.val, en y⟩ → (∀ s', step s y = .ok s' → Inv (i + 1) s' ∧ ∃ ρ', seqGo (execS Φ wf n K) ρ body = some (.next, ρ') ∧ L s' ρ') ∧ (∀ d, step s y = .error d → ∃ ρ', seqGo (execS Φ wf n K) ρ body = some (.ret d, ρ'))) :
    ∀ (l : List α) (i : Nat) (s : σ) (ρ : Rho), i + l.length ≤ N → Inv i s → L s ρ →
      (∀ s', l.foldlM step s = .ok s' → Inv (i + l.length) s' ∧ ∃ ρ', forGo (fun ρ d => (bindT K (.Name x xp) d ρ).bind (runB (execS Φ wf n K) body)) ρ (l.map en) = some (.next, ρ') ∧ L s' ρ') ∧
      (∀ d, l.foldlM step s = .error d → ∃ ρ', forGo (fun ρ d => (bindT K (.Name x xp) d ρ).bind (runB (execS Φ wf n K) body)) ρ (l.map en) = some (.ret d, ρ'))
  | [], i, s, ρ, _, hi, hL => ⟨fun s' e => by cases e; exact ⟨hi, ρ, rfl, hL⟩, fun d e => by cases e⟩
  | y :: l, i, s, ρ, hN, hi, hL => by
    simp only [List.length_cons] at hN
    have hbt : bindT K (.Name x xp) (en y) ρ = some (setR ρ x ⟨.val, en y⟩) := b_nm hK rfl
    obtain ⟨g1, g2⟩ := hb i s y (setR ρ x ⟨.val, en y⟩) (by omega) hi (hx s ρ _ hL) lk_sh
    cases hs : step s y with
    | ok s1 =>
      obtain ⟨hi1, ρ', hF, hL'⟩ := g1 s1 hs
      obtain ⟨r1, r2⟩ := has_turns (xp := xp) en step L Inv N hK hx hb l (i + 1) s1 ρ' (by omega) hi1 hL'
      simp only [List.foldlM_cons, hs, List.map_cons, forGo, hbt, Option.bind_some, runB, hF, List.length_cons]
      rw [show i + (l.length + 1) = i + 1 + l.length by omega]
      exact ⟨r1, r2⟩
    | error d =>
      obtain ⟨ρ', hF⟩ := g2 d hs
      simp only [List.foldlM_cons, hs, List.map_cons, forGo, hbt, Option.bind_some, runB, hF]
      refine ⟨fun s' e => (by cases e), fun d' e => ?_⟩
      cases e
      exact ⟨ρ', rfl⟩
theorem for_has {α σ : Type} {x : Str} {xp pos : Pos} {iter : Expr} {body rest : List Stmt} {res : PyData} (en : α → PyData) (step : σ → α → Except PyData σ) (L : σ → Rho → Prop) (Inv : Nat → σ → Prop) (l : List α) (s0 : σ) (hK : Ck (locK K x)) (hi : itemsE Φ n K ρ false iter = some (l.map en)) (h0 : L s0 ρ) (hI : Inv 0 s0) (hx : ∀ s ρ b, L s ρ → L s (setR ρ x b))
    (hb : ∀ i s y ρ, i < l.length → Inv i s → L s ρ → ρ.lookup x = some ⟨.val, en y⟩ → (∀ s', step s y = .ok s' → Inv (i + 1) s' ∧ ∃ ρ', seqGo (execS Φ wf n K) ρ body = some (.next, ρ') ∧ L s' ρ') ∧ (∀ d, step s y = .error d → ∃ ρ', seqGo (execS Φ wf n K) ρ body = some (.ret d, ρ')))
    (hend : ∀ s' ρ, l.foldlM step s0 = .ok s' → Inv l.length s' → L s' ρ → (seqGo (execS Φ wf (n + 1) K) ρ rest).bind retOf = some res) (herr : ∀ d, l.foldlM step s0 = .error d → d = res) :
    (seqGo (execS Φ wf (n + 1) K) ρ (.For (.Name x xp) iter body [] pos :: rest)).bind retOf = some res := by
  obtain ⟨r1, r2⟩ := has_turns (xp := xp) en step L Inv l.length hK hx hb l 0 s0 ρ (by omega) hI h0
  cases hf : l.foldlM step s0 with
  | ok s' =>
    obtain ⟨h1, ρ', h2, h3⟩ := r1 s' hf
    rw [Nat.zero_add] at h1
    exact r_next (exec_for (show tgtT K (.Name x xp) = true from hK.h) hi h2) (hend s' ρ' hf h1 h3)
  | error d =>
    obtain ⟨ρ', h2⟩ := r2 d hf
    rw [seq_ret (exec_for (show tgtT K (.Name x xp) = true from hK.h) hi h2), ← herr d hf]; rfl
theorem for_hasP {α σ : Type} {x : Str} {xp pos : Pos} {iter : Expr} {body rest : List Stmt} {res : PyData} (en : α → PyData) (step : σ → α → σ) (L : σ → Rho → Prop) (Inv : Nat → σ → Prop) (l : List α) (s0 : σ) (hK : Ck (locK K x)) (hi : itemsE Φ n K ρ false iter = some (l.map en)) (h0 : L s0 ρ) (hI : Inv 0 s0) (hx : ∀ s ρ b, L s ρ → L s (setR ρ x b))
    (hb : ∀ i s y ρ, i < l.length → Inv i s → L s ρ → ρ.lookup x = some ⟨.val, en y⟩ → Inv (i + 1) (step s y) ∧ ∃ ρ', seqGo (execS Φ wf n K) ρ body = some (.next, ρ') ∧ L (step s y) ρ')
    (hend : ∀ ρ, Inv l.length (l.foldl step s0) → L (l.foldl step s0) ρ → (seqGo (execS Φ wf (n + 1) K) ρ rest).bind retOf = some res) :
    (seqGo (execS Φ wf (n + 1) K) ρ (.For (.Name x xp) iter body [] pos :: rest)).bind retOf = some res := by
  refine for_has en (fun s y => .ok (step s y)) L Inv l s0 hK hi h0 hI hx (fun i s y ρ h1 h2 h3 h4 => ⟨fun s' e => ?_, fun d e => by cases e⟩) (fun s' ρ e h1 h2 => ?_) fun d e => ?_
  · cases e; exact hb i s y ρ h1 h2 h3 h4
  · rw [foldlM_ok] at e; cases e; exact hend ρ h1 h2
  · rw [foldlM_ok] at e; cases e
/-- behind a statement only what L says is kept -/
theorem r_ex {f : Rho → Stmt → Option (Fl × Rho)} {st : Stmt} {r : List Stmt} {d : PyData} (L : Rho → Prop) (h : ∃ ρ1, f ρ st = some (.next, ρ1) ∧ L ρ1) (hr : ∀ ρ1, L ρ1 → (seqGo f ρ1 r).bind retOf = some d) : (seqGo f ρ (st :: r)).bind retOf = some d := by
  obtain ⟨ρ1, h1, h2⟩ := h
  exact r_next h1 (hr ρ1 h2)
theorem turn_next {σ : Type} {f : Rho → Stmt → Option (Fl × Rho)} {st : Stmt} {r : List Stmt} {T Q : σ → Prop} {L : σ → Rho → Prop} {D : PyData → Prop} (h : f ρ st = some (.next, ρ1))
    (hr : (∀ s', T s' → Q s' ∧ ∃ ρ', seqGo f ρ1 r = some (.next, ρ') ∧ L s' ρ') ∧ (∀ d, D d → ∃ ρ', seqGo f ρ1 r = some (.ret d, ρ'))) : (∀ s', T s' → Q s' ∧ ∃ ρ', seqGo f ρ (st :: r) = some (.next, ρ') ∧ L s' ρ') ∧ (∀ d, D d → ∃ ρ', seqGo f ρ (st :: r) = some (.ret d, ρ')) := by rw [seq_next h]; exact hr
end
end Mine
set_option autoImplicit false
set_option maxRecDepth 100000
set_option linter.unusedSimpArgs false
namespace Mine
open PySem PySem.Spec PySem.Calls PyProof.Rows PySem.W
abbrev pw := PySem.Challenge.pw_k13_0026
-- opens a call of the i-th def
local macro_rules | `(tactic| ktr_unf) => `(tactic| (
  unfold callD
  simp only [defOf, recAt, pw, PySem.Challenge.pw_k13_0026, List.getElem?_cons_succ, List.getElem?_cons_zero, Def.names, entry, List.map_cons, List.map_nil, List.length_cons, List.length_nil, Nat.reduceAdd, if_true, List.zip_cons_cons, List.zip_nil_left, List.zip_nil_right, Bool.false_eq_true, if_false]))
-- runs it
local macro_rules | `(tactic| ktr_rel) => `(tactic| (
  repeat' (with_reducible first
    | exact Ck.mk (by kernel_rfl)
    | assumption
    | exact q_int | exact q_boo | exact q_str | exact q_dict | exact m_nil | exact f_nil | exact p_none
    | exact lk_h | exact lk_sh | exact ts_nil
    | apply q_name | apply q_tuple | apply q_list | apply m_cons | apply f_cons | apply q_bin | apply q_un | apply q_cmp | apply q_slice | apply q_sub | apply p_some
    | apply q_len | apply q_abs | apply q_sorted | apply q_lst | apply q_call
    | apply c_op | apply t_cmp | apply t_not | apply t_bool | apply t_name | apply t_call | apply a_and | apply a_or
    | apply lk_t | apply lk_st | apply lk_th | apply lk_cap | apply ts_one | apply el_of
    | apply s_ret | apply s_next | apply x_if | apply x_val | apply x_own
    | exact b_add | exact b_sub | apply b_mod | apply b_div | exact u_neg | exact bn6 _
    | exact idx_enc0 _ | exact idx_str0 | exact idx_str1 | exact idx_enc1 _ | exact cs_lit _ _ | exact ci_eq _ _ | exact ce_eq _ _ _ | exact cm3 _ _ | exact cm4 _ _ | exact cm5 _ _ | exact cm6 _ _
    | (intro h; cases h; done) | intro _)))

noncomputable def cell (ns : List Int) (i : Int) : Int := ns.getD i.toNat 0
theorem run_cell (Φ : Fns) (wf : Nat) (ns : List Int) (i : Int) (hn : ns.length ≤ 63) (h0 : 0 ≤ i) :
    callD Φ wf 60 (defOf [false, false] (recAt pw 8)) [.list (ns.map .int), .int i] = some (.int (cell ns i)) := by
  ktr_unf
  have hl : biD .len [.list (ns.map .int)] = some (.int ns.length) := by rw [bi1, if_pos (by rw [szl, List.length_map]; omega), List.length_map]
  by_cases h2 : i < (ns.length : Int)
  · have hx : idxD (.list (ns.map .int)) (.int i) = some (.int (cell ns i)) := by
      have h5 : i.toNat < ns.length := by omega
      have := idx_nat (ns.map .int) i.toNat (by simpa using h5) (by rw [List.length_map]; omega)
      rw [show ((i.toNat : Nat) : Int) = i by omega] at this
      rw [this, cell, List.getD_eq_getElem?_getD, List.getElem?_eq_getElem h5]
      simp
    exact r_ift (by ktr_rel) (decide_eq_true h2) (r_ret (by ktr_rel) (by rfl))
  · refine r_skip (by ktr_rel) (decide_eq_false h2) (r_ret (by ktr_rel) ?_)
    rw [cell, List.getD_eq_getElem?_getD, List.getElem?_eq_none (by omega)]; rfl

noncomputable def leafI (c : Int) : String × Int := if c.fmod 5 = 0 then ("int", 0) else if c.fmod 5 = 1 then ("bool", 0) else if c.fmod 5 = 2 then ("var", if c < 0 then -c else c) else ("var", (c.fdiv 5).fmod 3)
theorem run_leaf (Φ : Fns) (wf : Nat) (c : Int) : callD Φ wf 60 (defOf [false] (recAt pw 9)) [.int c] = some (enc (leafI c)) := by
  ktr_unf
  have ha : biD .abs [.int c] = some (.int (if c < 0 then -c else c)) := rfl
  refine r_next (by ktr_rel) ?_
  unfold leafI
  by_cases h0 : c.fmod 5 = 0
  · rw [if_pos h0]
    exact r_ift (by ktr_rel) (decide_eq_true h0) (r_ret (by ktr_rel) (by rfl))
  refine r_skip (by ktr_rel) (decide_eq_false h0) ?_
  rw [if_neg h0]
  by_cases h1 : c.fmod 5 = 1
  · rw [if_pos h1]
    exact r_ift (by ktr_rel) (decide_eq_true h1) (r_ret (by ktr_rel) (by rfl))
  refine r_skip (by ktr_rel) (decide_eq_false h1) ?_
  rw [if_neg h1]
  by_cases h2 : c.fmod 5 = 2
  · rw [if_pos h2]
    exact r_ift (by ktr_rel) (decide_eq_true h2) (r_ret (by ktr_rel) (by rfl))
  refine r_skip (by ktr_rel) (decide_eq_false h2) ?_
  rw [if_neg h2]
  exact r_ret (by ktr_rel) (by rfl)
noncomputable def makerI (c : Int) : String × Int := if c.fmod 2 = 0 then ("fun", 0) else ("pair", 0)
theorem run_maker (Φ : Fns) (wf : Nat) (c : Int) : callD Φ wf 60 (defOf [false] (recAt pw 10)) [.int c] = some (enc (makerI c)) := by
  ktr_unf
  unfold makerI
  by_cases h : c.fmod 2 = 0
  · rw [if_pos h]
    exact r_ift (by ktr_rel) (decide_eq_true h) (r_ret (by ktr_rel) (by rfl))
  · rw [if_neg h]
    exact r_skip (by ktr_rel) (decide_eq_false h) (r_ret (by ktr_rel) (by rfl))
noncomputable def bads : List (String × Int) := [("int", 1), ("bool", -1), ("fun", 2), ("pair", 1), ("var", -1), ("nat", 0)]
theorem run_bad (Φ : Fns) (wf : Nat) : callD Φ wf 60 (defOf [] (recAt pw 7)) [] = some (encL bads) := by
  ktr_unf
  exact r_ret (by ktr_rel) (by rfl)
/-! type_ok -/
noncomputable def tyStep (found : Int) (x : String × Int) : Except PyData Int :=
  if x = ("fun", 0) ∨ x = ("pair", 0) then (if found < 2 then .error (.bool false) else .ok (found - 1))
  else if x = ("int", 0) ∨ x = ("bool", 0) then .ok (found + 1)
  else if x.1 = "var" ∧ x.2 ≥ 0 then .ok (found + 1)
  else .error (.bool false)
noncomputable def typeOk (t : List (String × Int)) : Bool := match t.foldlM tyStep 0 with | .ok n => decide (n = 1) | .error _ => false
theorem tyStep_cases (s : Int) (x : String × Int) : ((x = ("fun", 0) ∨ x = ("pair", 0)) ∧ s < 2 ∧ tyStep s x = .error (.bool false)) ∨ ((x = ("fun", 0) ∨ x = ("pair", 0)) ∧ ¬ s < 2 ∧ tyStep s x = .ok (s - 1)) ∨
    ((x = ("int", 0) ∨ x = ("bool", 0)) ∧ tyStep s x = .ok (s + 1)) ∨ ((∃ n, x = ("var", n) ∧ 0 ≤ n) ∧ tyStep s x = .ok (s + 1)) ∨
    (x ≠ ("fun", 0) ∧ x ≠ ("pair", 0) ∧ x ≠ ("int", 0) ∧ x ≠ ("bool", 0) ∧ ¬ (x.1 = "var" ∧ x.2 ≥ 0) ∧ tyStep s x = .error (.bool false)) := by
  unfold tyStep
  by_cases h1 : x = ("fun", 0) ∨ x = ("pair", 0)
  · by_cases h2 : s < 2
    · left; simp [h1, h2]
    · right; left; simp [h1, h2]
  · by_cases h3 : x = ("int", 0) ∨ x = ("bool", 0)
    · right; right; left; simp [h1, h3]
    · by_cases h4 : x.1 = "var" ∧ x.2 ≥ 0
      · right; right; right; left
        refine ⟨⟨x.2, by obtain ⟨a, b⟩ := x; simp only at h4; rw [h4.1], h4.2⟩, by simp [h1, h3, h4]⟩
      · right; right; right; right
        simp only [not_or] at h1 h3
        refine ⟨h1.1, h1.2, h3.1, h3.2, h4, ?_⟩
        simp [h1, h3, h4]
theorem run_type_ok (Φ : Fns) (wf : Nat) (t : List (String × Int)) (ht : t.length ≤ 1000) : callD Φ wf 60 (defOf [false] (recAt pw 1)) [encL t] = some (.bool (typeOk t)) := by
  ktr_unf
  have h1 : t.length ≤ 16777216 := by omega
  have hI := items_encL t h1
  refine r_next (by ktr_rel) ?_
  refine for_seq enc tyStep (fun s x => [(Str.ofString "t", ⟨.val, encL t⟩), (Str.ofString "found", ⟨.val, .int s⟩), (Str.ofString "item", ⟨.val, enc x⟩)]) (fun _ _ => True) t 0 (tg ⟨by kernel_rfl⟩) (i_val (by kernel_rfl) (by ktr_rel) hI) (fun y => b_nm ⟨by kernel_rfl⟩ (by kernel_rfl)) (fun s x y => b_nm ⟨by kernel_rfl⟩ (by kernel_rfl)) trivial ?_ ?_ ?_ ?_
  · intro i s y _ _
    have c1 := ce_eq y "fun" 0
    have c2 := ce_eq y "pair" 0
    have c3 := ce_eq y "int" 0
    have c4 := ce_eq y "bool" 0
    show (∀ s', _ → _ ∧ seqGo _ _ _ = _) ∧ ∀ d, _ → ∃ ρ', seqGo _ _ _ = _
    rcases tyStep_cases s y with ⟨hy, hs, e⟩ | ⟨hy, hs, e⟩ | ⟨hy, e⟩ | ⟨⟨n, hy, hn⟩, e⟩ | ⟨n1, n2, n3, n4, n5, e⟩
    · rw [e]
      refine ⟨fun _ h => (by cases h), fun d h => ?_⟩
      cases h
      refine ret_inv (r_ift (by ktr_rel) (by simpa using hy) (r_ift (by ktr_rel) (decide_eq_true hs) (r_ret (by ktr_rel) (by rfl))))
    · rw [e]
      refine ⟨fun s' h => ⟨trivial, ?_⟩, fun d h => (by cases h)⟩
      cases h
      exact s_next (x_ift (by ktr_rel) (by simpa using hy) (s_next (x_iff (by ktr_rel) (decide_eq_false hs) (s_nil rfl)) (s_next (by ktr_rel) (s_nil rfl)))) (s_nil (by kernel_rfl))
    · rw [e]
      refine ⟨fun s' h => ⟨trivial, ?_⟩, fun d h => (by cases h)⟩
      cases h
      have hn : ¬ (y = ("fun", 0) ∨ y = ("pair", 0)) := by rcases hy with rfl | rfl <;> decide
      exact s_next (x_iff (by ktr_rel) (by simpa using hn) (s_next (x_ift (by ktr_rel) (by simpa using hy) (s_next (by ktr_rel) (s_nil rfl))) (s_nil rfl))) (s_nil (by kernel_rfl))
    · rw [e]
      refine ⟨fun s' h => ⟨trivial, ?_⟩, fun d h => (by cases h)⟩
      cases h
      subst hy
      exact s_next (x_iff (by ktr_rel) (by simp) (s_next (x_iff (by ktr_rel) (by simp) (s_next (x_ift (by ktr_rel) (by simpa using hn) (s_next (by ktr_rel) (s_nil rfl))) (s_nil rfl))) (s_nil rfl))) (s_nil (by kernel_rfl))
    · rw [e]
      refine ⟨fun _ h => (by cases h), fun d h => ?_⟩
      cases h
      refine ret_inv (r_iff (by ktr_rel) (by simp [n1, n2]) (r_iff (by ktr_rel) (by simp [n3, n4]) (r_iff (c := y.1 == "var" && decide (y.2 ≥ 0)) (by ktr_rel) ?_ (r_ret (by ktr_rel) (by rfl)))))
      rw [← Bool.not_eq_true, Bool.and_eq_true, beq_iff_eq, decide_eq_true_eq]
      exact n5
  · intro hl
    subst hl
    exact r_ret (by ktr_rel) (by rfl)
  · intro s' y hf _
    refine r_ret (by ktr_rel) ?_
    simp only [typeOk, hf]
  · intro d hf
    have : d = .bool false := foldlM_err (P := fun d => d = .bool false) tyStep (fun s x d h => by
      rcases tyStep_cases s x with ⟨_, _, e⟩ | ⟨_, _, e⟩ | ⟨_, e⟩ | ⟨_, e⟩ | ⟨_, _, _, _, _, e⟩ <;> rw [e] at h <;> cases h <;> rfl) t 0 d hf
    simp only [this, typeOk, hf]
/-! vars_of -/
noncomputable def voStep (met : List Int) (x : String × Int) : List Int := if x.1 = "var" ∧ x.2 ∉ met then met ++ [x.2] else met
noncomputable def varsOf (t : List (String × Int)) : List Int := t.foldl voStep []
theorem in_ints (k : Int) (l : List Int) : inD (.int k) (.list (l.map .int)) = some (decide (k ∈ l)) := by
  have h1 : (l.map PyData.int).all (dep 8) = true := by rw [List.all_eq_true]; intro d hd; obtain ⟨x, _, rfl⟩ := List.mem_map.mp hd; exact dep_int 8 x
  simp only [inD, dep_int, h1, Bool.and_self, if_true, Option.some.injEq]
  rw [List.any_map, Bool.eq_iff_iff]
  simp [Function.comp_def, eqv_int]
theorem run_vars_of (Φ : Fns) (wf : Nat) (t : List (String × Int)) (ht : t.length ≤ 10000) (hv : (varsOf t).length < 64) : callD Φ wf 60 (defOf [false] (recAt pw 2)) [encL t] = some (.list ((sortI (varsOf t)).map .int)) := by
  ktr_unf
  refine r_next (x_own ⟨by kernel_rfl⟩ (by ktr_rel) rfl) ?_
  refine for_hasP enc voStep (fun s ρ => ρ.lookup (Str.ofString "met") = some ⟨.own, .list (s.map .int)⟩) (fun i s => s.length ≤ i) t [] ⟨by kernel_rfl⟩ (i_val (by kernel_rfl) (by ktr_rel) (items_encL t (by omega))) lk_sh (Nat.le_refl _) (fun s ρ b h => lk_st ⟨by kernel_rfl⟩ h) ?_ ?_
  · intro i s y ρ hi hs hm hy
    have hin : cmpD .NotIn (.int y.2) (.list (s.map .int)) = some (!decide (y.2 ∈ s)) := by rw [cm10, in_ints]; rfl
    refine ⟨by unfold voStep; split; (rw [List.length_append, List.length_singleton]; omega); omega, ?_⟩
    unfold voStep
    by_cases h2 : y.1 = "var" ∧ y.2 ∉ s
    · rw [if_pos h2]
      refine ⟨_, s_next (x_ift (by ktr_rel) (by simp [h2]) (s_next (x_app (xs := s.map .int) ⟨by kernel_rfl⟩ hm (by ktr_rel) (by rw [List.length_map]; omega)) (s_nil rfl))) (s_nil rfl), ?_⟩
      rw [List.map_append]; exact lk_sh
    · rw [if_neg h2]
      exact ⟨_, s_next (x_iff (c := y.1 == "var" && !decide (y.2 ∈ s)) (by ktr_rel) (by rw [← Bool.not_eq_true]; simpa using h2) (s_nil rfl)) (s_nil rfl), hm⟩
  · intro ρ _ hm'
    have hm : ρ.lookup (Str.ofString "met") = some ⟨.own, .list ((varsOf t).map .int)⟩ := hm'
    clear hm'
    have hso : biD .sorted [.list ((varsOf t).map .int)] = some (.list ((sortI (varsOf t)).map .int)) := by rw [bi6, intsOf_map, bnd, if_pos hv]
    exact r_ret (by ktr_rel) (by rfl)

abbrev It := String × Int
abbrev Dct := List (Int × List It)
noncomputable def encDl (S : Dct) : List (PyData × PyData) := S.map fun p => (.int p.1, encL p.2)
noncomputable def encD (S : Dct) : PyData := .dict (encDl S)
noncomputable def lookS : Dct → Int → Option (List It)
  | [], _ => none
  | (j, u) :: r, k => if j = k then some u else lookS r k
noncomputable def putS (S : Dct) (c : Int) (u : List It) : Dct := if S.any fun p => decide (p.1 = c) then S.map fun p => if p.1 = c then (p.1, u) else p else S ++ [(c, u)]
theorem keyIn_enc : ∀ (S : Dct) (k : Int), keyIn (encDl S) k = (lookS S k).map encL
  | [], _ => rfl
  | (j, u) :: r, k => by
    show (if j = k then some (encL u) else keyIn (encDl r) k) = _
    rw [lookS, keyIn_enc r k]
    split <;> rfl
theorem putI_enc (S : Dct) (c : Int) (u : List It) : putI (encDl S) c (encL u) = encDl (putS S c u) := by
  unfold putI putS encDl
  rw [List.any_map]
  have e : ((fun p : PyData × PyData => isKey c p.1) ∘ fun p : Int × List It => (PyData.int p.1, encL p.2)) = fun p => decide (p.1 = c) := rfl
  rw [e]
  split
  · rw [List.map_map, List.map_map]
    apply List.map_congr_left
    intro p _
    show (if isKey c (.int p.1) = true then _ else _) = _
    rw [show isKey c (.int p.1) = decide (p.1 = c) from rfl]
    by_cases h : p.1 = c <;> simp [h]
  · simp
theorem in_encD (S : Dct) (k : Int) : inD (.int k) (encD S) = some (lookS S k).isSome := by
  show some (keyIn (encDl S) k).isSome = _
  rw [keyIn_enc]; cases lookS S k <;> rfl
theorem idx_encD (S : Dct) (k : Int) : idxD (encD S) (.int k) = (lookS S k).map encL := keyIn_enc S k
theorem len_encD (S : Dct) (h : S.length ≤ 16777216) : biD .len [encD S] = some (.int S.length) := by
  rw [encD, bi4, if_pos (by rw [szl]; simpa [encDl] using h)]; simp [encDl]
/-! apply_once -/
noncomputable def aoF (S : Dct) (x : It) : List It := if x.1 = "var" then (lookS S x.2).getD [x] else [x]
noncomputable def aOnce (S : Dct) (t : List It) : List It := t.foldl (fun o x => o ++ aoF S x) []
theorem aoF_len (S : Dct) (hS : ∀ k u, lookS S k = some u → u.length ≤ 3) (x : It) : (aoF S x).length ≤ 3 := by
  unfold aoF
  split
  · cases h : lookS S x.2 with
    | none => simp
    | some u => simpa using hS _ _ h
  · simp
theorem run_apply_once (Φ : Fns) (wf : Nat) (t : List It) (S : Dct) (ht : t.length ≤ 10000) (hS : ∀ k u, lookS S k = some u → u.length ≤ 3) : callD Φ wf 60 (defOf [false, true] (recAt pw 3)) [encL t, encD S] = some (encL (aOnce S t)) := by
  ktr_unf
  refine r_next (x_own ⟨by kernel_rfl⟩ (by ktr_rel) rfl) ?_
  refine for_hasP enc (fun o x => o ++ aoF S x) (fun s ρ => ρ.lookup (Str.ofString "s") = some ⟨.brw, encD S⟩ ∧ ρ.lookup (Str.ofString "out") = some ⟨.own, encL s⟩) (fun i s => s.length ≤ 3 * i) t [] ⟨by kernel_rfl⟩ (i_val (by kernel_rfl) (by ktr_rel) (items_encL t (by omega))) ⟨by ktr_rel, lk_sh⟩ (Nat.le_refl _) (fun s ρ b h => ⟨lk_st ⟨by kernel_rfl⟩ h.1, lk_st ⟨by kernel_rfl⟩ h.2⟩) ?_ ?_
  · rintro i s y ρ hi hs ⟨hd, hm⟩ hy
    have hl := aoF_len S hS y
    refine ⟨by rw [List.length_append]; omega, ?_⟩
    have hin : cmpD .In (.int y.2) (encD S) = some (lookS S y.2).isSome := by rw [cm9, in_encD]
    have hap : ∀ u : List It, encL (s ++ [y]) = .list (s.map enc ++ [enc y]) := fun _ => by simp [encL]
    unfold aoF
    by_cases h2 : y.1 = "var"
    · rw [if_pos h2]
      cases h3 : lookS S y.2 with
      | none =>
        refine ⟨_, s_next (x_iff (c := y.1 == "var" && (lookS S y.2).isSome) (by ktr_rel) (by simp [h3]) (s_next (x_app (xs := s.map enc) ⟨by kernel_rfl⟩ hm (by ktr_rel) (by rw [List.length_map]; omega)) (s_nil rfl))) (s_nil rfl), lk_st ⟨by kernel_rfl⟩ hd, ?_⟩
        rw [Option.getD_none, hap []]; exact lk_sh
      | some u =>
        have hu := hS _ _ h3
        have hix : idxD (encD S) (.int y.2) = some (encL u) := by rw [idx_encD, h3]; rfl
        have had := add_encL s u (by omega)
        rw [Option.getD_some]
        exact ⟨_, s_next (x_ift (c := y.1 == "var" && (lookS S y.2).isSome) (by ktr_rel) (by simp [h2, h3]) (s_next (x_own ⟨by kernel_rfl⟩ (by ktr_rel) rfl) (s_nil rfl))) (s_nil rfl), lk_st ⟨by kernel_rfl⟩ hd, lk_sh⟩
    · rw [if_neg h2]
      refine ⟨_, s_next (x_iff (c := y.1 == "var" && (lookS S y.2).isSome) (by ktr_rel) (by simp [h2]) (s_next (x_app (xs := s.map enc) ⟨by kernel_rfl⟩ hm (by ktr_rel) (by rw [List.length_map]; omega)) (s_nil rfl))) (s_nil rfl), lk_st ⟨by kernel_rfl⟩ hd, ?_⟩
      rw [hap []]; exact lk_sh
  · rintro ρ _ ⟨_, hm⟩
    exact r_ret (by ktr_rel) (by rfl)
/-! apply -/
noncomputable def iter (S : Dct) : Nat → List It → List It
  | 0, t => t
  | n + 1, t => iter S n (aOnce S t)
theorem iter_fix (S : Dct) (t : List It) (h : aOnce S t = t) : ∀ n, iter S n t = t
  | 0 => rfl
  | n + 1 => by rw [iter, h]; exact iter_fix S t h n
theorem iter_succ (S : Dct) : ∀ (n : Nat) (t : List It), iter S (n + 1) t = aOnce S (iter S n t)
  | 0, _ => rfl
  | n + 1, t => iter_succ S n (aOnce S t)
noncomputable def apStep (S : Dct) (s : List It) (_ : Nat) : Except PyData (List It) := if aOnce S s = s then .error (encL (aOnce S s)) else .ok (aOnce S s)
theorem ap_fold (S : Dct) : ∀ (l : List Nat) (t : List It), (∀ s', l.foldlM (apStep S) t = .ok s' → s' = iter S l.length t) ∧ (∀ d, l.foldlM (apStep S) t = .error d → d = encL (iter S l.length t))
  | [], t => ⟨fun s' e => by cases e; rfl, fun d e => by cases e⟩
  | x :: l, t => by
    rw [List.foldlM_cons]
    by_cases h : aOnce S t = t
    · have e : apStep S t x = .error (encL (aOnce S t)) := by rw [apStep]; exact if_pos h
      rw [e]
      refine ⟨fun s' e => (by cases e), fun d e => ?_⟩
      cases e
      rw [iter_fix S t h, h]
    · have e : apStep S t x = .ok (aOnce S t) := by rw [apStep]; exact if_neg h
      rw [e]
      exact ap_fold S l (aOnce S t)
theorem run_apply (Φ : Fns) (wf : Nat) (Fo : List PyData → Option PyData) (ho : Φ (Str.ofString "apply_once") = some ([false, true], Fo)) (t : List It) (S : Dct) (hS : S.length ≤ 10) (hlen : ∀ j, j ≤ S.length + 1 → (iter S j t).length ≤ 10000)
    (hFo : ∀ t : List It, t.length ≤ 10000 → Fo [encL t, encD S] = some (encL (aOnce S t))) : callD Φ wf 60 (defOf [false, true] (recAt pw 4)) [encL t, encD S] = some (encL (iter S (S.length + 1) t)) := by
  ktr_unf
  have h0 : t.length ≤ 10000 := hlen 0 (by omega)
  have hsl := slc_all t (by omega)
  have hld := len_encD S (by omega)
  refine r_next (by ktr_rel) ?_
  have hrg : rangeD [.int ((S.length : Int) + 1)] = some ((List.range (S.length + 1)).map fun k : Nat => PyData.int (0 + k)) := by
    have e2 : smallI ((S.length : Int) + 1) = true := by unfold smallI; simp only [Bool.and_eq_true, decide_eq_true_eq]; omega
    simp only [rangeD, e2, if_true, rangeL, show ((S.length : Int) + 1 - 0).toNat = S.length + 1 by omega]
  refine for_has (fun k : Nat => PyData.int (0 + k)) (apStep S) (fun s ρ => ρ.lookup (Str.ofString "s") = some ⟨.brw, encD S⟩ ∧ ρ.lookup (Str.ofString "now") = some ⟨.val, encL s⟩) (fun i s => s = iter S i t) (List.range (S.length + 1)) t ⟨by kernel_rfl⟩ (i_range rfl (by ktr_rel) hrg) ⟨by ktr_rel, lk_sh⟩ rfl (fun s ρ b h => ⟨lk_st ⟨by kernel_rfl⟩ h.1, lk_st ⟨by kernel_rfl⟩ h.2⟩) ?_ ?_ ?_
  · rintro i a y ρ hi hs ⟨hd, hm⟩ _
    rw [List.length_range] at hi
    have hF := hFo a (by rw [hs]; exact hlen i (by omega))
    have hcm : cmpD .Eq (encL (aOnce S a)) (encL a) = some (decide (aOnce S a = a)) := by rw [cm1, dep_encL, dep_encL, Bool.and_self, if_pos rfl, eqv_encL]
    by_cases h : aOnce S a = a
    · have e : apStep S a y = .error (encL (aOnce S a)) := by rw [apStep]; exact if_pos h
      rw [e]
      refine ⟨fun s' e => (by cases e), fun d e => ?_⟩
      cases e
      exact ret_inv (r_next (by ktr_rel) (r_ift (by ktr_rel) (decide_eq_true h) (r_ret (by ktr_rel) (by rfl))))
    · have e : apStep S a y = .ok (aOnce S a) := by rw [apStep]; exact if_neg h
      rw [e]
      refine ⟨fun s' e => ?_, fun d e => by cases e⟩
      cases e
      exact ⟨by show aOnce S a = iter S (i + 1) t; rw [iter_succ, hs], _, s_next (by ktr_rel) (s_next (x_iff (by ktr_rel) (decide_eq_false h) (s_nil rfl)) (s_next (by ktr_rel) (s_nil rfl))), by ktr_rel, by ktr_rel⟩
  · rintro s' ρ hf _ ⟨_, hm⟩
    have e := (ap_fold S _ _).1 s' hf
    rw [List.length_range] at e
    subst e
    exact r_ret (by ktr_rel) (by rfl)
  · intro d hf
    have e := (ap_fold S _ _).2 d hf
    rw [List.length_range] at e
    exact e

abbrev Bg := Int × List It
noncomputable def encB (b : Bg) : PyData := .tuple [.int b.1, encL b.2]
noncomputable def encBs (bs : List Bg) : PyData := .list (bs.map encB)
theorem idx_encB0 (b : Bg) : idxD (encB b) (.int 0) = some (.int b.1) := rfl
theorem idx_encB1 (b : Bg) : idxD (encB b) (.int 1) = some (encL b.2) := rfl
theorem items_encBs (t : List Bg) (h : t.length ≤ 16777216) : itemsD (encBs t) = some (t.map encB) := by
  rw [encBs, itemsL, if_pos (by rw [szl, List.length_map]; exact h)]
theorem putS_len (S : Dct) (c : Int) (u : List It) : (putS S c u).length ≤ S.length + 1 := by
  unfold putS; split <;> simp
theorem allD_enc (l : List Int) (S : Dct) (m : Md) (h : l.length ≤ 1000) : allD (.list (l.map .int)) (some ⟨m, encD S⟩) = some (.bool (l.all fun i => (lookS S i).isNone)) := by
  show (if (l.map PyData.int).length ≤ sizeLine then (intsOf (l.map PyData.int)).bind fun l => some (PyData.bool (l.all fun i => (keyIn (encDl S) i).isNone)) else none) = _
  rw [if_pos (by rw [szl, List.length_map]; omega), intsOf_map, bnd]
  congr 3
  funext i
  rw [keyIn_enc]; cases lookS S i <;> rfl
noncomputable def mkS (bs : List Bg) : Dct := bs.foldl (fun S b => putS S b.1 b.2) []
noncomputable def spl (t : List It) (bs : List Bg) : Bool := typeOk (iter (mkS bs) ((mkS bs).length + 1) t) && (sortI (varsOf (iter (mkS bs) ((mkS bs).length + 1) t))).all fun v => (lookS (mkS bs) v).isNone
theorem q_all {np px cp p1 p2 p3 gp p : Pos} {x d : Str} {cf : Expr} {ca : List Expr} {ck : List Keyword} {sc : Scope} {asy : Int} {Φ : Fns} {n : Nat} {K : Kd} {ρ : Rho} {rd : Bool} {r e : PyData} {b : Bd} (hk : Ck ((K (Str.ofString "all") == some .globalImplicit) && (asy == 0 && x == x && genSc sc K x d))) (h1 : evalE Φ n K ρ true (.Call cf ca ck cp) = some r) (h2 : ρ.lookup d = some b) (h3 : allD r (some b) = some e) :
    evalE Φ (n + 1) K ρ rd (.Call (.Name (Str.ofString "all") np) [.GeneratorExp (.Compare (.Name x p1) [.NotIn] [.Name d p2] p3) [⟨.Name x px, .Call cf ca ck cp, [], asy⟩] sc gp] [] p) = some e := by
  rw [ev_all, if_pos hk.h, h1, bnd, h2]; exact h3
theorem q_and {Φ : Fns} {n : Nat} {K : Kd} {ρ : Rho} {rd : Bool} {x y : Expr} {p : Pos} {c1 c2 : Bool} (h : evalE Φ n K ρ rd x = some (.bool c1)) (hr : c1 = true → evalE Φ n K ρ rd y = some (.bool c2)) : evalE Φ (n + 1) K ρ rd (.BoolOp .And [x, y] p) = some (.bool (c1 && c2)) := by
  rw [ev_bool, boolGo, h, bnd]
  cases c1 with
  | false => rfl
  | true => rw [boolGo]; exact hr rfl
  all_goals (intro h; cases h)
theorem run_spl (Φ : Fns) (wf : Nat) (Fa Ft Fv : List PyData → Option PyData) (ha : Φ (Str.ofString "apply") = some ([false, true], Fa)) (ht : Φ (Str.ofString "type_ok") = some ([false], Ft)) (hv : Φ (Str.ofString "vars_of") = some ([false], Fv))
    (t : List It) (bs : List Bg) (hb : bs.length ≤ 10) (hFa : Fa [encL t, encD (mkS bs)] = some (encL (iter (mkS bs) ((mkS bs).length + 1) t))) (hFt : Ft [encL (iter (mkS bs) ((mkS bs).length + 1) t)] = some (.bool (typeOk (iter (mkS bs) ((mkS bs).length + 1) t))))
    (hFv : Fv [encL (iter (mkS bs) ((mkS bs).length + 1) t)] = some (.list ((sortI (varsOf (iter (mkS bs) ((mkS bs).length + 1) t))).map .int))) (hl : (sortI (varsOf (iter (mkS bs) ((mkS bs).length + 1) t))).length ≤ 1000) :
    callD Φ wf 60 (defOf [false, false] (recAt pw 5)) [encL t, encBs bs] = some (.bool (spl t bs)) := by
  ktr_unf
  refine r_next (x_own ⟨by kernel_rfl⟩ (by ktr_rel) rfl) ?_
  refine for_hasP encB (fun S b => putS S b.1 b.2) (fun S ρ => ρ.lookup (Str.ofString "t") = some ⟨.val, encL t⟩ ∧ ρ.lookup (Str.ofString "s") = some ⟨.own, encD S⟩) (fun i S => S.length ≤ i) bs [] ⟨by kernel_rfl⟩ (i_val (by kernel_rfl) (by ktr_rel) (items_encBs bs (by omega))) ⟨by ktr_rel, lk_sh⟩ (Nat.le_refl _) (fun s ρ b h => ⟨lk_st ⟨by kernel_rfl⟩ h.1, lk_st ⟨by kernel_rfl⟩ h.2⟩) ?_ ?_
  · rintro i S p ρ hi hS ⟨h1, h2⟩ hp
    refine ⟨by have := putS_len S p.1 p.2; omega, _, s_next (x_store (D := encDl S) ⟨by kernel_rfl⟩ h2 (q_sub ⟨by kernel_rfl⟩ (by ktr_rel) (by ktr_rel) (idx_encB1 p)) (q_sub ⟨by kernel_rfl⟩ (by ktr_rel) (by ktr_rel) (idx_encB0 p)) (by rw [encDl, List.length_map]; omega)) (s_nil rfl), lk_st ⟨by kernel_rfl⟩ h1, ?_⟩
    rw [putI_enc]; exact lk_sh
  · rintro ρ _ ⟨h1, h2'⟩
    have h2 : ρ.lookup (Str.ofString "s") = some ⟨.own, encD (mkS bs)⟩ := h2'
    clear h2'
    unfold spl
    generalize mkS bs = S at *
    generalize iter S (S.length + 1) t = u at *
    refine r_next (by ktr_rel) (r_ret (q_and (by ktr_rel) fun _ => q_all ⟨by kernel_rfl⟩ (by ktr_rel) (lk_th (lk_st ⟨by kernel_rfl⟩ h2) ⟨rfl⟩) (allD_enc _ _ _ hl)) (by rfl))
noncomputable def x1Of (m : Int) (x : It) : It := if m < 3 ∧ x.1 = "var" then ("bool", 0) else x
noncomputable def x2Of (m key : Int) (x : It) : It := if m = 4 ∧ x.1 = "int" then ("var", key) else x
noncomputable def bindI (m kc c : Int) : Bg := if (kc.fdiv 5).fmod 2 = 1 then (kc.fmod 5, [("int", 0), x2Of m (kc.fmod 5) (x1Of m (leafI c)), makerI (kc.fdiv 10)]) else (kc.fmod 5, [x2Of m (kc.fmod 5) (x1Of m (leafI c))])
theorem run_binding (Φ : Fns) (wf : Nat) (Fc Fl Fm : List PyData → Option PyData) (hc : Φ (Str.ofString "_law_cell") = some ([false, false], Fc)) (hl : Φ (Str.ofString "_law_leaf") = some ([false], Fl)) (hm : Φ (Str.ofString "_law_maker") = some ([false], Fm))
    (ns : List Int) (i : Nat) (m : Int) (hFc : ∀ i : Int, 0 ≤ i → Fc [.list (ns.map .int), .int i] = some (.int (cell ns i))) (hFl : ∀ c : Int, Fl [.int c] = some (enc (leafI c))) (hFm : ∀ c : Int, Fm [.int c] = some (enc (makerI c))) :
    callD Φ wf 60 (defOf [false, false, false] (recAt pw 11)) [.list (ns.map .int), .int i, .int m] = some (encB (bindI m (cell ns (6 + 2 * (i : Int))) (cell ns (7 + 2 * (i : Int))))) := by
  ktr_unf
  have h6 := hFc (6 + 2 * (i : Int)) (by omega)
  have h7 := hFc (7 + 2 * (i : Int)) (by omega)
  generalize cell ns (6 + 2 * (i : Int)) = kc at *
  generalize cell ns (7 + 2 * (i : Int)) = c at *
  have hL := hFl c
  have hM := hFm (kc.fdiv 10)
  refine r_next (by ktr_rel) (r_next (by ktr_rel) (r_next (by ktr_rel) ?_))
  refine r_ex (fun ρ => ρ.lookup (Str.ofString "mode") = some ⟨.val, .int m⟩ ∧ ρ.lookup (Str.ofString "kc") = some ⟨.val, .int kc⟩ ∧ ρ.lookup (Str.ofString "key") = some ⟨.val, .int (kc.fmod 5)⟩ ∧ ρ.lookup (Str.ofString "x") = some ⟨.val, enc (x1Of m (leafI c))⟩) ?_ ?_
  · unfold x1Of
    by_cases a : m < 3 ∧ (leafI c).1 = "var"
    · rw [if_pos a, show enc ("bool", 0) = PyData.tuple [.str (Str.ofString "bool"), .int 0] from rfl]
      exact ⟨_, x_ift (by ktr_rel) (by simp [a]) (s_next (by ktr_rel) (s_nil rfl)), by ktr_rel, by ktr_rel, by ktr_rel, by ktr_rel⟩
    · rw [if_neg a]
      exact ⟨_, x_iff (c := decide (m < 3) && (leafI c).1 == "var") (by ktr_rel) (by rw [← Bool.not_eq_true]; simpa using a) (s_nil rfl), by ktr_rel, by ktr_rel, by ktr_rel, by ktr_rel⟩
  unfold bindI
  generalize x1Of m (leafI c) = x at *
  rintro ρ ⟨i1, i2, i3, i4⟩
  refine r_ex (fun ρ => ρ.lookup (Str.ofString "kc") = some ⟨.val, .int kc⟩ ∧ ρ.lookup (Str.ofString "key") = some ⟨.val, .int (kc.fmod 5)⟩ ∧ ρ.lookup (Str.ofString "x") = some ⟨.val, enc (x2Of m (kc.fmod 5) x)⟩) ?_ ?_
  · unfold x2Of
    by_cases a : m = 4 ∧ x.1 = "int"
    · rw [if_pos a, show enc ("var", kc.fmod 5) = PyData.tuple [.str (Str.ofString "var"), .int (kc.fmod 5)] from rfl]
      exact ⟨_, x_ift (c := decide (m = 4) && x.1 == "int") (by ktr_rel) (by simp [a]) (s_next (by ktr_rel) (s_nil rfl)), by ktr_rel, by ktr_rel, by ktr_rel⟩
    · rw [if_neg a]
      exact ⟨_, x_iff (c := decide (m = 4) && x.1 == "int") (by ktr_rel) (by rw [← Bool.not_eq_true]; simpa using a) (s_nil rfl), by ktr_rel, by ktr_rel, by ktr_rel⟩
  generalize x2Of m (kc.fmod 5) x = y at *
  clear i1 i2 i3 i4
  rintro ρ ⟨i2, i3, i4⟩
  by_cases a1 : (kc.fdiv 5).fmod 2 = 1
  · rw [if_pos a1]
    exact r_ift (by ktr_rel) (decide_eq_true a1) (r_ret (by ktr_rel) (by rfl))
  · rw [if_neg a1]
    exact r_skip (by ktr_rel) (decide_eq_false a1) (r_ret (by ktr_rel) (by rfl))

/-! _law_rings -/
noncomputable def aft (bs : List Bg) (v : Int) : List (List It) := (bs.filter fun b => decide (b.1 = v)).map (·.2)
noncomputable def inn (u : List It) : List Int := (u.filter fun x => x.1 == "var").map (·.2)
noncomputable def encLs (l : List (List It)) : PyData := .list (l.map encL)
noncomputable def rgStep (bs : List Bg) (v : Int) (_ : Nat) : Except PyData Int := match (aft bs v).getLast? with
  | none => .error (.bool false)
  | some u => match (inn u).head? with
    | none => .error (.bool false)
    | some w => .ok w
noncomputable def rings (bs : List Bg) (v : Int) : Bool := match (List.range 5).foldlM (rgStep bs) v with | .ok _ => true | .error _ => false
theorem rg_err (bs : List Bg) (l : List Nat) (s : Int) (d : PyData) (h : l.foldlM (rgStep bs) s = .error d) : d = .bool false :=
  foldlM_err (P := fun d => d = .bool false) (rgStep bs) (fun s x d h => by
    unfold rgStep at h
    split at h
    · cases h; rfl
    · split at h
      · cases h; rfl
      · cases h) l s d h
theorem dep_encLs (n : Nat) (l : List (List It)) : dep (n + 3) (encLs l) = true := by
  show (l.map encL).all (dep (n + 2)) = true
  rw [List.all_eq_true]; intro d hd; obtain ⟨x, _, rfl⟩ := List.mem_map.mp hd; exact dep_encL n x
theorem eqv_encLs_nil (l : List (List It)) : PyData.eqv (encLs l) (.list []) = l.isEmpty := by rw [encLs, eqv_listnil, List.isEmpty_map]
theorem idx_last (xs : List PyData) (x : PyData) (h : xs.getLast? = some x) : idxD (.list xs) (.int (-1)) = some x := by
  have hne : xs ≠ [] := by rintro rfl; cases h
  have hp : 0 < xs.length := List.length_pos_iff.mpr hne
  rw [idxL, if_pos (by decide)]
  have : seqIndex? (-1) xs.length = some (xs.length - 1) := by
    unfold seqIndex?
    simp only [show (-1 : Int) < 0 by decide, if_true]
    rw [if_pos (by simp only [Bool.and_eq_true, decide_eq_true_eq]; omega)]
    congr 1
    omega
  rw [this, bnd, ← h, List.getLast?_eq_getElem?]
theorem idx_last_enc (l : List (List It)) (u : List It) (h : l.getLast? = some u) : idxD (encLs l) (.int (-1)) = some (encL u) := by
  rw [encLs]; exact idx_last _ _ (by rw [List.getLast?_map, h]; rfl)
theorem fm_aft (v : Int) : ∀ bs : List Bg, bs.filterMap (fun b => if b.1 = v then some (encL b.2) else none) = (aft bs v).map encL
  | [] => rfl
  | b :: bs => by
    rw [List.filterMap_cons, fm_aft v bs, aft, aft, List.filter_cons]
    by_cases h : b.1 = v <;> simp [h]
theorem fm_inn : ∀ u : List It, u.filterMap (fun x => if x.1 = "var" then some (PyData.int x.2) else none) = (inn u).map .int
  | [] => rfl
  | x :: u => by
    rw [List.filterMap_cons, fm_inn u, inn, inn, List.filter_cons]
    by_cases h : x.1 = "var" <;> simp [h]
theorem idx_ints0 (l : List Int) (w : Int) (h : l.head? = some w) : idxD (.list (l.map .int)) (.int 0) = some (.int w) := by
  cases l with
  | nil => cases h
  | cons a l =>
    cases h
    rw [idxL, if_pos (by decide)]
    have : seqIndex? 0 ((w :: l).map PyData.int).length = some 0 := by
      unfold seqIndex?
      simp
    rw [this]; rfl
theorem run_rings (Φ : Fns) (wf : Nat) (v : Int) (bs : List Bg) (hb : bs.length ≤ 10) (hu : ∀ b ∈ bs, b.2.length ≤ 10) : callD Φ wf 60 (defOf [false, false] (recAt pw 12)) [.int v, encBs bs] = some (.bool (rings bs v)) := by
  ktr_unf
  refine for_has (fun k : Nat => PyData.int (0 + k)) (rgStep bs) (fun v ρ => ρ.lookup (Str.ofString "v") = some ⟨.val, .int v⟩ ∧ ρ.lookup (Str.ofString "bindings") = some ⟨.val, encBs bs⟩) (fun _ _ => True) (List.range 5) v ⟨by kernel_rfl⟩ (i_range rfl (by ktr_rel) rfl) ⟨by ktr_rel, by ktr_rel⟩ trivial (fun s ρ b h => ⟨lk_st ⟨by kernel_rfl⟩ h.1, lk_st ⟨by kernel_rfl⟩ h.2⟩) ?_ ?_ ?_
  · rintro i v y ρ _ _ ⟨hv, hbs⟩ _
    have hI := items_encBs bs (by omega)
    have hcm : cmpD .Eq (.list ((aft bs v).map encL)) (.list []) = some (aft bs v).isEmpty := by
      show cmpD .Eq (encLs (aft bs v)) (.list []) = _
      rw [cm1, dep_encLs, dep_nilL, Bool.and_self, if_pos rfl, eqv_encLs_nil]
    have hA : ∀ {f}, (∀ b ∈ bs, f (encB b) = some (if decide (b.1 = v) then some (encL b.2) else none)) → compGo f (bs.map encB) = some ((aft bs v).map encL) := fun hf => by
      rw [compGo_eq encB (fun b => if decide (b.1 = v) then some (encL b.2) else none) bs hf, ← fm_aft]
      simp
    refine turn_next (x_val ⟨by kernel_rfl⟩ (q_lc ⟨by kernel_rfl⟩ (i_val (by kernel_rfl) (by ktr_rel) hI) (hA fun b _ => cb_tp ⟨by kernel_rfl⟩ (by ktr_rel) fun _ => by ktr_rel))) ?_
    unfold rgStep
    cases hg : (aft bs v).getLast? with
    | none =>
      have he : aft bs v = [] := List.getLast?_eq_none_iff.mp hg
      refine ⟨fun s' e => (by cases e), fun d e => ?_⟩
      cases e
      exact ret_inv (r_ift (by ktr_rel) (by rw [he]; rfl) (r_ret (by ktr_rel) (by rfl)))
    | some u =>
      have hum : u ∈ aft bs v := List.mem_of_getLast? hg
      have hul : u.length ≤ 16777216 := by
        unfold aft at hum
        obtain ⟨b, hb1, rfl⟩ := List.mem_map.mp hum
        have := hu b (List.mem_filter.mp hb1).1
        omega
      have hne : (aft bs v).isEmpty = false := by
        cases h : aft bs v with
        | nil => rw [h] at hg; cases hg
        | cons a r => rfl
      have hlast : idxD (.list ((aft bs v).map encL)) (.int (-1)) = some (encL u) := idx_last_enc _ _ hg
      have hJ := items_encL u hul
      have hB : ∀ {f}, (∀ x ∈ u, f (enc x) = some (if x.1 == "var" then some (.int x.2) else none)) → compGo f (u.map enc) = some ((inn u).map .int) := fun hf => by
        rw [compGo_eq enc (fun x => if x.1 == "var" then some (.int x.2) else none) u hf, ← fm_inn]
        simp
      have hcn : cmpD .Eq (.list ((inn u).map .int)) (.list []) = some (inn u).isEmpty := by rw [cm1, dep_ints, dep_nilL, Bool.and_self, if_pos rfl, eqv_listnil, List.isEmpty_map]
      refine turn_next (x_iff (by ktr_rel) hne (s_nil rfl)) (turn_next (x_val ⟨by kernel_rfl⟩ (q_lc ⟨by kernel_rfl⟩ (i_val (by kernel_rfl) (by ktr_rel) hJ) (hB fun x _ => cb_nm ⟨by kernel_rfl⟩ (by ktr_rel) fun _ => by ktr_rel))) ?_)
      cases hw : (inn u).head? with
      | none =>
        have he : inn u = [] := List.head?_eq_none_iff.mp hw
        simp only [hw]
        refine ⟨fun s' e => (by cases e), fun d e => ?_⟩
        cases e
        exact ret_inv (r_ift (by ktr_rel) (by rw [he]; rfl) (r_ret (by ktr_rel) (by rfl)))
      | some w =>
        have hne2 : (inn u).isEmpty = false := by
          cases h : inn u with
          | nil => rw [h] at hw; cases hw
          | cons a r => rfl
        have hi0 := idx_ints0 (inn u) w hw
        simp only [hw]
        refine ⟨fun s' e => ?_, fun d e => (by cases e)⟩
        cases e
        exact ⟨trivial, _, s_next (x_iff (by ktr_rel) hne2 (s_nil rfl)) (s_next (by ktr_rel) (s_nil rfl)), by ktr_rel, by ktr_rel⟩
  · rintro s' ρ hf _ _
    refine r_ret (by ktr_rel) ?_
    simp only [rings, hf]
  · intro d hf
    rw [rg_err bs _ _ d hf]
    simp only [rings, hf]
theorem fmod_cases6 (c : Int) : c.fmod 6 = 0 ∨ c.fmod 6 = 1 ∨ c.fmod 6 = 2 ∨ c.fmod 6 = 3 ∨ c.fmod 6 = 4 ∨ c.fmod 6 = 5 := by
  have h1 := Int.fmod_nonneg_of_pos c (by decide : (0:Int) < 6)
  have h2 := Int.fmod_lt_of_pos c (by decide : (0:Int) < 6)
  omega


theorem dep_encBs (n : Nat) (bs : List Bg) : dep (n + 4) (encBs bs) = true := by
  show (bs.map encB).all (dep (n + 3)) = true
  rw [List.all_eq_true]; intro d hd; obtain ⟨x, _, rfl⟩ := List.mem_map.mp hd
  show ([PyData.int x.1, encL x.2]).all (dep (n + 2)) = true
  simp [dep_int, dep_encL]
theorem eqvs_encB : ∀ bs : List Bg, PyData.eqvAll (bs.map encB) (bs.map encB) = true
  | [] => by simp [PyData.eqvAll]
  | b :: bs => by
    rw [List.map_cons, PyData.eqvAll, eqvs_encB bs]
    simp only [encB, PyData.eqv, PyData.eqvAll]
    have := eqv_encL b.2 b.2
    simp [this]
theorem eqv_encBs (bs : List Bg) : PyData.eqv (encBs bs) (encBs bs) = true := by
  rw [encBs, PyData.eqv]; exact eqvs_encB bs
theorem slc_dropLast (t : List It) (h : t.length ≤ 16777216) (h0 : t ≠ []) : slcD (encL t) (some none) (some (some (-1))) (some none) = some (encL t.dropLast) := by
  have hp : 0 < t.length := List.length_pos_iff.mpr h0
  have e : sliceBounds none (some (-1)) none (t.map enc).length = (((0 : Nat) : Int), ((t.length - 1 : Nat) : Int), 1) := by
    simp only [sliceBounds, Option.getD_none, List.length_map]
    simp only [show (-1 : Int) < 0 by decide, if_true, show (1 : Int) > 0 by decide]
    congr 1
    congr 1; omega
  simp only [slcD, encL, bnd]
  rw [if_pos ⟨by simp, by rw [szl, List.length_map]; exact h⟩]
  unfold slD
  rw [e]
  simp only [sliceRange_one, pickL, List.drop_zero, Nat.sub_zero]
  rw [← List.map_take, List.dropLast_eq_take]
theorem list_encL (t : List It) (h : t.length ≤ 16777216) : biD .list [encL t] = some (encL t) := by
  rw [encL, bi5, if_pos (by rw [szl, List.length_map]; exact h)]
noncomputable def badI (c : Int) : It := bads.getD ((c.fdiv 4).fmod 6).toNat ("", 0)
theorem idx_bad (c : Int) : idxD (encL bads) (.int ((c.fdiv 4).fmod 6)) = some (enc (badI c)) := by
  unfold badI
  rcases fmod_cases6 (c.fdiv 4) with h | h | h | h | h | h <;> rw [h] <;> rfl
noncomputable def tA (f : Int) (x y m : It) : List It := if f.fmod 4 = 1 then [x, y, m] else [x]
noncomputable def tB (f : Int) (x y z m k : It) : List It := if f.fmod 4 = 2 then [x, y, m, z, k] else tA f x y m
noncomputable def tC (f : Int) (x y z m k : It) : List It := if f.fmod 4 = 3 then [x, y, z, k, m] else tB f x y z m k
noncomputable def tD (mo : Int) (t : List It) : List It := if mo = 5 then t.dropLast else t
noncomputable def tE (mo : Int) (t : List It) (m : It) : List It := if mo = 6 then tD mo t ++ [m] else tD mo t
noncomputable def tF (mo : Int) (t : List It) (m : It) (c : Int) : List It := if mo = 7 then [badI c] ++ tE mo t m ++ [m] else tE mo t m
noncomputable def bsOf (ns : List Int) : List Bg := (List.range ((cell ns 2).fmod 4).toNat).map fun (i : Nat) => bindI ((cell ns 0).fmod 8) (cell ns (6 + 2 * (i : Int))) (cell ns (7 + 2 * (i : Int)))
noncomputable def tOf0 (ns : List Int) : List It := tC (cell ns 1) (leafI (cell ns 3)) (leafI (cell ns 4)) (leafI (cell ns 5)) (makerI ((cell ns 1).fdiv 4)) (makerI ((cell ns 1).fdiv 8))
noncomputable def tOf (ns : List Int) : List It := tF ((cell ns 0).fmod 8) (tOf0 ns) (makerI ((cell ns 1).fdiv 4)) (cell ns 2)
noncomputable def wStep (bs : List Bg) (w : Bool) (x : It) : Bool := if x.1 = "var" ∧ rings bs x.2 = true then false else w
noncomputable def wantOf (ns : List Int) : Bool := (tOf ns).foldl (wStep (bsOf ns)) (!decide ((cell ns 0).fmod 8 > 4))
theorem tC_ne (f x y z m k) : tC f x y z m k ≠ [] ∧ (tC f x y z m k).length ≤ 5 := by
  unfold tC tB tA
  repeat' split
  all_goals simp

theorem cb_is {a b : Bool} : cmpD .IsNot (.bool a) (.bool b) = some (!(a == b)) := rfl
-- runs it
local macro_rules | `(tactic| ktr_rel) => `(tactic| (
  repeat' (with_reducible first
    | exact Ck.mk (by kernel_rfl)
    | assumption
    | exact q_int | exact q_boo | exact q_str | exact q_dict | exact m_nil | exact f_nil | exact p_none
    | exact lk_h | exact lk_sh | exact ts_nil
    | apply q_name | apply q_tuple | apply q_list | apply m_cons | apply f_cons | apply q_bin | apply q_un | apply q_cmp | apply q_slice | apply q_sub | apply p_some
    | apply q_len | apply q_abs | apply q_sorted | apply q_lst | apply q_call
    | apply c_op | apply t_cmp | apply t_not | apply t_bool | apply t_name | apply t_call | apply a_and | apply a_or
    | apply lk_t | apply lk_st | apply lk_th | apply lk_cap | apply ts_one | apply el_of
    | apply s_ret | apply s_next | apply x_if | apply x_val | apply x_own
    | exact b_add | exact b_sub | apply b_mod | apply b_div | exact u_neg | exact bn6 _
    | exact cb_is | exact idx_enc0 _ | exact idx_str0 | exact idx_str1 | exact idx_enc1 _ | exact cs_lit _ _ | exact ci_eq _ _ | exact ce_eq _ _ _ | exact cm3 _ _ | exact cm4 _ _ | exact cm5 _ _ | exact cm6 _ _
    | (intro h; cases h; done) | intro _)))

/-- the names of the law's head -/
noncomputable def kpN : List String := ["script", "mode", "form", "count", "m", "k", "x", "y", "z"]
noncomputable def Kp (ns : List Int) (mo f : Int) (x y z m k : It) (ρ : Rho) : Prop :=
  ρ.lookup (Str.ofString "script") = some ⟨.val, .list (ns.map .int)⟩ ∧ ρ.lookup (Str.ofString "mode") = some ⟨.val, .int mo⟩ ∧ ρ.lookup (Str.ofString "form") = some ⟨.val, .int f⟩ ∧ ρ.lookup (Str.ofString "count") = some ⟨.val, .int (cell ns 2)⟩ ∧ ρ.lookup (Str.ofString "m") = some ⟨.val, enc m⟩ ∧
  ρ.lookup (Str.ofString "k") = some ⟨.val, enc k⟩ ∧ ρ.lookup (Str.ofString "x") = some ⟨.val, enc x⟩ ∧ ρ.lookup (Str.ofString "y") = some ⟨.val, enc y⟩ ∧ ρ.lookup (Str.ofString "z") = some ⟨.val, enc z⟩
theorem Kp.set {ns : List Int} {mo f : Int} {x y z m k : It} {ρ : Rho} (h : Kp ns mo f x y z m k ρ) {v : Str} {b : Bd} (hv : Ck (kpN.all fun n => !(Str.ofString n == v))) : Kp ns mo f x y z m k (setR ρ v b) := by
  have hv := hv.h
  simp only [kpN, List.all_cons, List.all_nil, Bool.and_true, Bool.and_eq_true] at hv
  obtain ⟨v1, v2, v3, v4, v5, v6, v7, v8, v9⟩ := hv
  obtain ⟨h1, h2, h3, h4, h5, h6, h7, h8, h9⟩ := h
  exact ⟨lk_st ⟨v1⟩ h1, lk_st ⟨v2⟩ h2, lk_st ⟨v3⟩ h3, lk_st ⟨v4⟩ h4, lk_st ⟨v5⟩ h5, lk_st ⟨v6⟩ h6, lk_st ⟨v7⟩ h7, lk_st ⟨v8⟩ h8, lk_st ⟨v9⟩ h9⟩
set_option maxHeartbeats 4000000 in
theorem run_law (Φ : Fns) (wf : Nat) (Fc Fl Fm Fb Fr Fs Fd : List PyData → Option PyData) (hc : Φ (Str.ofString "_law_cell") = some ([false, false], Fc)) (hl : Φ (Str.ofString "_law_leaf") = some ([false], Fl)) (hm : Φ (Str.ofString "_law_maker") = some ([false], Fm))
    (hb : Φ (Str.ofString "_law_binding") = some ([false, false, false], Fb)) (hr : Φ (Str.ofString "_law_rings") = some ([false, false], Fr)) (hs : Φ (Str.ofString "law_splicing_keeps_types") = some ([false, false], Fs)) (hbad : Φ (Str.ofString "_law_BAD") = some ([], Fd))
    (ns : List Int) (hFc : ∀ i : Int, 0 ≤ i → Fc [.list (ns.map .int), .int i] = some (.int (cell ns i))) (hFl : ∀ c : Int, Fl [.int c] = some (enc (leafI c))) (hFm : ∀ c : Int, Fm [.int c] = some (enc (makerI c))) (hFd : Fd [] = some (encL bads))
    (hFb : ∀ (i : Nat) (m : Int), Fb [.list (ns.map .int), .int i, .int m] = some (encB (bindI m (cell ns (6 + 2 * (i : Int))) (cell ns (7 + 2 * (i : Int)))))) (hFr : ∀ v : Int, Fr [.int v, encBs (bsOf ns)] = some (.bool (rings (bsOf ns) v)))
    (hFs : Fs [encL (tOf ns), encBs (bsOf ns)] = some (.bool (spl (tOf ns) (bsOf ns)))) (hres : spl (tOf ns) (bsOf ns) = wantOf ns) (hul : ∀ b ∈ bsOf ns, b.2.length ≤ 10) (hbl : (bsOf ns).length ≤ 10) :
    callD Φ wf 60 (defOf [false] (recAt pw 13)) [.list (ns.map .int)] = some (.bool true) := by
  ktr_unf
  have hc0 := hFc 0 (by decide)
  have hc1 := hFc 1 (by decide)
  have hc2 := hFc 2 (by decide)
  have hc3 := hFc 3 (by decide)
  have hc4 := hFc 4 (by decide)
  have hc5 := hFc 5 (by decide)
  obtain ⟨hT0, hT5⟩ := tC_ne (cell ns 1) (leafI (cell ns 3)) (leafI (cell ns 4)) (leafI (cell ns 5)) (makerI ((cell ns 1).fdiv 4)) (makerI ((cell ns 1).fdiv 8))
  obtain ⟨mo, hmo⟩ : ∃ mo, mo = (cell ns 0).fmod 8 := ⟨_, rfl⟩
  have hm4 := hFm ((cell ns 1).fdiv 4)
  have hm8 := hFm ((cell ns 1).fdiv 8)
  have hl3 := hFl (cell ns 3)
  have hl4 := hFl (cell ns 4)
  have hl5 := hFl (cell ns 5)
  have hFs' : Fs [encL (tF mo (tOf0 ns) (makerI ((cell ns 1).fdiv 4)) (cell ns 2)), encBs (bsOf ns)] = some (.bool (wantOf ns)) := by rw [← hres, hmo]; exact hFs
  have hwt : wantOf ns = (tF mo (tOf0 ns) (makerI ((cell ns 1).fdiv 4)) (cell ns 2)).foldl (wStep (bsOf ns)) (!decide (mo > 4)) := by rw [hmo]; rfl
  have hFb' : ∀ i : Nat, Fb [.list (ns.map .int), .int (0 + i), .int mo] = some (encB (bindI mo (cell ns (6 + 2 * (i : Int))) (cell ns (7 + 2 * (i : Int))))) := fun i => by rw [Int.zero_add]; exact hFb i mo
  have hbs : (List.range ((cell ns 2).fmod 4).toNat).map (fun i : Nat => encB (bindI mo (cell ns (6 + 2 * (i : Int))) (cell ns (7 + 2 * (i : Int))))) = (bsOf ns).map encB := by rw [bsOf, List.map_map, ← hmo]; rfl
  have hcn0 := Int.fmod_nonneg_of_pos (cell ns 2) (by decide : (0:Int) < 4)
  have hcn4 := Int.fmod_lt_of_pos (cell ns 2) (by decide : (0:Int) < 4)
  have hrg : rangeD [.int ((cell ns 2).fmod 4)] = some ((List.range ((cell ns 2).fmod 4).toNat).map fun i : Nat => PyData.int (0 + i)) := by
    have e1 : smallI ((cell ns 2).fmod 4) = true := by unfold smallI; simp only [Bool.and_eq_true, decide_eq_true_eq]; omega
    simp only [rangeD, e1, if_true, rangeL, Int.sub_zero]
  have hbad1 := idx_bad (cell ns 2)
  refine r_next (by ktr_rel) ?_
  rw [← hmo]
  refine r_next (by ktr_rel) (r_next (by ktr_rel) (r_next (by ktr_rel) (r_next (by ktr_rel) (r_next (by ktr_rel) (r_next (by ktr_rel) (r_next (by ktr_rel) ?_))))))
  clear hFs hres
  unfold tOf0 at hFs' hwt
  generalize leafI (cell ns 3) = x at *
  generalize leafI (cell ns 4) = y at *
  generalize leafI (cell ns 5) = z at *
  generalize makerI ((cell ns 1).fdiv 4) = m at *
  generalize makerI ((cell ns 1).fdiv 8) = k at *
  generalize cell ns 1 = f at *
  refine r_ex (fun ρ => Kp ns mo f x y z m k ρ ∧ ρ.lookup (Str.ofString "t") = some ⟨.val, .list [enc x]⟩) ⟨_, by ktr_rel, ⟨by ktr_rel, by ktr_rel, by ktr_rel, by ktr_rel, by ktr_rel, by ktr_rel, by ktr_rel, by ktr_rel, by ktr_rel⟩, lk_sh⟩ ?_
  rintro ρ ⟨hk, ht⟩
  -- the type t
  refine r_ex (fun ρ => Kp ns mo f x y z m k ρ ∧ ρ.lookup (Str.ofString "t") = some ⟨.val, encL (tA f x y m)⟩) ?_ ?_
  · unfold tA
    obtain ⟨h1, h2, h3, h4, h5, h6, h7, h8, h9⟩ := id hk
    by_cases a : f.fmod 4 = 1
    · rw [if_pos a, show encL [x, y, m] = .list [enc x, enc y, enc m] from rfl]
      exact ⟨_, x_ift (by ktr_rel) (decide_eq_true a) (s_next (by ktr_rel) (s_nil rfl)), hk.set ⟨by kernel_rfl⟩, lk_sh⟩
    · rw [if_neg a]
      exact ⟨_, x_iff (by ktr_rel) (decide_eq_false a) (s_nil rfl), hk, ht⟩
  clear ht hk ρ
  rintro ρ ⟨hk, ht⟩
  refine r_ex (fun ρ => Kp ns mo f x y z m k ρ ∧ ρ.lookup (Str.ofString "t") = some ⟨.val, encL (tB f x y z m k)⟩) ?_ ?_
  · unfold tB
    obtain ⟨h1, h2, h3, h4, h5, h6, h7, h8, h9⟩ := id hk
    by_cases a : f.fmod 4 = 2
    · rw [if_pos a, show encL [x, y, m, z, k] = .list [enc x, enc y, enc m, enc z, enc k] from rfl]
      exact ⟨_, x_ift (by ktr_rel) (decide_eq_true a) (s_next (by ktr_rel) (s_nil rfl)), hk.set ⟨by kernel_rfl⟩, lk_sh⟩
    · rw [if_neg a]
      exact ⟨_, x_iff (by ktr_rel) (decide_eq_false a) (s_nil rfl), hk, ht⟩
  clear ht hk ρ
  rintro ρ ⟨hk, ht⟩
  refine r_ex (fun ρ => Kp ns mo f x y z m k ρ ∧ ρ.lookup (Str.ofString "t") = some ⟨.val, encL (tC f x y z m k)⟩) ?_ ?_
  · unfold tC
    obtain ⟨h1, h2, h3, h4, h5, h6, h7, h8, h9⟩ := id hk
    by_cases a : f.fmod 4 = 3
    · rw [if_pos a, show encL [x, y, z, k, m] = .list [enc x, enc y, enc z, enc k, enc m] from rfl]
      exact ⟨_, x_ift (by ktr_rel) (decide_eq_true a) (s_next (by ktr_rel) (s_nil rfl)), hk.set ⟨by kernel_rfl⟩, lk_sh⟩
    · rw [if_neg a]
      exact ⟨_, x_iff (by ktr_rel) (decide_eq_false a) (s_nil rfl), hk, ht⟩
  clear ht hk ρ
  rintro ρ ⟨hk, ht⟩
  generalize tC f x y z m k = t at *
  refine r_next (by ktr_rel) ?_
  refine r_ex (fun ρ => Kp ns mo f x y z m k ρ ∧ ρ.lookup (Str.ofString "t") = some ⟨.val, encL t⟩ ∧ ρ.lookup (Str.ofString "want") = some ⟨.val, .bool (!decide (mo > 4))⟩) ?_ ?_
  · obtain ⟨h1, h2, h3, h4, h5, h6, h7, h8, h9⟩ := id hk
    by_cases a : mo > 4
    · rw [decide_eq_true a, Bool.not_true]
      exact ⟨_, x_ift (by ktr_rel) (decide_eq_true a) (s_next (by ktr_rel) (s_nil rfl)), (hk.set ⟨by kernel_rfl⟩).set ⟨by kernel_rfl⟩, by ktr_rel, lk_sh⟩
    · rw [decide_eq_false a, Bool.not_false]
      exact ⟨_, x_iff (by ktr_rel) (decide_eq_false a) (s_nil rfl), hk.set ⟨by kernel_rfl⟩, by ktr_rel, lk_sh⟩
  generalize (!decide (mo > 4)) = w0 at *
  clear ht hk ρ
  rintro ρ ⟨hk, ht, hw⟩
  refine r_ex (fun ρ => Kp ns mo f x y z m k ρ ∧ ρ.lookup (Str.ofString "t") = some ⟨.val, encL (tD mo t)⟩ ∧ ρ.lookup (Str.ofString "want") = some ⟨.val, .bool w0⟩) ?_ ?_
  · unfold tD
    have hsl := slc_dropLast t (by omega) hT0
    obtain ⟨h1, h2, h3, h4, h5, h6, h7, h8, h9⟩ := id hk
    by_cases a : mo = 5
    · rw [if_pos a]
      exact ⟨_, x_ift (by ktr_rel) (decide_eq_true a) (s_next (by ktr_rel) (s_nil rfl)), hk.set ⟨by kernel_rfl⟩, lk_sh, by ktr_rel⟩
    · rw [if_neg a]
      exact ⟨_, x_iff (by ktr_rel) (decide_eq_false a) (s_nil rfl), hk, ht, hw⟩
  clear ht hk hw ρ
  rintro ρ ⟨hk, ht, hw⟩
  have hD : (tD mo t).length ≤ 5 := by unfold tD; split; (rw [List.length_dropLast]; omega); omega
  refine r_ex (fun ρ => Kp ns mo f x y z m k ρ ∧ ρ.lookup (Str.ofString "t") = some ⟨.val, encL (tE mo t m)⟩ ∧ ρ.lookup (Str.ofString "want") = some ⟨.val, .bool w0⟩) ?_ ?_
  · unfold tE
    have had : binD .Add (encL (tD mo t)) (.list [enc m]) = some (encL (tD mo t ++ [m])) := add_encL (tD mo t) [m] (by simp; omega)
    obtain ⟨h1, h2, h3, h4, h5, h6, h7, h8, h9⟩ := id hk
    by_cases a : mo = 6
    · rw [if_pos a]
      exact ⟨_, x_ift (by ktr_rel) (decide_eq_true a) (s_next (by ktr_rel) (s_nil rfl)), hk.set ⟨by kernel_rfl⟩, lk_sh, by ktr_rel⟩
    · rw [if_neg a]
      exact ⟨_, x_iff (by ktr_rel) (decide_eq_false a) (s_nil rfl), hk, ht, hw⟩
  clear ht hk hw ρ
  rintro ρ ⟨hk, ht, hw⟩
  have hE : (tE mo t m).length ≤ 6 := by unfold tE; split; (simp; omega); omega
  refine r_ex (fun ρ => Kp ns mo f x y z m k ρ ∧ ρ.lookup (Str.ofString "t") = some ⟨.val, encL (tF mo t m (cell ns 2))⟩ ∧ ρ.lookup (Str.ofString "want") = some ⟨.val, .bool w0⟩) ?_ ?_
  · unfold tF
    have had1 : binD .Add (.list [enc (badI (cell ns 2))]) (encL (tE mo t m)) = some (encL ([badI (cell ns 2)] ++ tE mo t m)) := add_encL [badI (cell ns 2)] (tE mo t m) (by simp; omega)
    have had2 : binD .Add (encL ([badI (cell ns 2)] ++ tE mo t m)) (.list [enc m]) = some (encL ([badI (cell ns 2)] ++ tE mo t m ++ [m])) := add_encL ([badI (cell ns 2)] ++ tE mo t m) [m] (by simp; omega)
    obtain ⟨h1, h2, h3, h4, h5, h6, h7, h8, h9⟩ := id hk
    by_cases a : mo = 7
    · rw [if_pos a]
      exact ⟨_, x_ift (by ktr_rel) (decide_eq_true a) (s_next (by ktr_rel) (s_nil rfl)), hk.set ⟨by kernel_rfl⟩, lk_sh, by ktr_rel⟩
    · rw [if_neg a]
      exact ⟨_, x_iff (by ktr_rel) (decide_eq_false a) (s_nil rfl), hk, ht, hw⟩
  clear ht hk hw ρ
  rintro ρ ⟨⟨h1, h2, _, h4, _⟩, ht, hw⟩
  have hF : (tF mo t m (cell ns 2)).length ≤ 8 := by unfold tF; split; (simp; omega); omega
  generalize tF mo t m (cell ns 2) = t at *
  refine r_next (x_val ⟨by kernel_rfl⟩ (q_lc ⟨by kernel_rfl⟩ (i_range rfl (by ktr_rel) hrg) (compGo_map (fun i : Nat => PyData.int (0 + i)) (fun i => encB (bindI mo (cell ns (6 + 2 * (i : Int))) (cell ns (7 + 2 * (i : Int))))) _ fun i _ => cb_nm (c := true) ⟨by kernel_rfl⟩ ts_nil fun _ => el_of (q_call hb ⟨by kernel_rfl⟩ (by ktr_rel) (hFb' i))))) ?_
  rw [hbs]
  generalize bsOf ns = bs at *
  generalize wantOf ns = w at *
  have hJ := items_encL t (by omega)
  have hL1 := list_encL t (by omega)
  have hI := items_encBs bs (by omega)
  refine for_hasP enc (wStep bs) (fun w ρ => ρ.lookup (Str.ofString "t") = some ⟨.val, encL t⟩ ∧ ρ.lookup (Str.ofString "want") = some ⟨.val, .bool w⟩ ∧ ρ.lookup (Str.ofString "bindings") = some ⟨.val, encBs bs⟩) (fun _ _ => True) t w0 ⟨by kernel_rfl⟩ (i_val (by kernel_rfl) (by ktr_rel) hJ) ⟨by ktr_rel, by ktr_rel, lk_sh⟩ trivial (fun s ρ b h => ⟨lk_st ⟨by kernel_rfl⟩ h.1, lk_st ⟨by kernel_rfl⟩ h.2.1, lk_st ⟨by kernel_rfl⟩ h.2.2⟩) ?_ ?_
  · rintro i v q ρ _ _ ⟨g1, g2, g3⟩ hq
    have hR := hFr q.2
    refine ⟨trivial, ?_⟩
    unfold wStep
    by_cases a : q.1 = "var" ∧ rings bs q.2 = true
    · rw [if_pos a]
      exact ⟨_, s_next (x_ift (c := q.1 == "var" && rings bs q.2) (by ktr_rel) (by simp [a]) (s_next (by ktr_rel) (s_nil rfl))) (s_nil rfl), by ktr_rel, by ktr_rel, by ktr_rel⟩
    · rw [if_neg a]
      exact ⟨_, s_next (x_iff (c := q.1 == "var" && rings bs q.2) (by ktr_rel) (by rw [← Bool.not_eq_true]; simpa using a) (s_nil rfl)) (s_nil rfl), g1, g2, g3⟩
  clear h1 h2 h4 ht hw
  rintro ρ _ ⟨g1, g2, g3⟩
  rw [← hwt] at g2
  have hne1 : cmpD .NotEq (encL t) (encL t) = some false := by rw [cm2, dep_encL, Bool.and_self, if_pos rfl, eqv_encL]; simp
  have hne2 : cmpD .NotEq (encBs bs) (.list (bs.map encB)) = some false := by
    show cmpD .NotEq (encBs bs) (encBs bs) = some false
    rw [cm2, dep_encBs, Bool.and_self, if_pos rfl, eqv_encBs]; rfl
  refine r_next (by ktr_rel) (r_next (x_val ⟨by kernel_rfl⟩ (q_lc ⟨by kernel_rfl⟩ (i_val (by kernel_rfl) (by ktr_rel) hI) (compGo_map encB encB bs fun b hb' => ?_))) ?_)
  · have hL2 := list_encL b.2 (by have := hul b hb'; omega)
    exact cb_tp (c := true) ⟨by kernel_rfl⟩ ts_nil fun _ => el_of (by show _ = some (PyData.tuple [.int b.1, encL b.2]); ktr_rel)
  refine r_next (by ktr_rel) ?_
  cases w with
  | true => exact r_skip (c := true && !(true == true)) (by ktr_rel) rfl (r_skip (c := !true && !(true == false)) (by ktr_rel) rfl (r_skip (by ktr_rel) rfl (r_skip (by ktr_rel) rfl (r_ret (by ktr_rel) (by rfl)))))
  | false => exact r_skip (c := false && !(false == true)) (by ktr_rel) rfl (r_skip (c := !false && !(false == false)) (by ktr_rel) rfl (r_skip (by ktr_rel) rfl (r_skip (by ktr_rel) rfl (r_ret (by ktr_rel) (by rfl)))))
end Mine
set_option autoImplicit false
set_option maxRecDepth 100000
set_option linter.unusedVariables false
namespace Mine
open PySem PySem.Spec PySem.Calls PyProof.Rows PySem.W

/-! ## the plain law: the table -/
theorem lookS_map (c : Int) (u : List It) (k : Int) : ∀ S : Dct, lookS (S.map fun p => if p.1 = c then (p.1, u) else p) k = if k = c then (lookS S k).map fun _ => u else lookS S k
  | [] => by simp [lookS]
  | (j, w) :: r => by
    have ih := lookS_map c u k r
    rw [List.map_cons]
    by_cases hj : j = c
    · simp only [hj, if_true, lookS, ih]
      by_cases hk : c = k
      · subst hk; simp
      · simp [hk, Ne.symm hk]
    · simp only [hj, if_false, lookS, ih]
      by_cases hk : j = k
      · subst hk; simp [hj]
      · simp [hk]
theorem lookS_app (c : Int) (u : List It) (k : Int) : ∀ S : Dct, lookS (S ++ [(c, u)]) k = (lookS S k).or (if c = k then some u else none)
  | [] => by simp [lookS]
  | (j, w) :: r => by
    rw [List.cons_append, lookS, lookS, lookS_app c u k r]
    split <;> simp
theorem lookS_any (c : Int) : ∀ S : Dct, (S.any fun p => decide (p.1 = c)) = (lookS S c).isSome
  | [] => rfl
  | (j, w) :: r => by
    rw [List.any_cons, lookS, lookS_any c r]
    by_cases h : j = c <;> simp [h]
theorem lookS_put (S : Dct) (c : Int) (u : List It) (k : Int) : lookS (putS S c u) k = if k = c then some u else lookS S k := by
  unfold putS
  rw [lookS_any]
  split
  · rename_i h
    rw [lookS_map]
    by_cases hk : k = c
    · subst hk
      cases e : lookS S k with
      | none => rw [e] at h; cases h
      | some _ => simp
    · simp [hk]
  · rename_i h
    rw [lookS_app]
    by_cases hk : k = c
    · subst hk
      cases e : lookS S k with
      | none => simp
      | some _ => rw [e] at h; simp at h
    · simp [hk, Ne.symm hk]
theorem look_mk (k : Int) : ∀ (bs : List Bg) (S : Dct), lookS (bs.foldl (fun S b => putS S b.1 b.2) S) k = ((aft bs k).getLast?).or (lookS S k)
  | [], S => by simp [aft]
  | b :: bs, S => by
    rw [List.foldl_cons, look_mk k bs, lookS_put]
    unfold aft
    rw [List.filter_cons]
    by_cases h : b.1 = k
    · subst h
      simp only [decide_true, if_true, List.map_cons]
      cases e : ((bs.filter fun b' => decide (b'.1 = b.1)).map (·.2)).getLast? with
      | none => rw [List.getLast?_cons, e]; simp
      | some u => rw [List.getLast?_cons, e]; simp
    · simp [h, Ne.symm h]
theorem look_mkS (bs : List Bg) (k : Int) : lookS (mkS bs) k = (aft bs k).getLast? := by
  unfold mkS; rw [look_mk]; simp [lookS]
/-! the chain -/
noncomputable def nxt (bs : List Bg) (v : Int) : Option Int := match (aft bs v).getLast? with | none => none | some u => (inn u).head?
noncomputable def nIter (bs : List Bg) : Nat → Int → Option Int
  | 0, v => some v
  | n + 1, v => (nxt bs v).bind (nIter bs n)
theorem rings_fold (bs : List Bg) : ∀ (l : List Nat) (v : Int), (match l.foldlM (rgStep bs) v with | .ok _ => true | .error _ => false) = (nIter bs l.length v).isSome
  | [], v => rfl
  | x :: l, v => by
    rw [List.foldlM_cons, List.length_cons, nIter]
    unfold nxt
    cases h : (aft bs v).getLast? with
    | none =>
      have e : rgStep bs v x = .error (.bool false) := by simp only [rgStep, h]
      rw [e]; rfl
    | some u =>
      cases h2 : (inn u).head? with
      | none =>
        have e : rgStep bs v x = .error (.bool false) := by simp only [rgStep, h, h2]
        rw [e]
        simp only [h2]
        rfl
      | some w =>
        have e : rgStep bs v x = .ok w := by simp only [rgStep, h, h2]
        rw [e]
        simp only [h2]
        exact rings_fold bs l w
theorem rings_eq (bs : List Bg) (v : Int) : rings bs v = (nIter bs 5 v).isSome := by
  have := rings_fold bs (List.range 5) v
  rw [List.length_range] at this
  exact this

/-! bound vars -/
noncomputable def bd (bs : List Bg) (t : List It) : Bool := t.any fun x => x.1 == "var" && (lookS (mkS bs) x.2).isSome
noncomputable def bdv (bs : List Bg) (k : Nat) (v : Int) : Bool := match nIter bs k v with | some w => (lookS (mkS bs) w).isSome | none => false
theorem aOnce_flat (S : Dct) (t : List It) : aOnce S t = t.flatMap (aoF S) := by
  have : ∀ (t o : List It), t.foldl (fun o x => o ++ aoF S x) o = o ++ t.flatMap (aoF S) := by
    intro t
    induction t with
    | nil => intro o; simp
    | cons x t ih => intro o; rw [List.foldl_cons, ih, List.flatMap_cons, List.append_assoc]
  unfold aOnce; rw [this]; rfl
theorem nxt_none (bs : List Bg) (v : Int) (h : lookS (mkS bs) v = none) : nxt bs v = none := by
  rw [look_mkS] at h; unfold nxt; rw [h]
theorem bdv_none (bs : List Bg) (k : Nat) (v : Int) (h : lookS (mkS bs) v = none) : bdv bs k v = false := by
  unfold bdv
  cases k with
  | zero => simp [nIter, h]
  | succ k => simp [nIter, nxt_none bs v h]
theorem any_inn (p : Int → Bool) : ∀ u : List It, (u.any fun x => x.1 == "var" && p x.2) = (inn u).any p
  | [] => rfl
  | x :: u => by
    rw [List.any_cons, any_inn p u, inn, inn, List.filter_cons]
    by_cases h : x.1 = "var" <;> simp [h]
theorem bd_iter (bs : List Bg) (h1 : ∀ k u, lookS (mkS bs) k = some u → (inn u).length ≤ 1) : ∀ (k : Nat) (t : List It), bd bs (iter (mkS bs) k t) = t.any fun x => x.1 == "var" && bdv bs k x.2
  | 0, t => rfl
  | k + 1, t => by
    rw [iter, bd_iter bs h1 k, aOnce_flat, List.any_flatMap]
    congr 1
    funext x
    unfold aoF
    by_cases hx : x.1 = "var"
    · simp only [hx, if_true, beq_self_eq_true, Bool.true_and]
      cases hl : lookS (mkS bs) x.2 with
      | none => simp [hx, bdv_none bs _ _ hl]
      | some u =>
        rw [Option.getD_some, any_inn]
        have hlen := h1 _ _ hl
        have hn : nxt bs x.2 = (inn u).head? := by rw [look_mkS] at hl; unfold nxt; rw [hl]
        unfold bdv
        rw [nIter, hn]
        match h : inn u, hlen with
        | [], _ => simp
        | [w], _ => simp
    · have hxb : (x.1 == "var") = false := beq_eq_false_iff_ne.mpr hx
      simp [hx, hxb]
/-! the chain comes round -/
theorem nIter_add (bs : List Bg) : ∀ (a b : Nat) (v : Int), nIter bs (a + b) v = (nIter bs a v).bind (nIter bs b)
  | 0, b, v => by rw [Nat.zero_add]; rfl
  | a + 1, b, v => by
    rw [show a + 1 + b = (a + b) + 1 by omega, nIter, nIter]
    cases nxt bs v with
    | none => rfl
    | some w => exact nIter_add bs a b w
theorem nodup_sub : ∀ (l k : List Int), l.Nodup → (∀ x ∈ l, x ∈ k) → l.length ≤ k.length
  | [], _, _, _ => Nat.zero_le _
  | x :: l, k, hn, hs => by
    rw [List.nodup_cons] at hn
    have hx := hs x (List.mem_cons_self ..)
    have := nodup_sub l (k.erase x) hn.2 fun y hy => (List.mem_erase_of_ne (by rintro rfl; exact hn.1 hy)).mpr (hs y (.tail _ hy))
    rw [List.length_erase_of_mem hx] at this
    have := List.length_pos_of_mem hx
    rw [List.length_cons]; omega
theorem look_key : ∀ (S : Dct) (k : Int), (lookS S k).isSome = true → k ∈ S.map (·.1)
  | [], k, h => by cases h
  | (j, u) :: r, k, h => by
    rw [lookS] at h
    split at h
    · rename_i e; simp [e]
    · exact List.mem_cons_of_mem _ (look_key r k h)
noncomputable def chain (bs : List Bg) : Nat → Int → List Int
  | 0, v => [v]
  | n + 1, v => v :: (match nxt bs v with | none => [] | some w => chain bs n w)
theorem chain_mem (bs : List Bg) : ∀ (n : Nat) (v w : Int), w ∈ chain bs n v → ∃ i, i ≤ n ∧ nIter bs i v = some w
  | 0, v, w, h => by simp [chain] at h; exact ⟨0, Nat.le_refl _, by rw [h]; rfl⟩
  | n + 1, v, w, h => by
    rw [chain] at h
    rcases List.mem_cons.mp h with rfl | h
    · exact ⟨0, Nat.zero_le _, rfl⟩
    · cases hn : nxt bs v with
      | none => rw [hn] at h; cases h
      | some u =>
        rw [hn] at h
        obtain ⟨i, hi, e⟩ := chain_mem bs n u w h
        exact ⟨i + 1, by omega, by rw [nIter, hn]; exact e⟩
theorem chain_len (bs : List Bg) : ∀ (n : Nat) (v w : Int), nIter bs n v = some w → (chain bs n v).length = n + 1
  | 0, v, w, _ => rfl
  | n + 1, v, w, h => by
    rw [nIter] at h
    rw [chain]
    cases hn : nxt bs v with
    | none => rw [hn] at h; cases h
    | some u => rw [hn] at h; simp [chain_len bs n u w h]
/-- a chain that comes back to its start never ends -/
theorem loop_on (bs : List Bg) (v : Int) (p : Nat) (hp : 0 < p) (h : nIter bs p v = some v) : ∀ n, (nIter bs n v).isSome = true := by
  intro n
  induction n using Nat.strongRecOn with
  | _ n ih =>
    by_cases hn : n < p
    · have e : nIter bs p v = (nIter bs n v).bind (nIter bs (p - n)) := by rw [← nIter_add]; congr 1; omega
      rw [h] at e
      cases hq : nIter bs n v with
      | none => rw [hq] at e; cases e
      | some _ => rfl
    · rw [show n = p + (n - p) by omega, nIter_add, h]
      exact ih (n - p) (by omega)
theorem chain_dup (bs : List Bg) : ∀ (n : Nat) (v : Int), ¬ (chain bs n v).Nodup → ∀ m, (nIter bs m v).isSome = true
  | 0, v, h, _ => absurd (by simp [chain]) h
  | n + 1, v, h, m => by
    rw [chain] at h
    cases hn : nxt bs v with
    | none => rw [hn] at h; simp at h
    | some u =>
      rw [hn] at h
      simp only [List.nodup_cons] at h
      by_cases hv : v ∈ chain bs n u
      · obtain ⟨i, _, e⟩ := chain_mem bs n u v hv
        exact loop_on bs v (i + 1) (by omega) (by rw [nIter, hn]; exact e) m
      · have hd : ¬ (chain bs n u).Nodup := fun hd => h ⟨hv, hd⟩
        cases m with
        | zero => rfl
        | succ m => rw [nIter, hn]; exact chain_dup bs n u hd m
theorem nxt_bound (bs : List Bg) (v : Int) (h : nxt bs v ≠ none) : (lookS (mkS bs) v).isSome = true := by
  cases e : lookS (mkS bs) v with
  | none => exact absurd (nxt_none bs v e) h
  | some _ => rfl
theorem bdv_rings (bs : List Bg) (hS : (mkS bs).length ≤ 3) (v : Int) : bdv bs ((mkS bs).length + 1) v = rings bs v := by
  rw [rings_eq]
  generalize hN : (mkS bs).length + 1 = N
  have h5 : nIter bs 5 v = (nIter bs N v).bind (nIter bs (5 - N)) := by rw [← nIter_add]; congr 1; omega
  obtain ⟨q, hq⟩ : ∃ q, 5 - N = q + 1 := ⟨4 - N, by omega⟩
  unfold bdv
  cases hw : nIter bs N v with
  | none => rw [h5, hw]; rfl
  | some w =>
    cases hb : lookS (mkS bs) w with
    | none =>
      rw [h5, hw, hq]
      show _ = (nIter bs (q + 1) w).isSome
      rw [nIter, nxt_none bs w hb]
      simp [hb]
    | some u =>
      have hnd : ¬ (chain bs N v).Nodup := fun hd => by
        have := nodup_sub _ ((mkS bs).map (·.1)) hd fun x hx => by
          obtain ⟨i, hi, e⟩ := chain_mem bs N v x hx
          refine look_key _ _ ?_
          by_cases hin : i = N
          · subst hin; rw [hw] at e; cases e; rw [hb]; rfl
          · have e2 : nIter bs N v = (nIter bs i v).bind (nIter bs (N - i)) := by rw [← nIter_add]; congr 1; omega
            rw [hw, e] at e2
            obtain ⟨r, hr⟩ : ∃ r, N - i = r + 1 := ⟨N - i - 1, by omega⟩
            rw [hr] at e2
            refine nxt_bound bs x fun h0 => ?_
            have e3 : some w = nIter bs (r + 1) x := e2
            rw [nIter, h0] at e3; cases e3
        rw [chain_len bs N v w hw, List.length_map] at this
        omega
      rw [chain_dup bs N v hnd 5]
      simp [hb]
end Mine
set_option autoImplicit false
set_option maxRecDepth 100000
set_option linter.unusedVariables false
set_option linter.unusedSimpArgs false
namespace Mine
open PySem PySem.Spec PySem.Calls PyProof.Rows PySem.W

/-! ## types -/
noncomputable def LeafOk (x : It) : Prop := x = ("int", 0) ∨ x = ("bool", 0) ∨ ∃ n, x = ("var", n) ∧ 0 ≤ n
noncomputable def MkOk (x : It) : Prop := x = ("fun", 0) ∨ x = ("pair", 0)
inductive Ty : List It → Prop
  | leaf {x : It} (h : LeafOk x) : Ty [x]
  | node {u v : List It} {m : It} (hu : Ty u) (hv : Ty v) (h : MkOk m) : Ty (u ++ v ++ [m])
theorem Ty.ne {u : List It} (h : Ty u) : 0 < u.length := by
  cases h with
  | leaf h => simp
  | node hu hv h => simp; omega
theorem LeafOk.step {x : It} (h : LeafOk x) (n : Int) : tyStep n x = .ok (n + 1) := by
  rcases h with rfl | rfl | ⟨m, rfl, hm⟩ <;> simp [tyStep, *]
theorem MkOk.step {x : It} (h : MkOk x) (n : Int) : tyStep n x = if n < 2 then .error (.bool false) else .ok (n - 1) := by
  rcases h with rfl | rfl <;> simp [tyStep]
noncomputable def run (n : Int) (l : List It) : Except PyData Int := l.foldlM tyStep n
theorem run_app (n : Int) (a b : List It) : run n (a ++ b) = (run n a).bind fun k => run k b := by
  unfold run; rw [List.foldlM_append]; rfl
theorem run_one (n : Int) (x : It) : run n [x] = tyStep n x := by
  unfold run; rw [List.foldlM_cons]; cases tyStep n x <;> rfl
theorem typeOk_run (t : List It) : typeOk t = match run 0 t with | .ok n => decide (n = 1) | .error _ => false := rfl
theorem Ty.run {u : List It} (h : Ty u) : ∀ n : Int, 0 ≤ n → Mine.run n u = .ok (n + 1) := by
  induction h with
  | leaf h => intro n _; rw [run_one, h.step]
  | node hu hv h ihu ihv =>
    intro n hn
    rw [run_app, run_app, ihu n hn]
    show (Except.bind (Mine.run (n + 1) _) _) = _
    rw [ihv (n + 1) (by omega)]
    show Mine.run (n + 1 + 1) _ = _
    rw [run_one, h.step, if_neg (by omega)]
    congr 1; omega
theorem run_ty (n : Int) (hn : 0 ≤ n) {u : List It} (h : Ty u) (r : List It) : run n (u ++ r) = run (n + 1) r := by rw [run_app, h.run n hn]; rfl
theorem Ty.ok {u : List It} (h : Ty u) : typeOk u = true := by rw [typeOk_run, h.run 0 (by omega)]; rfl
theorem run_err (n : Int) {x : It} {d : PyData} (h : tyStep n x = .error d) (r : List It) : run n (x :: r) = .error d := by
  unfold run; rw [List.foldlM_cons, h]; rfl


theorem tyStep_nn (n : Int) (hn : 0 ≤ n) (x : It) (k : Int) (h : tyStep n x = .ok k) : 0 ≤ k := by
  rcases tyStep_cases n x with ⟨_, _, e⟩ | ⟨_, h2, e⟩ | ⟨_, e⟩ | ⟨_, e⟩ | ⟨_, _, _, _, _, e⟩ <;> rw [e] at h <;> cases h <;> omega
theorem run_cons (n : Int) (x : It) (t : List It) : run n (x :: t) = (tyStep n x).bind fun k => run k t := by
  unfold run; rw [List.foldlM_cons]; rfl
theorem run_once (S : Dct) (hty : ∀ k u, lookS S k = some u → Ty u ∧ 0 ≤ k) : ∀ (t : List It) (n : Int), 0 ≤ n → run n (t.flatMap (aoF S)) = run n t
  | [], n, _ => rfl
  | x :: t, n, hn => by
    rw [List.flatMap_cons, run_cons]
    have hone : run n ([x] ++ t.flatMap (aoF S)) = (tyStep n x).bind fun k => run k t := by
      rw [List.singleton_append, run_cons]
      cases h : tyStep n x with
      | error d => rfl
      | ok k => exact run_once S hty t k (tyStep_nn n hn x k h)
    unfold aoF
    by_cases hx : x.1 = "var"
    · rw [if_pos hx]
      cases hl : lookS S x.2 with
      | none => exact hone
      | some u =>
        obtain ⟨hu, hk⟩ := hty _ _ hl
        rw [Option.getD_some, run_ty n hn hu]
        have e : tyStep n x = .ok (n + 1) := by
          obtain ⟨a, b⟩ := x
          simp only at hx hk
          subst hx
          exact LeafOk.step (.inr (.inr ⟨b, rfl, hk⟩)) n
        rw [e]
        exact run_once S hty t (n + 1) (by omega)
    · rw [if_neg hx]; exact hone
theorem typeOk_iter (S : Dct) (hty : ∀ k u, lookS S k = some u → Ty u ∧ 0 ≤ k) : ∀ (k : Nat) (t : List It), typeOk (iter S k t) = typeOk t
  | 0, _ => rfl
  | k + 1, t => by
    rw [iter, typeOk_iter S hty k, typeOk_run, typeOk_run, aOnce_flat, run_once S hty t 0 (by omega)]
end Mine
set_option autoImplicit false
set_option maxRecDepth 100000
set_option linter.unusedVariables false
set_option linter.unusedSimpArgs false
namespace Mine
open PySem PySem.Spec PySem.Calls PyProof.Rows PySem.W

theorem leaf_ok (c : Int) : LeafOk (leafI c) := by
  unfold leafI
  split
  · exact .inl rfl
  · split
    · exact .inr (.inl rfl)
    · split
      · exact .inr (.inr ⟨_, rfl, by split <;> omega⟩)
      · exact .inr (.inr ⟨_, rfl, Int.fmod_nonneg_of_pos _ (by decide)⟩)
theorem maker_ok (c : Int) : MkOk (makerI c) := by
  unfold makerI
  split
  · exact .inl rfl
  · exact .inr rfl
theorem inn_mk (m : It) (h : MkOk m) : inn [m] = [] := by rcases h with rfl | rfl <;> rfl
theorem inn_app (a b : List It) : inn (a ++ b) = inn a ++ inn b := by unfold inn; rw [List.filter_append, List.map_append]
theorem inn_one (x : It) : (inn [x]).length ≤ 1 := by
  unfold inn
  rw [List.length_map]
  exact Nat.le_trans (List.length_filter_le _ _) (by simp)
theorem bind_ok (m kc c : Int) : 0 ≤ (bindI m kc c).1 ∧ Ty (bindI m kc c).2 ∧ (inn (bindI m kc c).2).length ≤ 1 ∧ (bindI m kc c).2.length ≤ 3 := by
  have hk := Int.fmod_nonneg_of_pos kc (by decide : (0:Int) < 5)
  have hx : LeafOk (x2Of m (kc.fmod 5) (x1Of m (leafI c))) := by
    have h1 : LeafOk (x1Of m (leafI c)) := by unfold x1Of; split; exact .inr (.inl rfl); exact leaf_ok c
    unfold x2Of
    split
    · exact .inr (.inr ⟨_, rfl, hk⟩)
    · exact h1
  have hm := maker_ok (kc.fdiv 10)
  unfold bindI
  generalize x2Of m (kc.fmod 5) (x1Of m (leafI c)) = x at *
  generalize makerI (kc.fdiv 10) = mk at *
  split
  · refine ⟨hk, .node (u := [("int", 0)]) (v := [x]) (.leaf (.inl rfl)) (.leaf hx) hm, ?_, by simp⟩
    show (inn ([("int", 0)] ++ ([x] ++ [mk]))).length ≤ 1
    rw [inn_app, inn_app, inn_mk mk hm]
    have := inn_one x
    simpa [inn] using this
  · exact ⟨hk, .leaf hx, inn_one x, by simp⟩
theorem bs_ok (ns : List Int) : ∀ b ∈ bsOf ns, 0 ≤ b.1 ∧ Ty b.2 ∧ (inn b.2).length ≤ 1 ∧ b.2.length ≤ 3 := by
  intro b hb
  unfold bsOf at hb
  obtain ⟨i, _, rfl⟩ := List.mem_map.mp hb
  exact bind_ok _ _ _
theorem bs_len (ns : List Int) : (bsOf ns).length ≤ 3 := by
  have h2 := Int.fmod_lt_of_pos (cell ns 2) (by decide : (0:Int) < 4)
  unfold bsOf
  rw [List.length_map, List.length_range]; omega
theorem look_mem (bs : List Bg) (k : Int) (u : List It) (h : lookS (mkS bs) k = some u) : ∃ b ∈ bs, b.1 = k ∧ b.2 = u := by
  rw [look_mkS] at h
  have := List.mem_of_getLast? h
  unfold aft at this
  obtain ⟨b, hb, e⟩ := List.mem_map.mp this
  obtain ⟨h1, h2⟩ := List.mem_filter.mp hb
  exact ⟨b, h1, by simpa using h2, e⟩
theorem mkS_len (bs : List Bg) : (mkS bs).length ≤ bs.length := by
  have : ∀ (bs : List Bg) (S : Dct), (bs.foldl (fun S b => putS S b.1 b.2) S).length ≤ S.length + bs.length := by
    intro bs
    induction bs with
    | nil => intro S; simp
    | cons b bs ih =>
      intro S
      rw [List.foldl_cons, List.length_cons]
      have h1 := ih (putS S b.1 b.2)
      have h2 := putS_len S b.1 b.2
      omega
  simpa [mkS] using this bs []
/-! lengths -/
theorem once_len (S : Dct) (hS : ∀ k u, lookS S k = some u → u.length ≤ 3) : ∀ t : List It, (t.flatMap (aoF S)).length ≤ 3 * t.length
  | [] => by simp
  | x :: t => by
    rw [List.flatMap_cons, List.length_append, List.length_cons]
    have h1 := aoF_len S hS x
    have h2 := once_len S hS t
    omega
theorem iter_len (S : Dct) (hS : ∀ k u, lookS S k = some u → u.length ≤ 3) : ∀ (k : Nat) (t : List It), (iter S k t).length ≤ 3 ^ k * t.length
  | 0, t => by simp [iter]
  | k + 1, t => by
    rw [iter, aOnce_flat]
    have h1 := iter_len S hS k (t.flatMap (aoF S))
    have h2 := once_len S hS t
    have h3 : 3 ^ k * (t.flatMap (aoF S)).length ≤ 3 ^ k * (3 * t.length) := Nat.mul_le_mul_left _ h2
    rw [Nat.pow_succ, Nat.mul_assoc]
    omega
theorem inn_once (S : Dct) (h1 : ∀ k u, lookS S k = some u → (inn u).length ≤ 1) : ∀ t : List It, (inn (t.flatMap (aoF S))).length ≤ (inn t).length
  | [] => by simp
  | x :: t => by
    rw [List.flatMap_cons, inn_app, List.length_append, show x :: t = [x] ++ t from rfl, inn_app, List.length_append]
    have ih := inn_once S h1 t
    have : (inn (aoF S x)).length ≤ (inn [x]).length := by
      unfold aoF
      by_cases hx : x.1 = "var"
      · rw [if_pos hx]
        have hx1 : (inn [x]).length = 1 := by simp [inn, hx]
        cases hl : lookS S x.2 with
        | none => exact Nat.le_refl _
        | some u => rw [Option.getD_some, hx1]; exact h1 _ _ hl
      · rw [if_neg hx]; exact Nat.le_refl _
    omega
theorem inn_iter (S : Dct) (h1 : ∀ k u, lookS S k = some u → (inn u).length ≤ 1) : ∀ (k : Nat) (t : List It), (inn (iter S k t)).length ≤ (inn t).length
  | 0, t => Nat.le_refl _
  | k + 1, t => by rw [iter, aOnce_flat]; exact Nat.le_trans (inn_iter S h1 k _) (inn_once S h1 t)
theorem vo_fold : ∀ (t : List It) (met : List Int), (t.foldl voStep met).length ≤ met.length + (inn t).length ∧ ∀ v, v ∈ t.foldl voStep met ↔ v ∈ met ∨ v ∈ inn t
  | [], met => by simp [inn]
  | x :: t, met => by
    rw [List.foldl_cons, show x :: t = [x] ++ t from rfl, inn_app]
    obtain ⟨h1, h2⟩ := vo_fold t (voStep met x)
    by_cases hx : x.1 = "var"
    · have e : inn [x] = [x.2] := by simp [inn, hx]
      by_cases hm : x.2 ∈ met
      · have ev : voStep met x = met := by unfold voStep; simp [hm]
        rw [ev] at h1 h2 ⊢
        rw [e]
        refine ⟨by simp; omega, fun v => ?_⟩
        rw [h2]
        simp only [List.mem_append, List.mem_singleton]
        constructor
        · rintro (h | h); exact .inl h; exact .inr (.inr h)
        · rintro (h | rfl | h); exact .inl h; exact .inl hm; exact .inr h
      · have ev : voStep met x = met ++ [x.2] := by unfold voStep; simp [hx, hm]
        rw [ev] at h1 h2 ⊢
        rw [e]
        refine ⟨by simp at h1 ⊢; omega, fun v => ?_⟩
        rw [h2]
        simp only [List.mem_append, List.mem_singleton]
        constructor
        · rintro ((h | h) | h); exact .inl h; exact .inr (.inl h); exact .inr (.inr h)
        · rintro (h | h | h); exact .inl (.inl h); exact .inl (.inr h); exact .inr h
    · have e : inn [x] = [] := by simp [inn, hx]
      have ev : voStep met x = met := by unfold voStep; simp [hx]
      rw [ev] at h1 h2 ⊢
      rw [e, List.nil_append]
      exact ⟨h1, h2⟩
end Mine
set_option autoImplicit false
set_option maxRecDepth 100000
set_option linter.unusedVariables false
set_option linter.unusedSimpArgs false
namespace Mine
open PySem PySem.Spec PySem.Calls PyProof.Rows PySem.W

theorem want_fold (bs : List Bg) : ∀ (t : List It) (w : Bool), t.foldl (wStep bs) w = (w && !(t.any fun x => x.1 == "var" && rings bs x.2))
  | [], w => by simp
  | x :: t, w => by
    rw [List.foldl_cons, want_fold bs t, List.any_cons]
    unfold wStep
    by_cases hx : x.1 = "var"
    · cases hr : rings bs x.2 <;> simp [hx, hr]
    · have hxb : (x.1 == "var") = false := beq_eq_false_iff_ne.mpr hx
      simp [hx, hxb]
theorem all_sort (l : List Int) (p : Int → Bool) : (sortI l).all p = l.all p := by
  letI : TB := ⟨0⟩
  rw [Bool.eq_iff_iff, List.all_eq_true, List.all_eq_true]
  have := fun x => (sortI_perm l).mem_iff (a := x)
  exact ⟨fun h x hx => h x ((this x).mpr hx), fun h x hx => h x ((this x).mp hx)⟩
theorem vars_all (bs : List Bg) (u : List It) : ((sortI (varsOf u)).all fun v => (lookS (mkS bs) v).isNone) = !(bd bs u) := by
  rw [all_sort]
  unfold bd
  rw [any_inn fun v => (lookS (mkS bs) v).isSome]
  have h := (vo_fold u []).2
  rw [Bool.eq_iff_iff]
  simp only [List.all_eq_true, Bool.not_eq_true', List.any_eq_false]
  constructor
  · intro h1 v hv
    have := h1 v ((h v).mpr (.inr hv))
    cases e : lookS (mkS bs) v <;> simp_all
  · intro h1 v hv
    have hv' : v ∈ inn u := by rcases (h v).mp hv with h | h; cases h; exact h
    have := h1 v hv'
    cases e : lookS (mkS bs) v <;> simp_all
theorem spl_eq (ns : List Int) (t : List It) : spl t (bsOf ns) = (typeOk t && !(t.any fun x => x.1 == "var" && rings (bsOf ns) x.2)) := by
  have hS : (mkS (bsOf ns)).length ≤ 3 := Nat.le_trans (mkS_len _) (bs_len ns)
  have hb := bs_ok ns
  generalize bsOf ns = bs at *
  have h1 : ∀ k u, lookS (mkS bs) k = some u → (inn u).length ≤ 1 := fun k u h => by obtain ⟨b, hm, _, rfl⟩ := look_mem bs k u h; exact (hb b hm).2.2.1
  have h2 : ∀ k u, lookS (mkS bs) k = some u → Ty u ∧ 0 ≤ k := fun k u h => by obtain ⟨b, hm, rfl, rfl⟩ := look_mem bs k u h; exact ⟨(hb b hm).2.1, (hb b hm).1⟩
  unfold spl
  rw [typeOk_iter _ h2, vars_all, bd_iter bs h1]
  simp only [bdv_rings bs hS]
theorem tC_ty (f : Int) {x y z m k : It} (hx : LeafOk x) (hy : LeafOk y) (hz : LeafOk z) (hm : MkOk m) (hk : MkOk k) : Ty (tC f x y z m k) ∧ typeOk (tC f x y z m k).dropLast = false := by
  unfold tC tB tA
  split
  · refine ⟨.node (u := [x]) (v := [y, z, k]) (.leaf hx) (.node (u := [y]) (v := [z]) (.leaf hy) (.leaf hz) hk) hm, ?_⟩
    have h3 : Ty [y, z, k] := .node (u := [y]) (v := [z]) (.leaf hy) (.leaf hz) hk
    show typeOk ([x] ++ ([y, z, k] ++ [])) = false
    rw [typeOk_run, run_ty 0 (by omega) (.leaf hx), run_ty (0 + 1) (by omega) h3]
    rfl
  · split
    · refine ⟨.node (u := [x, y, m]) (v := [z]) (.node (u := [x]) (v := [y]) (.leaf hx) (.leaf hy) hm) (.leaf hz) hk, ?_⟩
      have h3 : Ty [x, y, m] := .node (u := [x]) (v := [y]) (.leaf hx) (.leaf hy) hm
      show typeOk ([x, y, m] ++ ([z] ++ [])) = false
      rw [typeOk_run, run_ty 0 (by omega) h3, run_ty (0 + 1) (by omega) (.leaf hz)]
      rfl
    · split
      · refine ⟨.node (u := [x]) (v := [y]) (.leaf hx) (.leaf hy) hm, ?_⟩
        show typeOk ([x] ++ ([y] ++ [])) = false
        rw [typeOk_run, run_ty 0 (by omega) (.leaf hx), run_ty (0 + 1) (by omega) (.leaf hy)]
        rfl
      · exact ⟨.leaf hx, rfl⟩
theorem bad_step (c : Int) : tyStep 0 (badI c) = .error (.bool false) := by
  unfold badI
  rcases fmod_cases6 (c.fdiv 4) with h | h | h | h | h | h <;> rw [h] <;> rfl
theorem tF_ok (mo : Int) (h0 : 0 ≤ mo) (h8 : mo < 8) (t : List It) (m : It) (c : Int) (ht : Ty t) (hd : typeOk t.dropLast = false) (hm : MkOk m) : typeOk (tF mo t m c) = !decide (mo > 4) := by
  unfold tF tE tD
  by_cases h5 : mo = 5
  · subst h5; simp [hd]
  · by_cases h6 : mo = 6
    · subst h6
      simp only [show ¬ (6 : Int) = 7 by decide, show ¬ (6 : Int) = 5 by decide, if_false, if_true]
      rw [typeOk_run, run_ty 0 (by omega) ht, run_one, hm.step]; rfl
    · by_cases h7 : mo = 7
      · subst h7
        simp only [if_true]
        rw [typeOk_run, List.append_assoc, List.singleton_append, run_err 0 (bad_step c)]; rfl
      · simp only [h5, h6, h7, if_false]
        rw [ht.ok]
        have : ¬ mo > 4 := by omega
        simp [this]
theorem plain (ns : List Int) : spl (tOf ns) (bsOf ns) = wantOf ns := by
  rw [spl_eq]
  unfold wantOf
  rw [want_fold]
  congr 1
  unfold tOf tOf0
  obtain ⟨h1, h2⟩ := tC_ty (cell ns 1) (leaf_ok (cell ns 3)) (leaf_ok (cell ns 4)) (leaf_ok (cell ns 5)) (maker_ok ((cell ns 1).fdiv 4)) (maker_ok ((cell ns 1).fdiv 8))
  exact tF_ok _ (Int.fmod_nonneg_of_pos _ (by decide)) (Int.fmod_lt_of_pos _ (by decide)) _ _ _ h1 h2 (maker_ok _)
end Mine
set_option autoImplicit false
set_option maxRecDepth 100000
set_option linter.unusedVariables false
namespace Mine
open PySem PySem.Spec PySem.Calls PyProof.Rows PySem.W

noncomputable def recs26 : List DefRec := [1, 2, 3, 4, 5, 7, 8, 9, 10, 11, 12, 13].map (recAt pw)
noncomputable def fl1 (r : DefRec) : List Bool := if r.name == Str.ofString "apply" || r.name == Str.ofString "apply_once" then [false, true] else r.params.args.map fun _ => false
noncomputable def defs26 : List Def := recs26.map fun r => defOf (fl1 r) r
theorem f1 : defs26.find? (fun d => d.name == Str.ofString "type_ok") = some (defOf [false] (recAt pw 1)) := by kernel_rfl
theorem f2 : defs26.find? (fun d => d.name == Str.ofString "vars_of") = some (defOf [false] (recAt pw 2)) := by kernel_rfl
theorem f3 : defs26.find? (fun d => d.name == Str.ofString "apply_once") = some (defOf [false, true] (recAt pw 3)) := by kernel_rfl
theorem f4 : defs26.find? (fun d => d.name == Str.ofString "apply") = some (defOf [false, true] (recAt pw 4)) := by kernel_rfl
theorem f5 : defs26.find? (fun d => d.name == Str.ofString "law_splicing_keeps_types") = some (defOf [false, false] (recAt pw 5)) := by kernel_rfl
theorem f7 : defs26.find? (fun d => d.name == Str.ofString "_law_BAD") = some (defOf [] (recAt pw 7)) := by kernel_rfl
theorem f8 : defs26.find? (fun d => d.name == Str.ofString "_law_cell") = some (defOf [false, false] (recAt pw 8)) := by kernel_rfl
theorem f9 : defs26.find? (fun d => d.name == Str.ofString "_law_leaf") = some (defOf [false] (recAt pw 9)) := by kernel_rfl
theorem f10 : defs26.find? (fun d => d.name == Str.ofString "_law_maker") = some (defOf [false] (recAt pw 10)) := by kernel_rfl
theorem f11 : defs26.find? (fun d => d.name == Str.ofString "_law_binding") = some (defOf [false, false, false] (recAt pw 11)) := by kernel_rfl
theorem f12 : defs26.find? (fun d => d.name == Str.ofString "_law_rings") = some (defOf [false, false] (recAt pw 12)) := by kernel_rfl
theorem tOf_len (ns : List Int) : (tOf ns).length ≤ 8 := by
  obtain ⟨h1, h2⟩ := tC_ne (cell ns 1) (leafI (cell ns 3)) (leafI (cell ns 4)) (leafI (cell ns 5)) (makerI ((cell ns 1).fdiv 4)) (makerI ((cell ns 1).fdiv 8))
  unfold tOf tOf0
  generalize tC (cell ns 1) (leafI (cell ns 3)) (leafI (cell ns 4)) (leafI (cell ns 5)) (makerI ((cell ns 1).fdiv 4)) (makerI ((cell ns 1).fdiv 8)) = t at *
  unfold tF tE tD
  repeat' split
  all_goals first | omega | (simp; omega)
theorem pure26 (ns : List Int) (hn : ns.length ≤ 63) : callD (tabF defs26 100 60 6) 100 60 (defOf [false] (recAt pw 13)) [.list (ns.map .int)] = some (.bool true) := by
  letI : TB := ⟨0⟩
  have hS : (mkS (bsOf ns)).length ≤ 3 := Nat.le_trans (mkS_len _) (bs_len ns)
  have hb := bs_ok ns
  have h1 : ∀ k u, lookS (mkS (bsOf ns)) k = some u → (inn u).length ≤ 1 := fun k u h => by obtain ⟨b, hm, _, rfl⟩ := look_mem _ k u h; exact (hb b hm).2.2.1
  have h3 : ∀ k u, lookS (mkS (bsOf ns)) k = some u → u.length ≤ 3 := fun k u h => by obtain ⟨b, hm, _, rfl⟩ := look_mem _ k u h; exact (hb b hm).2.2.2
  have ht := tOf_len ns
  have hit : ∀ j, j ≤ (mkS (bsOf ns)).length + 1 → (iter (mkS (bsOf ns)) j (tOf ns)).length ≤ 10000 := fun j hj => by
    have e := iter_len _ h3 j (tOf ns)
    have e2 : 3 ^ j ≤ 3 ^ 4 := Nat.pow_le_pow_right (by decide) (by omega)
    have e3 : 3 ^ j * (tOf ns).length ≤ 81 * 8 := Nat.mul_le_mul e2 ht
    omega
  have hin : (inn (tOf ns)).length ≤ 8 := by
    unfold inn; rw [List.length_map]; exact Nat.le_trans (List.length_filter_le _ _) ht
  have hvo : (varsOf (iter (mkS (bsOf ns)) ((mkS (bsOf ns)).length + 1) (tOf ns))).length ≤ 8 := by
    have := (vo_fold (iter (mkS (bsOf ns)) ((mkS (bsOf ns)).length + 1) (tOf ns)) []).1
    have h4 := inn_iter _ h1 ((mkS (bsOf ns)).length + 1) (tOf ns)
    simp only [List.length_nil, Nat.zero_add] at this
    exact Nat.le_trans this (Nat.le_trans h4 hin)
  have hcell := fun i hi => run_cell (tabF defs26 100 60 4) 100 ns i hn hi
  refine run_law _ _ _ _ _ _ _ _ _ (tab_at f8) (tab_at f9) (tab_at f10) (tab_at f11) (tab_at f12) (tab_at f5) (tab_at f7) ns (fun i hi => run_cell _ _ ns i hn hi) (fun c => run_leaf _ _ c) (fun c => run_maker _ _ c) (run_bad _ _)
    (fun i m => run_binding _ _ _ _ _ (tab_at f8) (tab_at f9) (tab_at f10) ns i m (fun i hi => run_cell _ _ ns i hn hi) (fun c => run_leaf _ _ c) (fun c => run_maker _ _ c))
    (fun v => run_rings _ _ v _ (by have := bs_len ns; omega) (fun b hb' => by have := (hb b hb').2.2.2; omega)) ?_ (plain ns) (fun b hb' => by have := (hb b hb').2.2.2; omega) (by have := bs_len ns; omega)
  refine run_spl _ _ _ _ _ (tab_at f4) (tab_at f1) (tab_at f2) (tOf ns) (bsOf ns) (by have := bs_len ns; omega) ?_ (run_type_ok _ _ _ (by
    have e := iter_len _ h3 ((mkS (bsOf ns)).length + 1) (tOf ns)
    have e2 : 3 ^ ((mkS (bsOf ns)).length + 1) ≤ 3 ^ 4 := Nat.pow_le_pow_right (by decide) (by omega)
    have e3 : 3 ^ ((mkS (bsOf ns)).length + 1) * (tOf ns).length ≤ 81 * 8 := Nat.mul_le_mul e2 ht
    omega)) (run_vars_of _ _ _ (hit _ (Nat.le_refl _)) (by omega)) (by rw [(sortI_perm _).length_eq]; omega)
  exact run_apply _ _ _ (tab_at f3) (tOf ns) _ (by omega) hit (fun t ht' => run_apply_once _ _ t _ ht' h3)
theorem recs_eq {view : Program} {loose : List Str} {mean : ExcName → Option Value} {mg mb : Str → Option Value} {h : Heap} (_ : Top view loose mean mg mb h) {rs : List DefRec} (e : recsOf view = rs) : recsOf view = rs := e
theorem arg0 {l : List Value} (h : l.length = 0) : l = [] := List.length_eq_zero_iff.mp h
theorem arg1 {l : List Value} (h : l.length = 1) : ∃ a, l = [a] := List.length_eq_one_iff.mp h
theorem arg2 {l : List Value} (h : l.length = 2) : ∃ a b, l = [a, b] := by
  match l, h with
  | [a, b], _ => exact ⟨a, b, rfl⟩
theorem arg3 {l : List Value} (h : l.length = 3) : ∃ a b c, l = [a, b, c] := by
  match l, h with
  | [a, b, c], _ => exact ⟨a, b, c, rfl⟩
theorem defs_ok [TB] : ∀ r ∈ recs26, DefOk (defOf (fl1 r) r) := by
  intro r hr
  simp only [recs26, List.map_cons, List.map_nil, List.mem_cons, List.not_mem_nil, or_false] at hr
  rcases hr with rfl | rfl | rfl | rfl | rfl | rfl | rfl | rfl | rfl | rfl | rfl | rfl
  all_goals refine defOk_of _ _ (by kernel_rfl) ⟨rfl, rfl, rfl⟩ ?_ (by decide +kernel) (by decide +kernel) (by decide +kernel)
  all_goals intro pm cd doc args h
  all_goals first
    | (obtain rfl := arg0 h; rfl)
    | (obtain ⟨a, rfl⟩ := arg1 h; rfl)
    | (obtain ⟨a, b, rfl⟩ := arg2 h; rfl)
    | (obtain ⟨a, b, c, rfl⟩ := arg3 h; rfl)
theorem all_only : ∀ r ∈ recs26, r.scope.names.lookup (Str.ofString "all") = some .globalImplicit → r = recAt pw 5 := by
  intro r hr
  simp only [recs26, List.map_cons, List.map_nil, List.mem_cons, List.not_mem_nil, or_false] at hr
  rcases hr with rfl | rfl | rfl | rfl | rfl | rfl | rfl | rfl | rfl | rfl | rfl | rfl
  all_goals first
    | (intro _; rfl)
    | (intro h; exact absurd h (by decide +kernel))
set_option Elab.async false in
set_option maxHeartbeats 8000000 in
theorem all26 : PySem.Challenge.rw_k13_0026.Holds := by
  w_on; o_law; o_head Hook.none; (case hw => w_witness2)
  intro w s₀ s₁ mg mb G Y fa o pm cd doc dV kV ho hd' hcd hD hmg hg args vals as hpre hlay hrd hwl hlo
  refine Ground.open G ?_
  intro T B D TE TW
  have recs_ok : recsOf _ = recs26 := recs_eq T (by kernel_rfl)
  have hmg' : mg (Str.ofString "law") = some (.ref fa) := hmg
  clear hd' hcd hD hmg
  wrow_args hpre hlay hrd hwl hlo
  rename_i ns _ _ _ _ _ _ _ l vs _ hl _ _ _ hi _ hlen _
  obtain ⟨a5, o5, fd5, c5, P5, q1, q2, q3, q4, q5, q6⟩ := T.tab (recAt pw 5) (by rw [recs_ok]; simp [recs26])
  letI : TB := ⟨P5⟩
  refine law_call T recs_ok (by decide +kernel) (fun r hr hall => ?_) (c₀ := c5) q6 (fl := fl1) defs_ok (law := recAt pw 13) (by simp [recs26]) (by kernel_rfl) hmg' hl hi (k := 6) (wf := 100) (n := 60) (by decide) (pure26 ns (by omega)) fun v s' g q => law_end ?_ ?_ hg (c₀ := c5) q6 g q
  · rw [recs_ok] at hr
    have := all_only r hr hall
    subst this
    exact ⟨a5, o5, fd5, c5, q1, q2, q3, q4, q5, q6⟩
  · intro cls; rfl
  · exact postW_of rfl (w_eq_bool (w_res rfl) w_lit) rfl
end Mine
theorem PySem.Challenge.cw_k13_0026_holds : PySem.Challenge.rw_k13_0026.Holds := by
  exact Mine.all26
