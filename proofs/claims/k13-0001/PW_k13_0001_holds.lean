import PyProof.Rows.All
import Wide.All
import OpenK.AllK
import Wide.FinOn
import PySem.Challenge.RW_k13_0001
set_option autoImplicit false
namespace Mine
open PySem PySem.Spec PySem.Calls PyProof.Rows

/-! ## the pure evaluator -/
inductive Md where | val | own | brw
  deriving DecidableEq
structure Bd where
  m : Md
  d : PyData
abbrev Rho := List (Str × Bd)
abbrev Kd := Str → Option NameKind
abbrev Fns := Str → Option (List Bool × (List PyData → Option PyData))

def mapO {α β : Type} (f : α → Option β) : List α → Option (List β)
  | [] => some []
  | x :: r => (f x).bind fun y => (mapO f r).bind fun ys => some (y :: ys)
def mapF (f : Bool → Expr → Option PyData) : List Bool → List Expr → Option (List PyData)
  | [], [] => some []
  | b :: bs, e :: es => (f b e).bind fun y => (mapF f bs es).bind fun ys => some (y :: ys)
  | _, _ => none

def dep : Nat → PyData → Bool
  | _, .none => true
  | _, .bool _ => true
  | _, .int _ => true
  | _, .str _ => true
  | n + 1, .list xs => xs.all (dep n)
  | n + 1, .tuple xs => xs.all (dep n)
  | _, _ => false

def constD : Const → Option PyData
  | .none => some .none
  | .bool b => some (.bool b)
  | .int i => some (.int i)
  | .str s => if PyData.strOk s then some (.str s) else none
  | _ => none

def binD : Operator → PyData → PyData → Option PyData
  | .Add, .int a, .int b => some (.int (a + b))
  | .Sub, .int a, .int b => some (.int (a - b))
  | .FloorDiv, .int a, .int b => if 0 < b ∧ b < 1073741824 then some (.int (a.fdiv b)) else none
  | .Mod, .int a, .int b => if 0 < b ∧ b < 1073741824 then some (.int (a.fmod b)) else none
  | .Add, .list xs, .list ys => if xs.length + ys.length ≤ sizeLine then some (.list (xs ++ ys)) else none
  | _, _, _ => none

def unD : UnaryOp → PyData → Option PyData
  | .USub, .int a => some (.int (-a))
  | .Not, .bool b => some (.bool (!b))
  | _, _ => none

def isD : PyData → PyData → Option Bool
  | .bool a, .bool b => some (a == b)
  | .none, .none => some true
  | .bool _, .none => some false
  | .none, .bool _ => some false
  | .list _, .none => some false
  | .list _, .bool _ => some false
  | .tuple _, .none => some false
  | .tuple _, .bool _ => some false
  | _, _ => none

def keyIn (kvs : List (PyData × PyData)) (k : Int) : Option PyData :=
  match kvs with
  | [] => none
  | (.int j, d) :: r => if j = k then some d else keyIn r k
  | _ :: r => keyIn r k

def inD (a : PyData) : PyData → Option Bool
  | .list xs => if dep 8 a && xs.all (dep 8) then some (xs.any fun y => PyData.eqv y a) else none
  | .tuple xs => if dep 8 a && xs.all (dep 8) then some (xs.any fun y => PyData.eqv y a) else none
  | .dict kvs => match a with | .int k => some (keyIn kvs k).isSome | _ => none
  | _ => none

def cmpD (op : CmpOp) (a b : PyData) : Option Bool :=
  match op with
  | .Eq => if dep 8 a && dep 8 b then some (PyData.eqv a b) else none
  | .NotEq => if dep 8 a && dep 8 b then some (!PyData.eqv a b) else none
  | .Lt => match a, b with | .int i, .int j => some (decide (i < j)) | _, _ => none
  | .LtE => match a, b with | .int i, .int j => some (decide (i ≤ j)) | _, _ => none
  | .Gt => match a, b with | .int i, .int j => some (decide (i > j)) | _, _ => none
  | .GtE => match a, b with | .int i, .int j => some (decide (i ≥ j)) | _, _ => none
  | .Is => isD a b
  | .IsNot => (isD a b).map (!·)
  | .In => inD a b
  | .NotIn => (inD a b).map (!·)

def inFit (i : Int) : Bool := decide (-(2 ^ 63) ≤ i) && decide (i < 2 ^ 63)

def idxD : PyData → PyData → Option PyData
  | .list xs, .int i => if inFit i then (seqIndex? i xs.length).bind fun j => xs[j]? else none
  | .tuple xs, .int i => if inFit i then (seqIndex? i xs.length).bind fun j => xs[j]? else none
  | .dict kvs, .int k => keyIn kvs k
  | _, _ => none

def slD (xs : List PyData) (lo hi st : Option Int) : List PyData :=
  (sliceRange (sliceBounds lo hi st xs.length).1 (sliceBounds lo hi st xs.length).2.1 (sliceBounds lo hi st xs.length).2.2).filterMap fun j => xs[j]?

def asBool : PyData → Option Bool
  | .bool b => some b
  | _ => none
def asPart : PyData → Option (Option Int)
  | .int i => some (some i)
  | _ => none

inductive Bi where | len | abs | sum | sorted | list | isi
  deriving DecidableEq
def biOf (f : Str) : Option Bi :=
  [(Str.ofString "len", Bi.len), (Str.ofString "abs", Bi.abs), (Str.ofString "sum", Bi.sum), (Str.ofString "sorted", Bi.sorted), (Str.ofString "list", Bi.list), (Str.ofString "isinstance", Bi.isi)].lookup f
def intsOf : List PyData → Option (List Int)
  | [] => some []
  | .int i :: r => (intsOf r).bind fun l => some (i :: l)
  | _ => none
def isBoolD : PyData → Bool
  | .bool _ => true
  | _ => false

def biD : Bi → List PyData → Option PyData
  | .len, [.list xs] => if xs.length ≤ sizeLine then some (.int xs.length) else none
  | .len, [.tuple xs] => if xs.length ≤ sizeLine then some (.int xs.length) else none
  | .abs, [.int i] => some (.int (if i < 0 then -i else i))
  | .sum, [.list xs] => (intsOf xs).bind fun l => some (.int l.sum)
  | _, _ => none

def boolGo (f : Expr → Option PyData) (op : BoolOp) : List Expr → Option PyData
  | [] => none
  | [x] => f x
  | x :: rest => (f x).bind fun d => match d with
    | .bool b => match op, b with
      | .And, false => some (.bool b)
      | .Or, true => some (.bool b)
      | _, _ => boolGo f op rest
    | _ => none
def allGo (f : Expr → Option Bool) (op : BoolOp) : List Expr → Option Bool
  | [] => some (op == .And)
  | x :: rest => (f x).bind fun b => match op, b with
    | .And, false => some false
    | .Or, true => some true
    | _, _ => allGo f op rest

def compGo (f : PyData → Option (Option PyData)) : List PyData → Option (List PyData)
  | [] => some []
  | d :: r => (f d).bind fun o => (compGo f r).bind fun ys => some (match o with | some y => y :: ys | none => ys)

def testsB (f : Rho → Expr → Option Bool) (ifs : List Expr) (ρ : Rho) : Option Bool := allGo (f ρ) .And ifs
def elB (f : Rho → Bool → Expr → Option PyData) (elt : Expr) (ρ : Rho) : Option PyData := f ρ false elt
def testB (f : Rho → Expr → Option Bool) (t : Expr) (ρ : Rho) : Option Bool := f ρ t

def nameD (ρ : Rho) (rd : Bool) (x : Str) : Option PyData :=
  (ρ.lookup x).bind fun b => if (rd || b.m == .val) && !(x == Str.ofString "__debug__") then some b.d else none

def isGlob (K : Kd) (f : Str) (x : Str) : Bool := x == f && K x == some .globalImplicit
def typeArg? (K : Kd) : Expr → Option Expr
  | .Call (.Name f _) [e] [] _ => if isGlob K (Str.ofString "type") f then some e else none
  | _ => none
def isBoolName (K : Kd) : Expr → Bool
  | .Name x _ => isGlob K (Str.ofString "bool") x
  | _ => false
def rangeArgs? (K : Kd) : Expr → Option (List Expr)
  | .Call (.Name f _) args [] _ => if isGlob K (Str.ofString "range") f then some args else none
  | _ => none

def rangeL (a b : Int) : List PyData := (List.range (b - a).toNat).map fun (i : Nat) => PyData.int (a + i)
def smallI (i : Int) : Bool := decide (-(2 ^ 23) ≤ i) && decide (i ≤ 2 ^ 23)
def rangeD : List PyData → Option (List PyData)
  | [.int b] => if smallI b then some (rangeL 0 b) else none
  | [.int a, .int b] => if smallI a && smallI b then some (rangeL a b) else none
  | _ => none
def itemsD : PyData → Option (List PyData)
  | .list xs => if xs.length ≤ sizeLine then some xs else none
  | _ => none

def relN (names : List (Str × NameKind)) (K : Kd) : List (Str × NameKind) :=
  names.map fun (n, k) => if (k == .free && K n == some .cell) then (n, .cell) else (n, k)
def capt (sc : Scope) (ρ : Rho) : Rho := ρ.filter fun p => sc.names.lookup p.1 == some .free
def compSc (sc : Scope) (K : Kd) : Bool :=
  sc.kind == .function && sc.names.all (fun p => p.2 != .cell && sc.names.lookup p.1 == some p.2)
    && sc.names.all (fun p => p.2 != .free || ((K p.1 == some .cell || K p.1 == some .free) && !(p.1 == Str.ofString "__classdict__")))

def setR : Rho → Str → Bd → Rho
  | [], x, b => [(x, b)]
  | (y, c) :: r, x, b => if x == y then (y, b) :: r else (y, c) :: setR r x b
def bindC (sc : Scope) : Expr → PyData → Rho → Option Rho
  | .Name x _, d, ρ => if sc.names.lookup x == some .local then some (setR ρ x ⟨.val, d⟩) else none
  | _, _, _ => none
def compB (sc : Scope) (tgt : Expr) (ρ : Rho) (test : Rho → Option Bool) (el : Rho → Option PyData) (d : PyData) : Option (Option PyData) :=
  (bindC sc tgt d ρ).bind fun ρ' => (test ρ').bind fun c => if c then (el ρ').map some else some none
def tgtC (sc : Scope) : Expr → Bool
  | .Name x _ => sc.names.lookup x == some .local
  | _ => false
def bindT (K : Kd) : Expr → PyData → Rho → Option Rho
  | .Name x _, d, ρ => if K x == some .local || K x == some .cell then some (setR ρ x ⟨.val, d⟩) else none
  | _, _, _ => none

def tgtT (K : Kd) : Expr → Bool
  | .Name x _ => K x == some .local || K x == some .cell
  | _ => false

mutual
def evalE (Φ : Fns) : Nat → Kd → Rho → Bool → Expr → Option PyData
  | 0, _, _, _, _ => none
  | n + 1, K, ρ, rd, e => match e with
    | .Constant c _ _ => constD c
    | .Name x _ => nameD ρ rd x
    | .Tuple es _ _ => (mapO (evalE Φ n K ρ false) es).bind fun ds => if ds.length ≤ sizeLine then some (.tuple ds) else none
    | .List es _ => (mapO (evalE Φ n K ρ false) es).bind fun ds => if ds.length ≤ sizeLine then some (.list ds) else none
    | .Dict ks vs _ => match ks, vs with | [], [] => some (.dict []) | _, _ => none
    | .BinOp l op r _ => (evalE Φ n K ρ true l).bind fun a => (evalE Φ n K ρ true r).bind fun b => binD op a b
    | .UnaryOp op x _ => (evalE Φ n K ρ true x).bind fun a => unD op a
    | .Compare l ops rs _ => match ops, rs with
      | [op], [r] => (cmpE Φ n K ρ l op r).map PyData.bool
      | _, _ => none
    | .BoolOp op vs _ => boolGo (evalE Φ n K ρ rd) op vs
    | .IfExp t b o _ => (testE Φ n K ρ t).bind fun c => if c then evalE Φ n K ρ rd b else evalE Φ n K ρ rd o
    | .Subscript v i _ => (evalE Φ n K ρ true v).bind fun a => match i with
      | .Slice lo hi st _ => match a with
        | .list xs => (partE Φ n K ρ lo).bind fun l => (partE Φ n K ρ hi).bind fun h => (partE Φ n K ρ st).bind fun s =>
            if s ≠ some 0 ∧ xs.length ≤ sizeLine then some (.list (slD xs l h s)) else none
        | _ => none
      | i => (evalE Φ n K ρ true i).bind fun k => idxD a k
    | .Call f args kws _ => match f, kws with
      | .Name g _, [] => if K g == some .globalImplicit && !(g == Str.ofString "__debug__") then
          match biOf g with
          | some .isi => match args with
            | [e, t] => if isBoolName K t then (evalE Φ n K ρ true e).bind fun d => if isBoolD d then some (.bool true) else none else none
            | _ => none
          | some b => (mapO (evalE Φ n K ρ true) args).bind fun ds => biD b ds
          | none => match Φ g with
            | some (fl, F) => (mapF (evalE Φ n K ρ) fl args).bind fun ds => F ds
            | none => none
        else none
      | _, _ => none
    | .ListComp elt gens sc _ => match gens with
      | [⟨tgt, iter, ifs, asy⟩] => if asy == 0 && compSc sc K && tgtC sc tgt then
          (itemsE Φ n K ρ true iter).bind fun items => (compGo (compB sc tgt (capt sc ρ) (testsB (testE Φ n (fun x => (relN sc.names K).lookup x)) ifs) (elB (evalE Φ n (fun x => (relN sc.names K).lookup x)) elt)) items).map PyData.list
        else none
      | _ => none
    | _ => none
def partE (Φ : Fns) : Nat → Kd → Rho → Option Expr → Option (Option Int)
  | 0, _, _, _ => none
  | n + 1, K, ρ, e => match e with
    | none => some none
    | some e => (evalE Φ n K ρ true e).bind asPart
def cmpE (Φ : Fns) : Nat → Kd → Rho → Expr → CmpOp → Expr → Option Bool
  | 0, _, _, _, _, _ => none
  | n + 1, K, ρ, l, op, r => if behindInMarks op r then none else match typeArg? K l with
    | some e => if isBoolName K r then (evalE Φ n K ρ true e).bind fun d => if isBoolD d then match op with
          | .Is => some true
          | .IsNot => some false
          | _ => none
        else none
      else none
    | none => (evalE Φ n K ρ true l).bind fun a => (evalE Φ n K ρ true r).bind fun b => cmpD op a b
def itemsE (Φ : Fns) : Nat → Kd → Rho → Bool → Expr → Option (List PyData)
  | 0, _, _, _, _ => none
  | n + 1, K, ρ, rd, e => match rangeArgs? K e with
    | some args => (mapO (evalE Φ n K ρ true) args).bind rangeD
    | none => (evalE Φ n K ρ rd e).bind itemsD
def testE (Φ : Fns) : Nat → Kd → Rho → Expr → Option Bool
  | 0, _, _, _ => none
  | n + 1, K, ρ, e => match e with
    | .UnaryOp .Not x _ => (testE Φ n K ρ x).map (!·)
    | .BoolOp op vs _ => allGo (testE Φ n K ρ) op vs
    | .IfExp _ _ _ _ => none
    | .Compare l ops rs _ => match ops, rs with
      | [op], [r] => cmpE Φ n K ρ l op r
      | _, _ => none
    | e => (evalE Φ n K ρ true e).bind asBool
end

inductive Fl where | next | cont | brk | ret (d : PyData)

def thaw (ρ : Rho) : Rho := ρ.map fun p => (p.1, if p.2.m == .own then ⟨.val, p.2.d⟩ else p.2)
def isFresh : Expr → PyData → Md
  | .List _ _, .list _ => .own
  | .BinOp _ .Add _ _, .list _ => .own
  | .Dict _ _ _, .dict _ => .own
  | _, _ => .val

def ownN (x : Str) : Bool := [Str.ofString "built", Str.ofString "met", Str.ofString "out", Str.ofString "s", Str.ofString "work", Str.ofString "names", Str.ofString "held", Str.ofString "renaming", Str.ofString "same", Str.ofString "todo", Str.ofString "types"].contains x
def frM (x : Str) (v : Expr) (d : PyData) : Md := if ownN x then isFresh v d else .val
def seqGo (f : Rho → Stmt → Option (Fl × Rho)) : Rho → List Stmt → Option (Fl × Rho)
  | ρ, [] => some (.next, ρ)
  | ρ, st :: r => (f ρ st).bind fun p => match p.1 with
    | .next => seqGo f p.2 r
    | _ => some p
def runB (f : Rho → Stmt → Option (Fl × Rho)) (body : List Stmt) (ρ : Rho) : Option (Fl × Rho) := seqGo f ρ body
def forGo (f : Rho → PyData → Option (Fl × Rho)) : Rho → List PyData → Option (Fl × Rho)
  | ρ, [] => some (.next, ρ)
  | ρ, d :: r => (f ρ d).bind fun p => match p.1 with
    | .next => forGo f p.2 r
    | .cont => forGo f p.2 r
    | .brk => some (.next, p.2)
    | .ret d => some (.ret d, p.2)
def whileGo (t : Rho → Option Bool) (f : Rho → Option (Fl × Rho)) : Nat → Rho → Option (Fl × Rho)
  | 0, _ => none
  | k + 1, ρ => (t ρ).bind fun c => if c then (f ρ).bind fun p => match p.1 with
    | .next => whileGo t f k p.2
    | .cont => whileGo t f k p.2
    | .brk => some (.next, p.2)
    | .ret d => some (.ret d, p.2) else some (.next, ρ)

def execS (Φ : Fns) (wf : Nat) : Nat → Kd → Rho → Stmt → Option (Fl × Rho)
  | 0, _, _, _ => none
  | n + 1, K, ρ, st => match st with
    | .Pass _ => some (.next, ρ)
    | .Continue _ => some (.cont, ρ)
    | .Return v _ => match v with
      | some e => (evalE Φ n K (thaw ρ) false e).map fun d => (.ret d, ρ)
      | none => none
    | .If t b o _ => (testE Φ n K ρ t).bind fun c => if c then seqGo (execS Φ wf n K) ρ b else seqGo (execS Φ wf n K) ρ o
    | .Assign ts v _ => match ts with
      | [.Name x _] => if K x == some .local || K x == some .cell then
          (evalE Φ n K ρ false v).map fun d => (.next, setR ρ x ⟨frM x v d, d⟩)
        else none
      | _ => none
    | .Expr v _ => match v with
      | .Call f args kws cpos => match f, args, kws with
        | .Attribute o attr apos, [e], [] => match o with
          | .Name x _ => if attr == Str.ofString "append" && apos.endLine == cpos.line && !(x == Str.ofString "__debug__") then
              match ρ.lookup x with
              | some ⟨.own, .list xs⟩ => (evalE Φ n K ρ false e).bind fun d => if xs.length < sizeLine then some (.next, setR ρ x ⟨.own, .list (xs ++ [d])⟩) else none
              | _ => none
            else none
          | _ => none
        | _, _, _ => none
      | _ => none
    | .For tgt iter body orelse _ => match orelse with
      | [] => if tgtT K tgt then (itemsE Φ n K ρ false iter).bind fun items => forGo (fun ρ d => (bindT K tgt d ρ).bind (runB (execS Φ wf n K) body)) ρ items else none
      | _ => none
    | .While t body orelse _ => match orelse with
      | [] => whileGo (testB (testE Φ n K) t) (runB (execS Φ wf n K) body) wf ρ
      | _ => none
    | _ => none

end Mine
set_option autoImplicit false
namespace Mine
open PySem PySem.Spec PySem.Calls PyProof.Rows

def Ext (h h' : Heap) : Prop := ∀ b o, h.get? b = some o → h'.get? b = some o
theorem Ext.refl (h : Heap) : Ext h h := fun _ _ e => e
theorem Ext.trans {a b c : Heap} (x : Ext a b) (y : Ext b c) : Ext a c := fun d o e => y d o (x d o e)
theorem Ext.push (h : Heap) (o : Obj) : Ext h (h.push o) := fun _ _ e => Heap.get?_push_of_some o e

structure Go (s s' : Shared) : Prop where
  ext : Ext s.heap s'.heap
  os : s'.os = s.os
  gens : AllBare s.gens → AllBare s'.gens
theorem Go.refl (s : Shared) : Go s s := ⟨.refl _, rfl, fun h => h⟩
theorem Go.trans {a b c : Shared} (x : Go a b) (y : Go b c) : Go a c := ⟨x.ext.trans y.ext, y.os.trans x.os, fun h => y.gens (x.gens h)⟩
theorem Go.of (s : Shared) {h' : Heap} {tk : Nat} (e : Ext s.heap h') : Go s { s with heap := h', toks := tk } := ⟨e, rfl, fun h => h⟩
theorem Go.toks (s : Shared) (tk : Nat) : Go s { s with toks := tk } := ⟨.refl _, rfl, fun h => h⟩
theorem Go.heap (s : Shared) {h' : Heap} (e : Ext s.heap h') : Go s { s with heap := h' } := ⟨e, rfl, fun h => h⟩

def DictI (h : Heap) (a : Addr) (kvs : List (Int × Value)) : Prop := (a == sysModules) = false ∧ ∀ prog w, h.DictOf (intKind prog w) a kvs

mutual
inductive Rd (h : Heap) (O : List Addr) : Value → PyData → Prop
  | none : Rd h O .none .none
  | bool (b : Bool) : Rd h O (.bool b) (.bool b)
  | int (i : Int) (t : Tok) : Rd h O (.int i t) (.int i)
  | str (x : Str) (t : Tok) : PyData.strOk x = true → Rd h O (.str x t) (.str x)
  | list {a : Addr} {vs : Array Value} {xs : List PyData} : a ∉ O → h.IsList a vs → RdAll h O vs.toList xs → Rd h O (.ref a) (.list xs)
  | tuple {a : Addr} {vs : Array Value} {xs : List PyData} : a ∉ O → IsTup h a vs → RdAll h O vs.toList xs → Rd h O (.ref a) (.tuple xs)
  | dict {a : Addr} {kvs : List (Int × Value)} {xs : List PyData} {D : List (PyData × PyData)} : a ∉ O → DictI h a kvs → RdAll h O (kvs.map (·.2)) xs → D = (kvs.map fun p => PyData.int p.1).zip xs → Rd h O (.ref a) (.dict D)
inductive RdAll (h : Heap) (O : List Addr) : List Value → List PyData → Prop
  | nil : RdAll h O [] []
  | cons {v : Value} {vs : List Value} {d : PyData} {ds : List PyData} : Rd h O v d → RdAll h O vs ds → RdAll h O (v :: vs) (d :: ds)
end

theorem DictI.there {h : Heap} {a : Addr} {kvs : List (Int × Value)} (hd : DictI h a kvs) : ∃ o, h.get? a = some o := by
  obtain ⟨o, _, _, ho, _⟩ := hd.2 default ⟨fun _ _ => 0, ⟨fun _ => 0, fun _ => 0, id, fun _ => 0, fun _ _ => 0, fun _ => false, fun _ => 0, .refcount, .text, fun _ => 0, fun _ => none, fun _ => false, fun _ _ _ => true, fun _ _ _ => true, true, fun _ => false, fun _ => none, fun _ => none, fun _ _ _ => 0, fun _ _ => none, fun _ => none, fun _ => (0, false, Str.ofString "UTC"), fun _ => none, fun d => d, fun _ => false⟩⟩
  exact ⟨o, ho⟩

mutual
theorem Rd.mono {h h' : Heap} {O O' : List Addr} (hk : ∀ a o, a ∉ O → h.get? a = some o → a ∉ O' ∧ h'.get? a = some o) : ∀ {v : Value} {d : PyData}, Rd h O v d → Rd h' O' v d
  | _, _, .none => .none
  | _, _, .bool b => .bool b
  | _, _, .int i t => .int i t
  | _, _, .str x t e => .str x t e
  | _, _, .list ha ⟨o, ho, r⟩ q => .list (hk _ o ha ho).1 ⟨o, (hk _ o ha ho).2, r⟩ (RdAll.mono hk q)
  | _, _, .tuple ha ⟨o, ho, r⟩ q => .tuple (hk _ o ha ho).1 ⟨o, (hk _ o ha ho).2, r⟩ (RdAll.mono hk q)
  | _, _, .dict (a := a) ha hd q e => by
    obtain ⟨o, ho⟩ := hd.there
    have h2 := hk a o ha ho
    refine .dict h2.1 ⟨hd.1, fun prog w => ?_⟩ (RdAll.mono hk q) e
    obtain ⟨o', es, ep, ho', r⟩ := hd.2 prog w
    exact ⟨o', es, ep, (hk a o' ha ho').2, r⟩
theorem RdAll.mono {h h' : Heap} {O O' : List Addr} (hk : ∀ a o, a ∉ O → h.get? a = some o → a ∉ O' ∧ h'.get? a = some o) : ∀ {vs : List Value} {ds : List PyData}, RdAll h O vs ds → RdAll h' O' vs ds
  | _, _, .nil => .nil
  | _, _, .cons x r => .cons (Rd.mono hk x) (RdAll.mono hk r)
end
theorem Rd.ext {h h' : Heap} {O : List Addr} {v : Value} {d : PyData} (e : Ext h h') (x : Rd h O v d) : Rd h' O v d := x.mono fun a o ha ho => ⟨ha, e a o ho⟩
theorem RdAll.ext {h h' : Heap} {O : List Addr} {vs : List Value} {ds : List PyData} (e : Ext h h') (x : RdAll h O vs ds) : RdAll h' O vs ds := x.mono fun a o ha ho => ⟨ha, e a o ho⟩

theorem RdAll.length {h : Heap} {O : List Addr} : ∀ {vs : List Value} {ds : List PyData}, RdAll h O vs ds → vs.length = ds.length
  | _, _, .nil => rfl
  | _, _, .cons _ r => by rw [List.length_cons, List.length_cons, r.length]
theorem RdAll.append {h : Heap} {O : List Addr} {ws : List Value} {es : List PyData} (k : RdAll h O ws es) : ∀ {vs : List Value} {ds : List PyData}, RdAll h O vs ds → RdAll h O (vs ++ ws) (ds ++ es)
  | _, _, .nil => k
  | _, _, .cons x r => .cons x (RdAll.append k r)
theorem RdAll.get {h : Heap} {O : List Addr} : ∀ {vs : List Value} {ds : List PyData}, RdAll h O vs ds → ∀ {j : Nat} {d : PyData}, ds[j]? = some d → ∃ v, vs[j]? = some v ∧ Rd h O v d
  | _, _, .nil, _, _, e => by simp at e
  | _, _, .cons x r, 0, _, e => by simp at e; subst e; exact ⟨_, rfl, x⟩
  | _, _, .cons x r, j + 1, _, e => by simp at e; simpa using r.get e
theorem RdAll.none {h : Heap} {O : List Addr} {vs : List Value} {ds : List PyData} (r : RdAll h O vs ds) {j : Nat} (e : ds[j]? = .none) : vs[j]? = .none := by
  rw [List.getElem?_eq_none_iff] at e ⊢; rw [r.length]; exact e
theorem RdAll.pick {h : Heap} {O : List Addr} {vs : List Value} {ds : List PyData} (r : RdAll h O vs ds) : ∀ idx : List Nat, RdAll h O (idx.filterMap fun j => vs[j]?) (idx.filterMap fun j => ds[j]?)
  | [] => .nil
  | j :: idx => by
    cases hd : ds[j]? with
    | none => rw [List.filterMap_cons, List.filterMap_cons, hd, r.none hd]; exact r.pick idx
    | some d =>
      obtain ⟨v, hv, x⟩ := r.get hd
      rw [List.filterMap_cons, List.filterMap_cons, hd, hv]
      exact .cons x (r.pick idx)

/-- read at the top: the top's own address may be a protected one -/
inductive RdT (h : Heap) (O : List Addr) : Value → PyData → Prop
  | of {v : Value} {d : PyData} : Rd h O v d → RdT h O v d
  | list {a : Addr} {vs : Array Value} {xs : List PyData} : h.IsList a vs → RdAll h O vs.toList xs → RdT h O (.ref a) (.list xs)
  | dict {a : Addr} {kvs : List (Int × Value)} {xs : List PyData} {D : List (PyData × PyData)} : DictI h a kvs → RdAll h O (kvs.map (·.2)) xs → D = (kvs.map fun p => PyData.int p.1).zip xs → RdT h O (.ref a) (.dict D)
def RdX (rd : Bool) (h : Heap) (O : List Addr) (v : Value) (d : PyData) : Prop := match rd with | true => RdT h O v d | false => Rd h O v d
section
variable {h h' : Heap} {O : List Addr} {v : Value} {d : PyData} {rd : Bool}
theorem DictI.ext {a : Addr} {kvs : List (Int × Value)} (e : Ext h h') (x : DictI h a kvs) : DictI h' a kvs := ⟨x.1, fun p w => let ⟨o, es, ep, ho, r⟩ := x.2 p w; ⟨o, es, ep, e _ _ ho, r⟩⟩
theorem RdT.ext (e : Ext h h') : RdT h O v d → RdT h' O v d
  | .of x => .of (x.ext e)
  | .list ⟨o, ho, r⟩ q => .list ⟨o, e _ _ ho, r⟩ (q.ext e)
  | .dict x q r => .dict (x.ext e) (q.ext e) r
theorem RdX.of (x : Rd h O v d) : RdX rd h O v d := by cases rd; exact x; exact .of x
theorem RdX.top (x : RdX rd h O v d) : RdT h O v d := by cases rd; exact .of x; exact x
theorem RdX.ext (e : Ext h h') (x : RdX rd h O v d) : RdX rd h' O v d := by cases rd; exact Rd.ext e x; exact RdT.ext e x
theorem RdT.list_inv {xs : List PyData} (x : RdT h O v (.list xs)) : ∃ a vs, v = .ref a ∧ h.IsList a vs ∧ RdAll h O vs.toList xs := by
  cases x with
  | of x => cases x with | list _ hl r => exact ⟨_, _, rfl, hl, r⟩
  | list hl r => exact ⟨_, _, rfl, hl, r⟩
theorem RdT.tuple_inv {xs : List PyData} (x : RdT h O v (.tuple xs)) : ∃ a vs, v = .ref a ∧ IsTup h a vs ∧ RdAll h O vs.toList xs := by
  cases x with
  | of x => cases x with | tuple _ hl r => exact ⟨_, _, rfl, hl, r⟩
theorem RdT.int_inv {i : Int} (x : RdT h O v (.int i)) : ∃ t, v = .int i t := by cases x with | of x => cases x; exact ⟨_, rfl⟩
theorem RdT.bool_inv {b : Bool} (x : RdT h O v (.bool b)) : v = .bool b := by cases x with | of x => cases x; rfl
theorem RdT.none_inv (x : RdT h O v .none) : v = .none := by cases x with | of x => cases x; rfl
theorem RdT.str_inv {y : Str} (x : RdT h O v (.str y)) : ∃ t, v = .str y t := by cases x with | of x => cases x; exact ⟨_, rfl⟩
end

mutual
theorem Rd.reads {h : Heap} {O : List Addr} : ∀ {v : Value} {d : PyData} (n : Nat), Rd h O v d → dep n d = true → ∃ as, Reads h v d as
  | _, _, _, .none, _ => ⟨_, .none⟩
  | _, _, _, .bool b, _ => ⟨_, .bool b⟩
  | _, _, _, .int i t, _ => ⟨_, .int i t⟩
  | _, _, _, .str x t _, _ => ⟨_, .str x t⟩
  | _, _, 0, .list _ _ _, hd => by simp [dep] at hd
  | _, _, 0, .tuple _ _ _, hd => by simp [dep] at hd
  | _, _, n, .dict _ _ _ _, hd => by cases n <;> simp [dep] at hd
  | _, _, n + 1, .list _ ⟨o, ho, hc, k, hk⟩ r, hd => by
    obtain ⟨as, q⟩ := RdAll.reads n r (by simpa [dep] using hd)
    exact ⟨_, .list ho hc hk q⟩
  | _, _, n + 1, .tuple _ ⟨o, ho, hc, k, hk⟩ r, hd => by
    obtain ⟨as, q⟩ := RdAll.reads n r (by simpa [dep] using hd)
    exact ⟨_, .tuple ho hc hk q⟩
theorem RdAll.reads {h : Heap} {O : List Addr} : ∀ {vs : List Value} {ds : List PyData} (n : Nat), RdAll h O vs ds → (∀ d ∈ ds, dep n d = true) → ∃ as, ReadsAll h vs ds as
  | _, _, _, .nil, _ => ⟨_, .nil⟩
  | _, _, n, .cons x r, hd => by
    obtain ⟨as, q⟩ := Rd.reads n x (hd _ (.head _))
    obtain ⟨bs, p⟩ := RdAll.reads n r fun d hm => hd d (.tail _ hm)
    exact ⟨_, .cons q p⟩
end
mutual
theorem Rd.lay {h : Heap} {O : List Addr} : ∀ {v : Value} {d : PyData} (n : Nat), Rd h O v d → dep n d = true → d.canLay0 = true ∧ d.depth ≤ n
  | _, _, n, .none, _ => by simp [PyData.canLay0, PyData.depth]
  | _, _, n, .bool b, _ => by simp [PyData.canLay0, PyData.depth]
  | _, _, n, .int i t, _ => by simp [PyData.canLay0, PyData.depth]
  | _, _, n, .str x t e, _ => by simp [PyData.canLay0, PyData.depth, e]
  | _, _, 0, .list _ _ _, hd => by simp [dep] at hd
  | _, _, 0, .tuple _ _ _, hd => by simp [dep] at hd
  | _, _, n, .dict _ _ _ _, hd => by cases n <;> simp [dep] at hd
  | _, _, n + 1, .list _ _ r, hd => by
    have q := RdAll.lay n r (by simpa [dep] using hd)
    simp only [PyData.canLay0, PyData.depth, q.1, true_and]; have := q.2; omega
  | _, _, n + 1, .tuple _ _ r, hd => by
    have q := RdAll.lay n r (by simpa [dep] using hd)
    simp only [PyData.canLay0, PyData.depth, q.1, true_and]; have := q.2; omega
theorem RdAll.lay {h : Heap} {O : List Addr} : ∀ {vs : List Value} {ds : List PyData} (n : Nat), RdAll h O vs ds → (∀ d ∈ ds, dep n d = true) → PyData.canLayAll0 ds = true ∧ PyData.depthAll ds ≤ n
  | _, _, _, .nil, _ => by simp [PyData.canLayAll0, PyData.depthAll]
  | _, _, n, .cons x r, hd => by
    have q := Rd.lay n x (hd _ (.head _))
    have p := RdAll.lay n r fun d hm => hd d (.tail _ hm)
    simp only [PyData.canLayAll0, PyData.depthAll, q.1, p.1, Bool.and_self, true_and]; have := q.2; have := p.2; omega
end
theorem RdT.reads {h : Heap} {O : List Addr} {v : Value} {d : PyData} {n : Nat} (x : RdT h O v d) (hd : dep n d = true) : ∃ as, Reads h v d as := by
  cases x with
  | of x => exact x.reads n hd
  | list hl r =>
    obtain ⟨o, ho, hc, k, hk⟩ := hl
    cases n with
    | zero => simp [dep] at hd
    | succ n =>
      obtain ⟨as, q⟩ := r.reads n (by simpa [dep] using hd)
      exact ⟨_, .list ho hc hk q⟩
  | dict => cases n <;> simp [dep] at hd
theorem RdT.lay {h : Heap} {O : List Addr} {v : Value} {d : PyData} {n : Nat} (x : RdT h O v d) (hd : dep n d = true) : d.canLay0 = true ∧ d.depth ≤ n := by
  cases x with
  | of x => exact x.lay n hd
  | list hl r =>
    cases n with
    | zero => simp [dep] at hd
    | succ n =>
      have q := r.lay n (by simpa [dep] using hd)
      simp only [PyData.canLay0, PyData.depth, q.1, true_and]; have := q.2; omega
  | dict => cases n <;> simp [dep] at hd
theorem RdT.shaped {h : Heap} {O : List Addr} {v : Value} {d : PyData} (x : RdT h O v d) (hd : dep 8 d = true) : SeqAt.shaped d = true := by
  have q := x.lay hd
  unfold SeqAt.shaped
  rw [q.1, Bool.true_and]; exact decide_eq_true (by have := q.2; omega)

end Mine
set_option autoImplicit false
namespace Mine
open PySem PySem.Spec PySem.Calls PyProof.Rows

def biTab : List (Str × Value) := [(Str.ofString "len", .builtin "len"), (Str.ofString "abs", .builtin "abs"), (Str.ofString "sum", .builtin "sum"), (Str.ofString "sorted", .builtin "sorted"), (Str.ofString "list", .type "list"), (Str.ofString "isinstance", .builtin "isinstance"),
  (Str.ofString "range", .type "range"), (Str.ofString "type", .type "type"), (Str.ofString "bool", .type "bool"), (Str.ofString "all", .builtin "all")]

structure Base (mg mb : Str → Option Value) (base : Heap) : Prop where
  g : base.Ns mainGlobals mg
  b : base.Ns builtinsNs mb
  nolimit : base.NoLimit
  bi : ∀ f v, biTab.lookup f = some v → mg f = none ∧ mb f = some v

structure At (A : Around) (k : Nat) : Prop where
  handled : A.handled = none
  depth : A.depth + k < recursionLimit
  units : A.units + 4 * k + 200 < cLine

structure EnvOk (env : Env) : Prop where
  kind : env.scope.kind = .function
  g : env.globals = mainGlobals
  b : env.builtins = builtinsNs
  cells : ∀ x, env.kindOf x = some .cell ∨ env.kindOf x = some .free → (env.cells.lookup x).isSome = true

def Var (h : Heap) (env : Env) (x : Str) (v : Value) : Prop :=
  (env.kindOf x = some .local ∧ ∃ m, h.Ns env.locals m ∧ m x = some v) ∨
  (env.kindOf x = some .cell ∧ ∃ c, env.cells.lookup x = some c ∧ h.IsCell c (some v)) ∨
  (env.kindOf x = some .free ∧ (x == Str.ofString "__classdict__") = false ∧ ∃ c, env.cells.lookup x = some c ∧ h.IsCell c (some v))
theorem Var.ext {h h' : Heap} {env : Env} {x : Str} {v : Value} (e : Ext h h') : Var h env x v → Var h' env x v
  | .inl ⟨a, m, b, c⟩ => .inl ⟨a, m, b.keeps e, c⟩
  | .inr (.inl ⟨a, c, b, d⟩) => .inr (.inl ⟨a, c, b, d.keeps e⟩)
  | .inr (.inr ⟨a, q, c, b, d⟩) => .inr (.inr ⟨a, q, c, b, d.keeps e⟩)

inductive OwnT (h : Heap) (O : List Addr) : Addr → PyData → Prop
  | list {a : Addr} {vs : Array Value} {xs : List PyData} : PlainL h a vs → RdAll h O vs.toList xs → OwnT h O a (.list xs)
  | dict {a : Addr} {kvs : List (Int × Value)} {xs : List PyData} {D : List (PyData × PyData)} : DictI h a kvs → RdAll h O (kvs.map (·.2)) xs → D = (kvs.map fun p => PyData.int p.1).zip xs → OwnT h O a (.dict D)
theorem OwnT.ext {h h' : Heap} {O : List Addr} {a : Addr} {d : PyData} (e : Ext h h') : OwnT h O a d → OwnT h' O a d
  | .list p r => .list (p.keeps e) (r.ext e)
  | .dict x q r => .dict (x.ext e) (q.ext e) r
theorem OwnT.top {h : Heap} {O : List Addr} {a : Addr} {d : PyData} : OwnT h O a d → RdT h O (.ref a) d
  | .list p r => .list p.isList r
  | .dict x q r => .dict x q r

def BOk (h : Heap) (OP O : List Addr) (b : Bd) (v : Value) : Prop :=
  match b.m with
  | .val => Rd h OP v b.d
  | .brw => RdT h OP v b.d
  | .own => ∃ a, v = .ref a ∧ a ∈ O ∧ OwnT h OP a b.d
theorem BOk.ext {h h' : Heap} {OP O : List Addr} {b : Bd} {v : Value} (e : Ext h h') (x : BOk h OP O b v) : BOk h' OP O b v := by
  obtain ⟨m, d⟩ := b
  cases m with
  | val => exact Rd.ext e x
  | brw => exact RdT.ext e x
  | own => obtain ⟨a, h1, h2, h3⟩ := x; exact ⟨a, h1, h2, h3.ext e⟩
theorem BOk.top {h : Heap} {OP O : List Addr} {b : Bd} {v : Value} (x : BOk h OP O b v) : RdT h OP v b.d := by
  obtain ⟨m, d⟩ := b
  cases m with
  | val => exact .of x
  | brw => exact x
  | own => obtain ⟨a, rfl, _, h3⟩ := x; exact h3.top

structure Cx (base : Heap) (k : Nat) (env : Env) (ρ : Rho) (OP O : List Addr) (A : Around) (s : Shared) : Prop where
  en : EnvOk env
  at_ : At A k
  base : Ext base s.heap
  ex : ∀ a ∈ OP, ∃ o, s.heap.get? a = some o
  vars : ∀ x b, ρ.lookup x = some b → ∃ v, Var s.heap env x v ∧ BOk s.heap OP O b v
theorem Cx.go {base : Heap} {k : Nat} {env : Env} {ρ : Rho} {OP O : List Addr} {A : Around} {s s' : Shared} (C : Cx base k env ρ OP O A s) (g : Go s s') : Cx base k env ρ OP O A s' where
  en := C.en
  at_ := C.at_
  base := C.base.trans g.ext
  ex := fun a ha => let ⟨o, ho⟩ := C.ex a ha; ⟨o, g.ext a o ho⟩
  vars := fun x b hx => let ⟨v, h1, h2⟩ := C.vars x b hx; ⟨v, h1.ext g.ext, h2.ext g.ext⟩

inductive RdXs (h : Heap) (O : List Addr) : List Bool → List Value → List PyData → Prop
  | nil : RdXs h O [] [] []
  | cons {b : Bool} {bs : List Bool} {v : Value} {vs : List Value} {d : PyData} {ds : List PyData} : RdX b h O v d → RdXs h O bs vs ds → RdXs h O (b :: bs) (v :: vs) (d :: ds)
theorem RdXs.ext {h h' : Heap} {O : List Addr} (e : Ext h h') : ∀ {bs : List Bool} {vs : List Value} {ds : List PyData}, RdXs h O bs vs ds → RdXs h' O bs vs ds
  | _, _, _, .nil => .nil
  | _, _, _, .cons x r => .cons (x.ext e) (r.ext e)

def FnsOk (prog : Program) (w : World) (mg : Str → Option Value) (base : Heap) (Φ : Fns) (k : Nat) : Prop :=
  ∀ f fl F, Φ f = some (fl, F) → ∃ a o fd, mg f = some (.ref a) ∧ base.get? a = some o ∧ o.data = .func fd ∧
    ∀ A s args ds r P (Q E : Value → Shared → Prop), At A k → Ext base s.heap → (∀ a ∈ P, ∃ o, s.heap.get? a = some o) → RdXs s.heap P fl args ds → F ds = some r →
      (∀ v s', Go s s' → Rd s'.heap P v r → Q v s') → wpAny (model prog w) A (call (.ref a) args) Q E s

section
variable {prog : Program} {w : World} {mg mb : Str → Option Value} {base : Heap} {Φ : Fns} {k : Nat}

/-! ### operations -/
section
variable {A : Around} {E : Value → Shared → Prop} {s : Shared} {OP : List Addr} {a b : Value} {da db d : PyData} {Q : Value → Shared → Prop} {rd : Bool}

theorem bin_sound {op : Operator} (hA : At A k) (ra : RdT s.heap OP a da) (rb : RdT s.heap OP b db) (ex : ∀ a ∈ OP, ∃ o, s.heap.get? a = some o) (h : binD op da db = some d) (hQ : ∀ v s', Go s s' → Rd s'.heap OP v d → Q v s') :
    wpAny (model prog w) A (binaryOp op a b) Q E s := by
  unfold binD at h
  split at h
  · cases h
    obtain ⟨t, rfl⟩ := ra.int_inv
    obtain ⟨u, rfl⟩ := rb.int_inv
    exact PyProof.Rows.add_int (hQ _ _ (Go.toks _ _) (.int _ _))
  · cases h
    obtain ⟨t, rfl⟩ := ra.int_inv
    obtain ⟨u, rfl⟩ := rb.int_inv
    exact PyProof.Rows.sub_int (hQ _ _ (Go.toks _ _) (.int _ _))
  · obtain ⟨t, rfl⟩ := ra.int_inv
    obtain ⟨u, rfl⟩ := rb.int_inv
    split at h
    · rename_i hb
      cases h
      exact PyProof.Rows.floordiv_int (by omega) (hQ _ _ (Go.toks _ _) (.int _ _)) (.inl (PyProof.noPylong_small (by omega)))
    · cases h
  · obtain ⟨t, rfl⟩ := ra.int_inv
    obtain ⟨u, rfl⟩ := rb.int_inv
    split at h
    · rename_i hb
      cases h
      exact PyProof.Rows.mod_int (by omega) (hQ _ _ (Go.toks _ _) (.int _ _))
    · cases h
  · rename_i xs ys
    obtain ⟨l, vs, rfl, hl, hvs⟩ := ra.list_inv
    obtain ⟨m, ws, rfl, hm, hws⟩ := rb.list_inv
    split at h
    · rename_i hsz
      cases h
      obtain ⟨⟨cls, dd, data, sl⟩, ho, hc, n, hd⟩ := id hl
      obtain ⟨⟨cls2, dd2, data2, sl2⟩, ho2, hc2, n2, hd2⟩ := id hm
      simp only at hc hd hc2 hd2
      subst hc hd hc2 hd2
      refine concat_meets ⟨_, ho, rfl⟩ ⟨_, ho2, rfl⟩ noFill_list_add seq_list_add PySem.F.slot_list_add PySem.F.entry_list_add (PySem.F.args_list_add_2 _ _) (list_addW l m vs ws n n2 dd dd2 sl sl2 (by
        have e1 := hvs.length; have e2 := hws.length
        simp only [Array.length_toList] at e1 e2
        omega)) ⟨ho, ho2, ?_⟩
      refine hQ _ _ (Go.heap _ (Ext.push _ _)) (.list (vs := vs ++ ws) ?_ ⟨_, Heap.get?_push_size _ rfl, rfl, _, rfl⟩ ?_)
      · intro hm; obtain ⟨o, ho⟩ := ex _ hm; exact Nat.lt_irrefl _ (Heap.lt_size ho)
      · rw [Array.toList_append]
        exact (hws.ext (Ext.push _ _)).append (hvs.ext (Ext.push _ _))
    · cases h
  · cases h

theorem un_sound {op : UnaryOp} (ra : RdT s.heap OP a da) (h : unD op da = some d) (hQ : ∀ v s', Go s s' → Rd s'.heap OP v d → Q v s') : wpAny (model prog w) A (unaryOp op a) Q E s := by
  unfold unD at h
  split at h
  · cases h
    obtain ⟨t, rfl⟩ := ra.int_inv
    exact neg_int (hQ _ _ (Go.toks _ _) (.int _ _))
  · cases h
    obtain rfl := ra.bool_inv
    exact not_value (wpAny_truthy_bool (hQ _ _ (Go.refl _) (.bool _)))
  · cases h

theorem Rd.is_ref {h : Heap} {O : List Addr} {v : Value} {xs : List PyData} (x : RdT h O v (.list xs)) : ∃ a, v = .ref a := let ⟨a, _, e, _⟩ := x.list_inv; ⟨a, e⟩

theorem is_sound {c : Bool} (ra : RdT s.heap OP a da) (rb : RdT s.heap OP b db) (h : isD da db = some c) : plainIs a b = true ∧ (a == b) = c := by
  unfold isD at h
  split at h
  · cases h; obtain rfl := ra.bool_inv; obtain rfl := rb.bool_inv
    rename_i x y
    cases x <;> cases y <;> decide
  · cases h; obtain rfl := ra.none_inv; obtain rfl := rb.none_inv; decide
  · cases h; obtain rfl := ra.bool_inv; obtain rfl := rb.none_inv; exact ⟨rfl, by rename_i x; cases x <;> decide⟩
  · cases h; obtain rfl := ra.none_inv; obtain rfl := rb.bool_inv; exact ⟨rfl, by rename_i x; cases x <;> decide⟩
  · cases h; obtain ⟨l, vs, rfl, _⟩ := ra.list_inv; obtain rfl := rb.none_inv; exact ⟨rfl, beq_eq_false_iff_ne.mpr (by intro e; cases e)⟩
  · cases h; obtain ⟨l, vs, rfl, _⟩ := ra.list_inv; obtain rfl := rb.bool_inv; exact ⟨rfl, beq_eq_false_iff_ne.mpr (by intro e; cases e)⟩
  · cases h; obtain ⟨l, vs, rfl, _⟩ := ra.tuple_inv; obtain rfl := rb.none_inv; exact ⟨rfl, beq_eq_false_iff_ne.mpr (by intro e; cases e)⟩
  · cases h; obtain ⟨l, vs, rfl, _⟩ := ra.tuple_inv; obtain rfl := rb.bool_inv; exact ⟨rfl, beq_eq_false_iff_ne.mpr (by intro e; cases e)⟩
  · cases h

theorem keyIn_zip (c : Int) : ∀ (kvs : List (Int × Value)) (xs : List PyData), (kvs.map (·.2)).length = xs.length → ∀ {h : Heap} {O : List Addr}, RdAll h O (kvs.map (·.2)) xs →
    (keyIn ((kvs.map fun p => PyData.int p.1).zip xs) c).isSome = (valueAt kvs c).isSome ∧ ∀ d, keyIn ((kvs.map fun p => PyData.int p.1).zip xs) c = some d → ∃ v, valueAt kvs c = some v ∧ Rd h O v d
  | [], [], _, _, _, _ => by simp [keyIn, valueAt]
  | [], _ :: _, e, _, _, _ => by simp at e
  | _ :: _, [], e, _, _, _ => by simp at e
  | (j, v) :: kvs, x :: xs, e, h, O, r => by
    have ih := keyIn_zip c kvs xs (by simpa using e) (by cases r with | cons _ r => exact r)
    have hx : Rd h O v x := by cases r with | cons q _ => exact q
    simp only [List.map_cons, List.zip_cons_cons, keyIn, valueAt, List.find?_cons]
    by_cases hj : j = c
    · simp only [hj, if_true, decide_true, Option.map_some, Option.isSome_some, Option.some.injEq, true_and]
      rintro d rfl; exact ⟨v, rfl, hx⟩
    · simp only [hj, if_false, decide_false]
      exact ih

theorem RdT.dict_inv {h : Heap} {O : List Addr} {v : Value} {D : List (PyData × PyData)} (x : RdT h O v (.dict D)) : ∃ a kvs xs, v = .ref a ∧ DictI h a kvs ∧ RdAll h O (kvs.map (·.2)) xs ∧ D = (kvs.map fun p => PyData.int p.1).zip xs := by
  cases x with
  | of x => cases x with | dict _ hd r e => exact ⟨_, _, _, rfl, hd, r, e⟩
  | dict hd r e => exact ⟨_, _, _, rfl, hd, r, e⟩

theorem in_sound {c : Bool} (hA : At A k) (ra : RdT s.heap OP a da) (rb : RdT s.heap OP b db) (h : inD da db = some c) :
    (∀ {Q : Value → Shared → Prop}, (∀ s', Go s s' → Q (.bool c) s') → wpAny (model prog w) A (compareOp .In a b) Q E s) ∧ (∀ {Q : Value → Shared → Prop}, (∀ s', Go s s' → Q (.bool (!c)) s') → wpAny (model prog w) A (compareOp .NotIn a b) Q E s) := by
  have hu := hA.units
  cases db with
  | list xs =>
    simp only [inD] at h
    split at h
    · rename_i hd
      cases h
      simp only [Bool.and_eq_true] at hd
      obtain ⟨as, qa⟩ := ra.reads hd.1
      obtain ⟨bs, qb⟩ := rb.reads (n := 9) (by simpa [dep] using hd.2)
      have la := ra.lay hd.1
      have lb := rb.lay (n := 9) (by simpa [dep] using hd.2)
      simp only [PyData.canLay0, PyData.depth] at lb
      have h1 := lb.2
      have h2 := Nat.min_le_left (PyData.depthAll xs) da.depth
      exact ⟨fun hQ => SeqAt.in_list_reads qb qa lb.1 la.1 (by omega) (hQ _ (Go.refl _)), fun hQ => SeqAt.notIn_list_reads qb qa lb.1 la.1 (by omega) (hQ _ (Go.refl _))⟩
    · cases h
  | tuple xs =>
    simp only [inD] at h
    split at h
    · rename_i hd
      cases h
      simp only [Bool.and_eq_true] at hd
      obtain ⟨as, qa⟩ := ra.reads hd.1
      obtain ⟨bs, qb⟩ := rb.reads (n := 9) (by simpa [dep] using hd.2)
      have la := ra.lay hd.1
      have lb := rb.lay (n := 9) (by simpa [dep] using hd.2)
      simp only [PyData.canLay0, PyData.depth] at lb
      have h1 := lb.2
      have h2 := Nat.min_le_left (PyData.depthAll xs) da.depth
      exact ⟨fun hQ => SeqAt.in_tuple_reads qb qa lb.1 la.1 (by omega) (hQ _ (Go.refl _)), fun hQ => SeqAt.notIn_tuple_reads qb qa lb.1 la.1 (by omega) (hQ _ (Go.refl _))⟩
    · cases h
  | dict D =>
    cases da with
    | int c' =>
      simp only [inD] at h
      cases h
      obtain ⟨t, rfl⟩ := ra.int_inv
      obtain ⟨l, kvs, xs, rfl, hd, r, rfl⟩ := rb.dict_inv
      have q := (keyIn_zip c' kvs xs (by simpa using r.length) r).1
      rw [q]
      exact ⟨fun hQ => wpAny_in_of (knd := intKind prog w) (intKind_is prog w c' t) hd.1 (hd.2 prog w).mapOf (hQ _ (Go.toks _ _)),
        fun hQ => wpAny_notIn_of (knd := intKind prog w) (intKind_is prog w c' t) hd.1 (hd.2 prog w).mapOf (hQ _ (Go.toks _ _))⟩
    | _ => simp [inD] at h
  | _ => simp [inD] at h

theorem cmp_sound {op : CmpOp} {c : Bool} (hA : At A k) (ra : RdT s.heap OP a da) (rb : RdT s.heap OP b db) (h : cmpD op da db = some c) (hQ : ∀ s', Go s s' → Q (.bool c) s') :
    wpAny (model prog w) A (compareOp op a b) Q E s := by
  have hu := hA.units
  unfold cmpD at h
  split at h
  · split at h
    · rename_i hd; cases h
      simp only [Bool.and_eq_true] at hd
      obtain ⟨as, qa⟩ := ra.reads hd.1
      obtain ⟨bs, qb⟩ := rb.reads hd.2
      exact SeqAt.compareEq_shaped qa qb (ra.shaped hd.1) (rb.shaped hd.2) (by omega) (hQ _ (Go.refl _))
    · cases h
  · split at h
    · rename_i hd; cases h
      simp only [Bool.and_eq_true] at hd
      obtain ⟨as, qa⟩ := ra.reads hd.1
      obtain ⟨bs, qb⟩ := rb.reads hd.2
      exact SeqAt.compareNe_shaped qa qb (ra.shaped hd.1) (rb.shaped hd.2) (by omega) (hQ _ (Go.refl _))
    · cases h
  · split at h
    · cases h; obtain ⟨t, rfl⟩ := ra.int_inv; obtain ⟨u, rfl⟩ := rb.int_inv
      exact lt_int (hQ _ (Go.refl _))
    · cases h
  · split at h
    · cases h; obtain ⟨t, rfl⟩ := ra.int_inv; obtain ⟨u, rfl⟩ := rb.int_inv
      exact le_int (hQ _ (Go.refl _))
    · cases h
  · split at h
    · cases h; obtain ⟨t, rfl⟩ := ra.int_inv; obtain ⟨u, rfl⟩ := rb.int_inv
      exact gt_int (hQ _ (Go.refl _))
    · cases h
  · split at h
    · cases h; obtain ⟨t, rfl⟩ := ra.int_inv; obtain ⟨u, rfl⟩ := rb.int_inv
      exact ge_int (hQ _ (Go.refl _))
    · cases h
  · obtain ⟨hp, e⟩ := is_sound ra rb h
    exact wpAny_is_plain hp (by rw [e]; exact hQ _ (Go.refl _))
  · cases hi : isD da db with
    | none => rw [hi] at h; cases h
    | some c' =>
      rw [hi] at h; cases h
      obtain ⟨hp, e⟩ := is_sound ra rb hi
      exact wpAny_isNot_plain hp (by rw [e]; exact hQ _ (Go.refl _))
  · exact (in_sound hA ra rb h).1 hQ
  · cases hi : inD da db with
    | none => rw [hi] at h; cases h
    | some c' =>
      rw [hi] at h; cases h
      exact (in_sound hA ra rb hi).2 hQ

theorem seqIndex_neg {i : Int} {n j : Nat} (h : seqIndex? i n = some j) (hi : i < 0) : -(n : Int) ≤ i ∧ j = (i + n).toNat := by
  unfold seqIndex? at h
  simp only [hi, if_true] at h
  split at h
  · rename_i hc; cases h; simp only [Bool.and_eq_true, decide_eq_true_eq] at hc; exact ⟨by omega, rfl⟩
  · cases h
theorem seqIndex_pos {i : Int} {n j : Nat} (h : seqIndex? i n = some j) (hi : ¬ i < 0) : j = i.toNat := by
  unfold seqIndex? at h
  simp only [hi, if_false] at h
  split at h
  · cases h; rfl
  · cases h

theorem idx_sound {value slice : Expr} (ra : RdT s.heap OP a da) (rb : RdT s.heap OP b db) (h : idxD da db = some d) (hs : ∀ o i, subscripted slice false o i = operate [o, i] (getItem o i)) (hQ : ∀ v s', Go s s' → Rd s'.heap OP v d → Q v s') :
    wpAny (model prog w) A (subscriptTail value slice a b) Q E s := by
  unfold idxD at h
  split at h
  · rename_i xs i
    obtain ⟨l, vs, rfl, hl, hvs⟩ := ra.list_inv
    obtain ⟨t, rfl⟩ := rb.int_inv
    split at h
    · rename_i hf
      simp only [inFit, Bool.and_eq_true, decide_eq_true_eq] at hf
      cases hj : seqIndex? i xs.length with
      | none => rw [hj] at h; cases h
      | some j =>
        rw [hj] at h
        obtain ⟨v, hv, hr⟩ := hvs.get h
        have hlen : vs.size = xs.length := by have := hvs.length; simpa using this
        by_cases hi : i < 0
        · obtain ⟨h1, rfl⟩ := seqIndex_neg hj hi
          exact tail_any hl.typeIs slot_list_getitem.lookup (wpAny_getItem_list_neg hl hi (by rw [hlen]; exact h1) hf.1 (by rw [hlen]; simpa using hv) (hQ _ _ (Go.refl _) hr)) (hs _ _)
        · obtain rfl := seqIndex_pos hj hi
          exact tail_any hl.typeIs slot_list_getitem.lookup (wpAny_getItem_list hl (by omega) hf.2 (by simpa using hv) (hQ _ _ (Go.refl _) hr)) (hs _ _)
    · cases h
  · rename_i xs i
    obtain ⟨l, vs, rfl, hl, hvs⟩ := ra.tuple_inv
    obtain ⟨t, rfl⟩ := rb.int_inv
    split at h
    · rename_i hf
      simp only [inFit, Bool.and_eq_true, decide_eq_true_eq] at hf
      cases hj : seqIndex? i xs.length with
      | none => rw [hj] at h; cases h
      | some j =>
        rw [hj] at h
        obtain ⟨v, hv, hr⟩ := hvs.get h
        have hlen : vs.size = xs.length := by have := hvs.length; simpa using this
        exact tail_any hl.typeIs slot_tuple_getitem.lookup (PyProof.Rows.getItem_tuple hl hf.1 hf.2 (by rw [hlen]; exact hj) (by simpa using hv) (hQ _ _ (Go.refl _) hr)) (hs _ _)
    · cases h
  · rename_i D c
    obtain ⟨t, rfl⟩ := rb.int_inv
    obtain ⟨l, kvs, xs, rfl, hd, r, rfl⟩ := ra.dict_inv
    obtain ⟨v, hv, hr⟩ := (keyIn_zip c kvs xs (by simpa using r.length) r).2 d h
    have hm := (hd.2 prog w).mapOf
    exact tail_any hm.typeIs slot_dict_getitem.lookup (wpAny_getItem_of (intKind_is prog w c t) hm hv (hQ _ _ (Go.toks _ _) hr)) (hs _ _)
  · cases h

theorem ints_of {h : Heap} {OP : List Addr} : ∀ {vs : List Value} {xs : List PyData} {l : List Int}, RdAll h OP vs xs → intsOf xs = some l → IntsAre vs l
  | _, _, _, .nil, e => by simp only [intsOf, Option.some.injEq] at e; subst e; exact .nil
  | _, _, l, .cons (d := d) a r, e => by
    cases d <;> simp only [intsOf, Option.bind_eq_some_iff, reduceCtorEq] at e
    obtain ⟨l', h', e⟩ := e
    cases e
    cases a
    exact .cons _ _ (ints_of r h')
theorem bi_sound {f : Bi} {vs : List Value} {ds : List PyData} (hA : At A k) (hn : f ≠ .isi) (r : RdXs s.heap OP (List.replicate ds.length true) vs ds) (h : biD f ds = some d) (hQ : ∀ v s', Go s s' → Rd s'.heap OP v d → Q v s') :
    ∃ fv x, biTab.lookup x = some fv ∧ (∀ y, biOf y = some f → y = x) ∧ wpAny (model prog w) A (call fv vs) Q E s := by
  unfold biD at h
  split at h
  · split at h
    · rename_i xs hsz
      cases h
      cases r with
      | cons x r =>
        cases r
        obtain ⟨l, ws, rfl, hl, hws⟩ := RdT.list_inv x
        have hlen : ws.size = xs.length := by have := hws.length; simpa using this
        refine ⟨.builtin "len", Str.ofString "len", by decide +kernel, fun y hy => ?_, len_list hl (by rw [hlen]; have : sizeLine = 2 ^ 24 := rfl; omega) ?_⟩
        · unfold biOf at hy
          simp only [List.lookup_cons, List.lookup_nil] at hy
          repeat' split at hy
          all_goals (first | exact eq_of_beq (by assumption) | cases hy)
        · rw [hlen]; exact hQ _ _ (Go.toks _ _) (.int _ _)
    · cases h
  · split at h
    · rename_i xs hsz
      cases h
      cases r with
      | cons x r =>
        cases r
        obtain ⟨l, ws, rfl, hl, hws⟩ := RdT.tuple_inv x
        have hlen : ws.size = xs.length := by have := hws.length; simpa using this
        refine ⟨.builtin "len", Str.ofString "len", by decide +kernel, fun y hy => ?_, PyProof.Rows.len_tuple hl (by rw [hlen]; have : sizeLine = 2 ^ 24 := rfl; omega) ?_⟩
        · unfold biOf at hy
          simp only [List.lookup_cons, List.lookup_nil] at hy
          repeat' split at hy
          all_goals (first | exact eq_of_beq (by assumption) | cases hy)
        · rw [hlen]; exact hQ _ _ (Go.toks _ _) (.int _ _)
    · cases h
  · cases h
    cases r with
    | cons x r =>
      cases r
      obtain ⟨t, rfl⟩ := RdT.int_inv x
      refine ⟨.builtin "abs", Str.ofString "abs", by decide +kernel, fun y hy => ?_, call_abs_int fun u tk => hQ _ _ (Go.toks _ _) (.int _ _)⟩
      unfold biOf at hy
      simp only [List.lookup_cons, List.lookup_nil] at hy
      repeat' split at hy
      all_goals (first | exact eq_of_beq (by assumption) | cases hy)
  · simp only [Option.bind_eq_some_iff] at h
    obtain ⟨l', hl', h⟩ := h
    cases h
    cases r with
    | cons x r =>
      cases r
      obtain ⟨l, ws, rfl, hl, hws⟩ := RdT.list_inv x
      have hi := ints_of hws hl'
      obtain ⟨xs, hx⟩ := hi.allInts.items
      have hl2 : s.heap.IsList l (intItems xs) := by rw [← hx]; simpa using hl
      have e1 : l' = xs.toList.map (·.1) := by
        rw [← nums_intItems, ← hx]
        exact (show numsOf ws.toList.toArray.toList = l' from hi.numsOf).symm
      have e2 : preSum (numAt xs) xs.size = l'.sum := by rw [preSum_eq, List.take_of_length_le (by simp), e1]
      refine ⟨.builtin "sum", Str.ofString "sum", by decide +kernel, fun y hy => ?_, sum_intListG hA.handled hl2 fun h' tk t' hk => ?_⟩
      · unfold biOf at hy
        simp only [List.lookup_cons, List.lookup_nil] at hy
        repeat' split at hy
        all_goals (first | exact eq_of_beq (by assumption) | cases hy)
      · rw [e2]; exact hQ _ _ (Go.of _ hk) (.int _ _)
  · cases h
end
end
end Mine
set_option autoImplicit false
namespace Mine
open PySem PySem.Spec PySem.Calls PyProof.Rows

section
variable (prog : Program) (w : World) (base : Heap) (Φ : Fns) (k : Nat)

def ES (n : Nat) : Prop := ∀ (env : Env) (ρ : Rho) (rd : Bool) (e : Expr) (d : PyData), evalE Φ n env.kindOf ρ rd e = some d →
  ∀ (OP O : List Addr) (A : Around) (s : Shared) (Q E : Value → Shared → Prop), Cx base k env ρ OP O A s → (∀ v s', Go s s' → RdX rd s'.heap OP v d → Q v s') → wpAny (model prog w) A (eval e env) Q E s
def TS (n : Nat) : Prop := ∀ (env : Env) (ρ : Rho) (e : Expr) (c : Bool), testE Φ n env.kindOf ρ e = some c →
  ∀ (OP O : List Addr) (A : Around) (s : Shared) (Q : Bool → Shared → Prop) (E : Value → Shared → Prop), Cx base k env ρ OP O A s → (∀ s', Go s s' → Q c s') → wpAny (model prog w) A (isTrue e env (eval e env)) Q E s
def CS (n : Nat) : Prop := ∀ (env : Env) (ρ : Rho) (l : Expr) (op : CmpOp) (r : Expr) (c : Bool), cmpE Φ n env.kindOf ρ l op r = some c → behindInMarks op r = false ∧
  ∀ (OP O : List Addr) (A : Around) (s : Shared) (Q E : Value → Shared → Prop), Cx base k env ρ OP O A s → (∀ s', Go s s' → Q (.bool c) s') →
    wpAny (model prog w) A (eval l env) (fun a s₁ => wpAny (model prog w) A (eval r env) (fun b s₂ => wpAny (model prog w) A (compareOp op a b) Q E s₂) E s₁) E s
def PS (n : Nat) : Prop := ∀ (env : Env) (ρ : Rho) (e : Option Expr) (o : Option Int), partE Φ n env.kindOf ρ e = some o →
  ∀ (OP O : List Addr) (A : Around) (s : Shared) (Q E : Value → Shared → Prop), Cx base k env ρ OP O A s → (∀ v s', Go s s' → IsPart v o → Q v s') → wpAny (model prog w) A (evalPart e env) Q E s

structure IterOk (A : Around) (rd : Bool) (OP : List Addr) (s : Shared) (xs : List PyData) (I : Addr) (fp : List Addr) (P : Nat → Value → Prop) (St : Nat → Heap → Prop) (s₂ : Shared) : Prop where
  walks : Walks prog w A I fp [I] xs.length P St
  st : St 0 s₂.heap
  go : Go s s₂
  fresh : s.heap.get? I = none
  live : ∀ i h, St i h → ∃ o, h.get? I = some o
  foot : ∀ b ∈ fp, b ≠ I → ∃ o, s₂.heap.get? b = some o ∧ o.cls = .type "list" ∧ (rd = false → b ∉ OP)
  items : ∀ i v d, P i v → xs[i]? = some d → Rd s₂.heap (I :: OP) v d
  size : xs.length ≤ sizeLine
def IS (n : Nat) : Prop := ∀ (env : Env) (ρ : Rho) (rd : Bool) (e : Expr) (xs : List PyData), itemsE Φ n env.kindOf ρ rd e = some xs → (∀ x, foldedSetIterable e env x = pure x) ∧
  ∀ (OP O : List Addr) (A : Around) (s : Shared) (K E : Value → Shared → Prop), Cx base k env ρ OP O A s → (∀ I fp P St s₂, IterOk prog w A rd OP s xs I fp P St s₂ → K (.ref I) s₂) →
    wpAny (model prog w) A (eval e env) (fun x s₁ => wpAny (model prog w) A (pyIter x) K E s₁) E s
end

theorem not_star {Φ : Fns} {n : Nat} {K : Kd} {ρ : Rho} {rd : Bool} {e : Expr} {d : PyData} (h : evalE Φ n K ρ rd e = some d) (rest : List Expr) (env : Env) : starEach (e :: rest) env = (false, eval e env) :: starEach rest env := by
  cases n with
  | zero => simp [evalE] at h
  | succ n => cases e <;> first | rfl | (simp [evalE] at h)
theorem not_set {Φ : Fns} {n : Nat} {K : Kd} {ρ : Rho} {rd : Bool} {e : Expr} {d : PyData} (h : evalE Φ n K ρ rd e = some d) (env : Env) (x : Value) : foldedSetIterable e env x = pure x := by
  cases n with
  | zero => simp [evalE] at h
  | succ n => cases e <;> first | rfl | (simp [evalE] at h)

theorem mapO_mapF (f : Bool → Expr → Option PyData) (rd : Bool) : ∀ (es : List Expr) (ds : List PyData), mapO (f rd) es = some ds → mapF f (List.replicate ds.length rd) es = some ds
  | [], ds, h => by simp only [mapO, Option.some.injEq] at h; subst h; rfl
  | e :: es, ds, h => by
    simp only [mapO, Option.bind_eq_some_iff, Option.some.injEq] at h
    obtain ⟨y, hy, ys, hys, rfl⟩ := h
    simp only [List.length_cons, List.replicate_succ, mapF, hy, mapO_mapF f rd es ys hys, Option.bind_some]
theorem RdXs.all {h : Heap} {O : List Addr} : ∀ {n : Nat} {vs : List Value} {ds : List PyData}, RdXs h O (List.replicate n false) vs ds → RdAll h O vs ds
  | 0, _, _, .nil => .nil
  | _ + 1, _, _, .cons x r => .cons x r.all
theorem RdXs.length {h : Heap} {O : List Addr} : ∀ {bs : List Bool} {vs : List Value} {ds : List PyData}, RdXs h O bs vs ds → vs.length = ds.length
  | _, _, _, .nil => rfl
  | _, _, _, .cons _ r => by simp [r.length]

section
variable {prog : Program} {w : World} {mg mb : Str → Option Value} {base : Heap} {Φ : Fns} {k : Nat}

section
variable {A : Around} {E : Value → Shared → Prop} {OP O : List Addr} {env : Env} {ρ : Rho} {n : Nat} {pos : Pos}

theorem args_sound (ih : ES prog w base Φ k n) : ∀ (es : List Expr) (fl : List Bool) (ds : List PyData), mapF (evalE Φ n env.kindOf ρ) fl es = some ds → ∀ (s : Shared) (Q : List Value → Shared → Prop), Cx base k env ρ OP O A s →
    (∀ vs s', Go s s' → RdXs s'.heap OP fl vs ds → Q vs s') → wpAny (model prog w) A (spliced (backTo pos (starEach es env))) Q E s
  | [], [], ds, h, s, Q, C, hQ => by
    simp only [mapF, Option.some.injEq] at h; subst h
    exact args_nil (hQ _ _ (Go.refl _) .nil)
  | [], _ :: _, ds, h, _, _, _, _ => by simp [mapF] at h
  | _ :: _, [], ds, h, _, _, _, _ => by simp [mapF] at h
  | e :: es, b :: fl, ds, h, s, Q, C, hQ => by
    simp only [mapF, Option.bind_eq_some_iff, Option.some.injEq] at h
    obtain ⟨y, hy, ys, hys, rfl⟩ := h
    refine args_cons (ih env ρ b e y hy OP O A s _ E C fun v s₁ g₁ r₁ => ?_) (not_star hy _ _)
    refine args_sound ih es fl ys hys s₁ _ (C.go g₁) fun vs s₂ g₂ r₂ => ?_
    exact hQ _ _ (g₁.trans g₂) (.cons (r₁.ext g₂.ext) r₂)
theorem args_plain : ∀ (es : List Expr) (fl : List Bool) (ds : List PyData), mapF (evalE Φ n env.kindOf ρ) fl es = some ds → (backTo pos (starEach es env)).any (·.1) = false
  | [], [], ds, h => rfl
  | [], _ :: _, ds, h => by simp [mapF] at h
  | _ :: _, [], ds, h => by simp [mapF] at h
  | e :: es, b :: fl, ds, h => by
    simp only [mapF, Option.bind_eq_some_iff, Option.some.injEq] at h
    obtain ⟨y, hy, ys, hys, rfl⟩ := h
    rw [not_star hy]
    have q := args_plain es fl ys hys
    simp only [backTo, List.map_cons, List.any_cons, Bool.false_or] at q ⊢
    exact q
theorem evalArgs_sound (ih : ES prog w base Φ k n) {es : List Expr} {fl : List Bool} {ds : List PyData} {fv : Value} (h : mapF (evalE Φ n env.kindOf ρ) fl es = some ds) {s : Shared} {Q : Args → Shared → Prop} (C : Cx base k env ρ OP O A s)
    (hQ : ∀ vs s', Go s s' → RdXs s'.heap OP fl vs ds → Q ⟨vs, []⟩ s') : wpAny (model prog w) A (evalArgs fv true (backTo pos (starEach es env)) []) Q E s := by
  cases es with
  | nil =>
    cases fl with
    | nil => simp only [mapF, Option.some.injEq] at h; subst h; exact evalArgs_nil3 (hQ _ _ (Go.refl _) .nil)
    | cons => simp [mapF] at h
  | cons e es =>
    have hst : starEach (e :: es) env = (false, eval e env) :: starEach es env := by
      cases fl with
      | nil => simp [mapF] at h
      | cons b fl =>
        simp only [mapF, Option.bind_eq_some_iff, Option.some.injEq] at h
        obtain ⟨y, hy, _⟩ := h
        exact not_star hy _ _
    have q := args_sound (pos := pos) (E := E) ih (e :: es) fl ds h s (fun vs s' => Q ⟨vs, []⟩ s') C hQ
    rw [hst] at q ⊢
    exact evalArgs_plain q
end

section
variable {A : Around} {E : Value → Shared → Prop} {OP O : List Addr} {env : Env} {ρ : Rho} {s : Shared}
theorem load_sound {x : Str} {v : Value} {Q : Value → Shared → Prop} (he : EnvOk env) (hv : Var s.heap env x v) (hQ : Q v s) : wpAny (model prog w) A (loadName env x) Q E s := by
  rcases hv with ⟨a, m, b, c⟩ | ⟨a, c, b, d⟩ | ⟨a, q, c, b, d⟩
  · exact wpAny_loadName_local he.kind a b c hQ
  · exact wpAny_loadName_cell he.kind a b d hQ
  · exact wpAny_loadName_free he.kind a b d hQ q
theorem glob_sound {x : Str} {p : Pos} {v : Value} {Q : Value → Shared → Prop} (hB : Base mg mb base) (he : EnvOk env) (hx : Ext base s.heap) (hk : env.kindOf x = some .globalImplicit) (hd : (x == Str.ofString "__debug__") = false) (hv : mg x = some v) (hQ : Q v s) :
    wpAny (model prog w) A (eval (.Name x p) env) Q E s :=
  Name_function_global he.kind hk (loadGlobal_global (mg := mg) (by rw [he.g]; exact hB.g.keeps hx) hv hQ) hd
theorem blt_sound {x : Str} {p : Pos} {v : Value} {Q : Value → Shared → Prop} (hB : Base mg mb base) (he : EnvOk env) (hx : Ext base s.heap) (hk : env.kindOf x = some .globalImplicit) (hv : biTab.lookup x = some v) (hQ : Q v s) :
    wpAny (model prog w) A (eval (.Name x p) env) Q E s := by
  have hd : (x == Str.ofString "__debug__") = false := by
    cases hq : x == Str.ofString "__debug__" with
    | false => rfl
    | true =>
      rw [eq_of_beq hq] at hv
      exact absurd hv (by rw [show biTab.lookup (Str.ofString "__debug__") = none by decide +kernel]; intro e; cases e)
  exact Name_function_global he.kind hk (loadGlobal_builtin (mg := mg) (mb := mb) (by rw [he.g]; exact hB.g.keeps hx) (hB.bi x v hv).1 (by rw [he.b]; exact hB.b.keeps hx) (hB.bi x v hv).2 hQ) hd
end

/-! ### comprehension -/
section
def clOf (env : Env) : List (Str × NameKind) → List (Str × Addr) → List (Str × Addr)
  | [], acc => acc
  | (n, kd) :: r, acc => if kd == .free then clOf env r ((n, (env.cells.lookup n).getD 0) :: acc) else clOf env r acc
theorem closure_eq {env : Env} (f : Str × NameKind → List (Str × Addr) → Sem (ForInStep (List (Str × Addr)))) (hf : ∀ n kd acc, f (n, kd) acc = if kd == .free then (do let c ← cellOf env n; pure (.yield ((n, c) :: acc))) else pure (.yield acc)) :
    ∀ (names : List (Str × NameKind)) (acc : List (Str × Addr)), (∀ p ∈ names, p.2 = .free → (env.cells.lookup p.1).isSome = true) → forIn names acc f = pure (clOf env names acc)
  | [], acc, _ => by rw [List.forIn_nil]; rfl
  | (n, kd) :: r, acc, h => by
    rw [List.forIn_cons, hf]
    unfold clOf
    by_cases hk : (kd == NameKind.free) = true
    · rw [if_pos hk, if_pos hk]
      have q := h (n, kd) (.head _) (eq_of_beq hk)
      cases hc : env.cells.lookup n with
      | none => rw [hc] at q; cases q
      | some c =>
        have e : cellOf env n = pure c := by unfold cellOf; rw [hc]
        rw [e]
        simp only [pure_bind]
        exact closure_eq f hf r _ fun p hp => h p (.tail _ hp)
    · rw [if_neg hk, if_neg hk]
      simp only [pure_bind]
      exact closure_eq f hf r _ fun p hp => h p (.tail _ hp)
theorem closure_sound {env : Env} {sc : Scope} (h : ∀ p ∈ sc.names, p.2 = .free → (env.cells.lookup p.1).isSome = true) : closureFor sc env = pure (clOf env sc.names []) := by
  unfold closureFor
  have q := closure_eq (env := env) (fun p acc => if (p.2 == .free) then (do let c ← cellOf env p.1; pure (.yield ((p.1, c) :: acc))) else pure (.yield acc)) (fun n kd acc => rfl) sc.names [] h
  refine Eq.trans ?_ q
  simp only [bind_pure]
theorem clOf_lookup {env : Env} {x : Str} {c : Addr} (hc : env.cells.lookup x = some c) : ∀ (names : List (Str × NameKind)) (acc : List (Str × Addr)), ((x, NameKind.free) ∈ names ∨ acc.lookup x = some c) → (clOf env names acc).lookup x = some c
  | [], acc, h => by rcases h with h | h; cases h; exact h
  | (n, kd) :: r, acc, h => by
    unfold clOf
    by_cases hk : (kd == NameKind.free) = true
    · rw [if_pos hk]
      refine clOf_lookup hc r _ ?_
      by_cases hx : x = n
      · subst hx; right; rw [List.lookup_cons, beq_self_eq_true]; simp [hc]
      · rcases h with h | h
        · rcases List.mem_cons.mp h with e | h
          · exact absurd (Prod.mk.inj e).1 hx
          · exact .inl h
        · right; rw [List.lookup_cons]; simp only [show (x == n) = false from beq_eq_false_iff_ne.mpr hx]; exact h
    · rw [if_neg hk]
      refine clOf_lookup hc r _ (h.imp (fun h => ?_) id)
      rcases List.mem_cons.mp h with e | h
      · have := (Prod.mk.inj e).2; subst this; exact absurd rfl hk
      · exact h
theorem relN_lookup (K : Kd) (x : Str) : ∀ names : List (Str × NameKind), (relN names K).lookup x = (names.lookup x).map fun kd => if (kd == .free && K x == some .cell) then .cell else kd
  | [] => rfl
  | (n, kd) :: r => by
    have ih := relN_lookup K x r
    unfold relN at ih ⊢
    rw [List.map_cons]
    by_cases hx : (x == n) = true
    · have : x = n := eq_of_beq hx
      subst this
      by_cases hc : (kd == NameKind.free && K x == some NameKind.cell) = true
      · simp only [List.lookup_cons, hc, if_true, beq_self_eq_true, Option.map_some]
      · simp only [Bool.not_eq_true] at hc; simp only [List.lookup_cons, hc, Bool.false_eq_true, if_false, beq_self_eq_true, Option.map_some]
    · simp only [Bool.not_eq_true] at hx
      by_cases hc : (kd == NameKind.free && K n == some NameKind.cell) = true
      · simp only [List.lookup_cons, hc, if_true, hx]; exact ih
      · simp only [Bool.not_eq_true] at hc; simp only [List.lookup_cons, hc, Bool.false_eq_true, if_false, hx]; exact ih
theorem relabel_names {env : Env} (sc : Scope) (hk : env.scope.kind = .function) : (relabel sc env).names = relN sc.names env.kindOf := by
  unfold relabel relN
  simp only [hk, beq_self_eq_true, Bool.and_true]
theorem kind_comp {env : Env} (sc : Scope) (cl : List (Str × Addr)) (C : Addr) (hk : env.scope.kind = .function) : (compEnvC sc cl C env).kindOf = fun x => (relN sc.names env.kindOf).lookup x := by
  funext x
  unfold Env.kindOf compEnvC
  show (relabel sc env).names.lookup x = _
  rw [relabel_names sc hk]; rfl

theorem kind_comp_at {env : Env} (sc : Scope) (cl : List (Str × Addr)) (C : Addr) (hk : env.scope.kind = .function) (x : Str) : (compEnvC sc cl C env).kindOf x = (relN sc.names env.kindOf).lookup x := by rw [kind_comp sc cl C hk]
theorem setR_lookup (x : Str) (b : Bd) (y : Str) : ∀ ρ : Rho, (setR ρ x b).lookup y = if y = x then some b else ρ.lookup y
  | [] => by
    unfold setR
    by_cases h : y = x
    · subst h; simp [List.lookup_cons]
    · simp [List.lookup_cons, h, show (y == x) = false from beq_eq_false_iff_ne.mpr h]
  | (z, c) :: r => by
    unfold setR
    have ih := setR_lookup x b y r
    by_cases hz : x = z
    · subst hz
      by_cases h : y = x
      · subst h; simp [List.lookup_cons]
      · simp [List.lookup_cons, h, show (y == x) = false from beq_eq_false_iff_ne.mpr h]
    · have hz' : (x == z) = false := beq_eq_false_iff_ne.mpr hz
      simp only [hz', Bool.false_eq_true, if_false]
      by_cases h : y = z
      · subst h
        have : ¬ y = x := fun e => hz e.symm
        simp [List.lookup_cons, this]
      · have h' : (y == z) = false := beq_eq_false_iff_ne.mpr h
        simp only [List.lookup_cons, h']; exact ih
theorem capt_lookup (sc : Scope) (y : Str) (b : Bd) : ∀ ρ : Rho, (capt sc ρ).lookup y = some b → ρ.lookup y = some b ∧ sc.names.lookup y = some .free
  | [], h => by simp [capt] at h
  | (z, c) :: r, h => by
    have ih := capt_lookup sc y b r
    unfold capt at h ih
    rw [List.filter_cons] at h
    by_cases hz : y = z
    · subst hz
      by_cases hf : (sc.names.lookup y == some NameKind.free) = true
      · simp only [hf, if_true, List.lookup_cons, beq_self_eq_true] at h
        simp only [List.lookup_cons, beq_self_eq_true]
        exact ⟨h, eq_of_beq hf⟩
      · simp only [Bool.not_eq_true] at hf
        simp only [hf, Bool.false_eq_true, if_false] at h
        have := (ih h).2
        rw [this] at hf; simp at hf
    · have hz' : (y == z) = false := beq_eq_false_iff_ne.mpr hz
      simp only [List.lookup_cons, hz']
      split at h
      · simp only [List.lookup_cons, hz'] at h; exact ih h
      · exact ih h

theorem BOk.more {h h' : Heap} {OP O new : List Addr} {b : Bd} {v : Value} (hk : ∀ a o, h.get? a = some o → a ∉ new ∧ h'.get? a = some o) (x : BOk h OP O b v) : BOk h' (new ++ OP) O b v := by
  have hm : ∀ a o, a ∉ OP → h.get? a = some o → a ∉ new ++ OP ∧ h'.get? a = some o := fun a o ha ho => ⟨by rw [List.mem_append]; rintro (e | e); exact (hk a o ho).1 e; exact ha e, (hk a o ho).2⟩
  obtain ⟨m, d⟩ := b
  cases m with
  | val => exact Rd.mono hm x
  | brw =>
    cases x with
    | of x => exact .of (x.mono hm)
    | list hl r => obtain ⟨o, ho, q⟩ := hl; exact .list ⟨o, (hk _ o ho).2, q⟩ (r.mono hm)
    | dict hd r e => exact .dict (hd.ext fun a o ho => (hk a o ho).2) (r.mono hm) e
  | own =>
    obtain ⟨a, h1, h2, h3⟩ := x
    refine ⟨a, h1, h2, ?_⟩
    cases h3 with
    | list p r => exact .list (p.keeps fun a o ho => (hk a o ho).2) (r.mono hm)
    | dict hd r e => exact .dict (hd.ext fun a o ho => (hk a o ho).2) (r.mono hm) e

theorem forIn_false {env : Env} : ∀ ifs : List Expr, (forIn ifs false fun c r => if r = true then do let ok ← isTrue c env (eval c env); pure (ForInStep.yield ok) else pure (ForInStep.yield r)) = (pure false : Sem Bool)
  | [] => by rw [List.forIn_nil]
  | c :: r => by rw [List.forIn_cons]; simp only [Bool.false_eq_true, if_false, pure_bind]; exact forIn_false r

variable {prog : Program} {w : World} {base : Heap} {Φ : Fns} {k : Nat}
theorem tests_sound {n : Nat} (ih : TS prog w base Φ k n) {env : Env} {ρ : Rho} {OP O : List Addr} {A : Around} {E : Value → Shared → Prop} : ∀ (ifs : List Expr) (c : Bool), allGo (testE Φ n env.kindOf ρ) .And ifs = some c → ∀ (s : Shared) (Q : Bool → Shared → Prop), Cx base k env ρ OP O A s →
    (∀ s', Go s s' → Q c s') → wpAny (model prog w) A (forIn ifs true fun c r => if r = true then do let ok ← isTrue c env (eval c env); pure (ForInStep.yield ok) else pure (ForInStep.yield r)) Q E s
  | [], c, h, s, Q, C, hQ => by
    simp only [allGo, Option.some.injEq] at h; subst h
    rw [List.forIn_nil]; exact wpAny_pure (hQ _ (Go.refl _))
  | e :: r, c, h, s, Q, C, hQ => by
    simp only [allGo, Option.bind_eq_some_iff] at h
    obtain ⟨b, hb, h⟩ := h
    rw [List.forIn_cons]
    simp only [if_true]
    refine wpAny_bind (wpAny_bind (ih env ρ e b hb OP O A s _ E C fun s₁ g₁ => wpAny_pure ?_))
    cases b with
    | false =>
      simp only [Option.some.injEq] at h; subst h
      show wpAny _ _ (forIn r false _) _ _ _
      rw [forIn_false]
      exact wpAny_pure (hQ _ g₁)
    | true =>
      exact tests_sound ih r c h s₁ Q (C.go g₁) fun s₂ g₂ => hQ _ (g₁.trans g₂)
end
end
end Mine
set_option autoImplicit false
namespace Mine
open PySem PySem.Spec PySem.Calls PyProof.Rows

section
variable {prog : Program} {w : World} {base : Heap} {Φ : Fns} {k : Nat}

theorem fresh_size {h : Heap} {a : Addr} (ha : h.objs.size ≤ a) : h.get? a = none := by
  cases e : h.get? a with
  | none => rfl
  | some o => exact absurd (Heap.lt_size e) (Nat.not_lt.mpr ha)

def compF (Φ : Fns) (n : Nat) (K : Kd) (ρ : Rho) (sc : Scope) (tgt elt : Expr) (ifs : List Expr) (d : PyData) : Option (Option PyData) :=
  compB sc tgt (capt sc ρ) (testsB (testE Φ n (fun x => (relN sc.names K).lookup x)) ifs) (elB (evalE Φ n (fun x => (relN sc.names K).lookup x)) elt) d

theorem compSc_facts {sc : Scope} {env : Env} (h : compSc sc env.kindOf = true) : sc.kind = .function ∧ (∀ p ∈ sc.names, p.2 ≠ .cell) ∧ (∀ p ∈ sc.names, sc.names.lookup p.1 = some p.2) ∧
    (∀ p ∈ sc.names, p.2 = .free → (env.kindOf p.1 = some .cell ∨ env.kindOf p.1 = some .free) ∧ (p.1 == Str.ofString "__classdict__") = false) := by
  unfold compSc at h
  simp only [Bool.and_eq_true, List.all_eq_true, Bool.or_eq_true, bne_iff_ne, beq_iff_eq, Bool.not_eq_true'] at h
  obtain ⟨⟨h1, h2⟩, h3⟩ := h
  refine ⟨h1, fun p hp => (h2 p hp).1, fun p hp => (h2 p hp).2, fun p hp hf => ?_⟩
  rcases h3 p hp with h | h
  · exact absurd hf h
  · exact ⟨h.1, h.2⟩

theorem comp_sound {n : Nat} (hE : ES prog w base Φ k n) (hT : TS prog w base Φ k n) (hI : IS prog w base Φ k n) {env : Env} {ρ : Rho} {OP O : List Addr} {A : Around} {E : Value → Shared → Prop} {s : Shared} {sc : Scope} {tgt elt iter : Expr} {ifs : List Expr} {pos pos' : Pos} {xs ys : List PyData}
    {use : Option (Value → Sem Unit)} {Q : Value → Shared → Prop}
    (hcs : compSc sc env.kindOf = true) (htg : tgtC sc tgt = true) (hi : itemsE Φ n env.kindOf ρ true iter = some xs) (hg : compGo (compF Φ n env.kindOf ρ sc tgt elt ifs) xs = some ys) (Cc : Cx base k env ρ OP O A s)
    (hQ : ∀ D C s', Go s s' → s.heap.get? D = none → s.heap.get? C = none → D ≠ C → Rd s'.heap (C :: OP) (.ref D) (.list ys) → s'.heap.PlainList D ((s'.heap.get? D).elim #[] fun o => match o.data with | .seq v _ => v | _ => #[]) → (∃ m, s'.heap.Ns C m) → compPost (model prog w) A E use Q (.ref D) C (.ok .next) s') :
    wpAny (model prog w) A (comprehension (.ListComp elt [⟨tgt, iter, ifs, 0⟩] sc pos) sc env pos' (newList []) false (eval iter env) use) Q E s := by
  obtain ⟨hkind, hncell, hnames, hfree⟩ := compSc_facts hcs
  obtain ⟨hset, hiter⟩ := hI env ρ true iter xs hi
  have hclos := closure_sound (env := env) (sc := sc) fun p hp hf => Cc.en.cells p.1 (hfree p hp hf).1
  refine wpAny_comprehension_free rfl hset hclos hkind (fun x hx hl => hl ▸ hnames x hx) (hiter OP O A s _ E Cc fun I fp P St s₂ it => ?_)
  refine wpAny_newObj_type (wpAny_newFunctionEnv hncell (by intro y hy; simp at hy) (fun h₁ hns₁ hsb₁ => ?_) hkind)
  dsimp only at hns₁ hsb₁ ⊢
  generalize hH2 : s₂.heap.push { cls := .type "list", dict := none, data := .seq ([] : List Value).toArray } = H2 at hns₁ hsb₁ ⊢
  have hCs : H2.objs.size = s₂.heap.objs.size + 1 := by rw [← hH2, Heap.size_push]
  generalize hDd : s₂.heap.objs.size = D at *
  generalize hCd : H2.objs.size = C at *
  have hDC : D ≠ C := by omega
  have hDf : s₂.heap.get? D = none := fresh_size (by omega)
  have hCf : s₂.heap.get? C = none := fresh_size (by omega)
  have old : ∀ b o, s₂.heap.get? b = some o → h₁.get? b = some o := fun b o e => hsb₁.extBut b o (by rintro rfl; rw [hCf] at e; cases e) (Heap.get?_push_of_some _ (hH2 ▸ Heap.get?_push_of_some _ e))
  have hacc : h₁.PlainList D #[] := ⟨_, hsb₁.extBut _ _ hDC (Heap.get?_push_of_some _ (hH2 ▸ hDd ▸ Heap.get?_push_size _ rfl))⟩
  obtain ⟨oI, hoI⟩ := it.live 0 _ it.st
  have hDI : D ≠ I := by rintro rfl; rw [hDf] at hoI; cases hoI
  have hCI : C ≠ I := by rintro rfl; rw [hCf] at hoI; cases hoI
  have hDs : s.heap.get? D = none := by
    cases e : s.heap.get? D with
    | none => rfl
    | some o => have := it.go.ext _ _ e; rw [hDf] at this; cases this
  have hCsn : s.heap.get? C = none := by
    cases e : s.heap.get? C with
    | none => rfl
    | some o => have := it.go.ext _ _ e; rw [hCf] at this; cases this
  have hxI : I ∉ OP := fun hm => by obtain ⟨o, ho⟩ := Cc.ex _ hm; rw [it.fresh] at ho; cases ho
  have hDOP : D ∉ OP := fun hm => by obtain ⟨o, ho⟩ := Cc.ex _ hm; rw [hDs] at ho; cases ho
  have hCOP : C ∉ OP := fun hm => by obtain ⟨o, ho⟩ := Cc.ex _ hm; rw [hCsn] at ho; cases ho
  have hst₁ : St 0 h₁ := it.walks.frame _ _ _ it.st fun b hb o e => old b o e
  have hfD : D ∉ fp := fun hm => by
    obtain ⟨o, ho, _⟩ := it.foot D hm hDI
    rw [hDf] at ho; cases ho
  have hfC : C ∉ fp := fun hm => by
    obtain ⟨o, ho, _⟩ := it.foot C hm hCI
    rw [hCf] at ho; cases ho
  -- the loop
  have loop : ∀ s₃ : Shared, s₃ = { s₂ with heap := h₁, toks := s₂.toks + ([] : List (Str × Value)).length } →
      codeAny (model prog w) A (.compLoop (.ListComp elt [⟨tgt, iter, ifs, 0⟩] sc pos) 0 (.ref I) (.ref D) (compEnvC sc (clOf env sc.names []) C env)) (compPost (model prog w) A E use Q (.ref D) C) s₃ := by
    rintro s₃ rfl
    have hletgo : ∀ v, letOwnedTupleGo tgt (.ref I) v = pure () := by
      intro v; cases tgt <;> first | rfl | (simp [tgtC] at htg)
    refine codeAny_compLoop_tests
      (fun m s' => ∃ (vs : Array Value) (i : Nat) (ds rest : List PyData), s'.os = s₂.os ∧ (AllBare s₂.gens → AllBare s'.gens) ∧ (∀ b o, b ≠ I → s₂.heap.get? b = some o → s'.heap.get? b = some o) ∧ St i s'.heap ∧ s'.heap.PlainList D vs ∧ (∃ m', s'.heap.Ns C m') ∧
        RdAll s'.heap ([D, C, I] ++ OP) vs.toList ds ∧ i ≤ xs.length ∧ compGo (compF Φ n env.kindOf ρ sc tgt elt ifs) (xs.drop i) = some rest ∧ ys = ds ++ rest ∧ vs.size ≤ i ∧ m = xs.length + 1 - i) ?_ (xs.length + 1)
      ⟨#[], 0, [], ys, rfl, fun h => h, fun b o _ e => old b o e, hst₁, hacc, ⟨_, hns₁⟩, .nil, Nat.zero_le _, by simpa using hg, rfl, Nat.le_refl _, rfl⟩ hletgo
    rintro m s' ⟨vs, i, ds, rest, hos, hgen, hk, hst, hpl, ⟨m', hns⟩, hrd, hile, hrest, hys, hvi, rfl⟩
    by_cases hlt : i < xs.length
    · -- an item
      refine it.walks.item i _ _ _ hlt hst fun v h₂ tk₂ hPv hst₂ hk₂ => ?_
      have hxi : xs[i]? = some xs[i] := List.getElem?_eq_getElem hlt
      rw [List.drop_eq_getElem_cons hlt] at hrest
      simp only [compGo, Option.bind_eq_some_iff, Option.some.injEq] at hrest
      obtain ⟨oy, hoy, rest', hrest', hre⟩ := hrest
      unfold compF compB testsB elB at hoy
      simp only [Option.bind_eq_some_iff] at hoy
      obtain ⟨ρ', hρ', c, hc, hoy⟩ := hoy
      have hvd := it.items i v _ hPv hxi
      cases tgt with
      | Name x px =>
        simp only [bindC] at hρ'
        split at hρ'
        · rename_i hxl
          have hxl' : sc.names.lookup x = some .local := eq_of_beq hxl
          cases hρ'
          have hk2 : ∀ b o, b ≠ I → s₂.heap.get? b = some o → h₂.get? b = some o := fun b o hb e => hk₂ b o (by simpa using hb) (hk b o hb e)
          have hns₂ : h₂.Ns C m' := hns.at' fun o e => hk₂ C o (by simpa using hCI) e
          have hpl₂ : h₂.PlainList D vs := hpl.at fun o e => hk₂ D o (by simpa using hDI) e
          refine wpAny_assign_Name (wpAny_storeName_local (env := compEnvC sc (clOf env sc.names []) C env) (m := m') (by rw [kind_comp_at sc _ C Cc.en.kind, relN_lookup, hxl']; rfl) hns₂ (fun h₃ hns₃ hsb₃ => ?_) (by show (sc.kind == .class || (sc.kind == .module && _)) = false; rw [hkind]; rfl))
          -- the state behind the store
          have hk3 : ∀ b o, b ≠ I → b ≠ C → h₂.get? b = some o → h₃.get? b = some o := fun b o _ hb e => hsb₃.extBut b o hb e
          have hst₃ : St (i + 1) h₃ := it.walks.frame _ _ _ hst₂ fun b hb o e => hsb₃.extBut b o (by rintro rfl; exact hfC hb) e
          have hpl₃ : h₃.PlainList D vs := hpl₂.at fun o e => hsb₃.extBut D o hDC e
          have hk3' : ∀ b o, b ≠ I → s₂.heap.get? b = some o → h₃.get? b = some o := fun b o hb e => hsb₃.extBut b o (by rintro rfl; rw [hCf] at e; cases e) (hk2 b o hb e)
          have hrd₃ : RdAll h₃ ([D, C, I] ++ OP) vs.toList ds := hrd.mono fun a o ha ho => by
            refine ⟨ha, ?_⟩
            simp only [List.cons_append, List.nil_append, List.mem_cons, not_or] at ha
            exact hsb₃.extBut a o ha.2.1 (hk₂ a o (by simpa using ha.2.2.1) ho)
          have C' : Cx base k (compEnvC sc (clOf env sc.names []) C env) (setR (capt sc ρ) x ⟨.val, xs[i]⟩) ([D, C, I] ++ OP) O A { s' with heap := h₃, toks := tk₂ + 1 } := by
            have hkf : ∀ a o, s.heap.get? a = some o → a ∉ [D, C, I] ∧ h₃.get? a = some o := fun a o e => by
              have e2 := it.go.ext _ _ e
              refine ⟨?_, hk3' a o (by rintro rfl; rw [it.fresh] at e; cases e) e2⟩
              simp only [List.mem_cons, List.not_mem_nil, or_false, not_or]
              exact ⟨(by rintro rfl; rw [hDs] at e; cases e), (by rintro rfl; rw [hCsn] at e; cases e), (by rintro rfl; rw [it.fresh] at e; cases e)⟩
            refine ⟨⟨?_, Cc.en.g, Cc.en.b, ?_⟩, Cc.at_, fun b o e => (hkf b o (Cc.base b o e)).2, ?_, ?_⟩
            · show sc.kind = .function; exact hkind
            · intro y hy
              rw [kind_comp_at sc _ C Cc.en.kind] at hy
              simp only [relN_lookup] at hy
              have hyf : sc.names.lookup y = some .free := by
                cases hq : sc.names.lookup y with
                | none => rw [hq] at hy; simp at hy
                | some kd =>
                  rw [hq] at hy
                  have hmem := mem_of_lookup hq
                  cases kd with
                  | free => rfl
                  | cell => exact absurd rfl (hncell _ hmem)
                  | _ => simp at hy
              have hmem := mem_of_lookup hyf
              have h2 := Cc.en.cells y (hfree _ hmem rfl).1
              cases hq : env.cells.lookup y with
              | none => rw [hq] at h2; cases h2
              | some c' =>
                show ((clOf env sc.names []).lookup y).isSome = true
                rw [clOf_lookup hq _ _ (.inl hmem)]; rfl
            · intro a ha
              simp only [List.cons_append, List.nil_append, List.mem_cons] at ha
              rcases ha with rfl | rfl | rfl | ha
              · obtain ⟨_, e⟩ := hpl₃; exact ⟨_, e⟩
              · obtain ⟨o, _, _, e, _⟩ := hns₃; exact ⟨o, e⟩
              · exact it.live _ _ hst₃
              · obtain ⟨o, ho⟩ := Cc.ex a ha; exact ⟨o, (hkf a o ho).2⟩
            · intro y b hy
              rw [setR_lookup] at hy
              split at hy
              · rename_i hyx
                subst hyx; cases hy
                refine ⟨v, .inl ⟨by rw [kind_comp_at sc _ C Cc.en.kind, relN_lookup, hxl']; rfl, _, hns₃, by simp⟩, ?_⟩
                show Rd h₃ _ v _
                refine hvd.mono fun a o ha ho => ?_
                simp only [List.mem_cons, not_or] at ha
                refine ⟨?_, hk3' a o ha.1 ho⟩
                simp only [List.cons_append, List.nil_append, List.mem_cons, not_or]
                exact ⟨(by rintro rfl; rw [hDf] at ho; cases ho), (by rintro rfl; rw [hCf] at ho; cases ho), ha.1, ha.2⟩
              · obtain ⟨hy1, hy2⟩ := capt_lookup sc y b ρ hy
                obtain ⟨u, hu1, hu2⟩ := Cc.vars y b hy1
                refine ⟨u, ?_, hu2.more hkf⟩
                have hmem := mem_of_lookup hy2
                have hcls := (hfree _ hmem rfl).2
                have hkc := kind_comp_at sc (clOf env sc.names []) C Cc.en.kind
                rcases hu1 with ⟨a, _⟩ | ⟨a, c', b', d'⟩ | ⟨a, q, c', b', d'⟩
                · rcases (hfree _ hmem rfl).1 with e | e <;> rw [a] at e <;> cases e
                · refine .inr (.inl ⟨by rw [hkc]; simp only [relN_lookup, hy2, a]; rfl, c', clOf_lookup b' _ _ (.inl hmem), ?_⟩)
                  exact d'.keeps fun b o e => (hkf b o e).2
                · refine .inr (.inr ⟨by rw [hkc]; simp only [relN_lookup, hy2, a]; rfl, q, c', clOf_lookup b' _ _ (.inl hmem), ?_⟩)
                  exact d'.keeps fun b o e => (hkf b o e).2
          rw [← kind_comp sc (clOf env sc.names []) C Cc.en.kind] at hc hoy
          refine tests_sound hT ifs c hc _ _ C' fun s₅ g₅ => ?_
          have hns₅ := hns₃.keeps g₅.ext
          have hst₅ : St (i + 1) s₅.heap := it.walks.frame _ _ _ hst₃ fun b hb o e => g₅.ext b o e
          have hrd₅ := hrd₃.ext g₅.ext
          have hpl₅ : s₅.heap.PlainList D vs := hpl₃.at fun o e => g₅.ext _ _ e
          have hk5 : ∀ b o, b ≠ I → s₂.heap.get? b = some o → s₅.heap.get? b = some o := fun b o hb e => g₅.ext _ _ (hk3' b o hb e)
          cases c with
          | false =>
            simp only [Bool.false_eq_true, if_false, Option.some.injEq] at hoy ⊢
            subst hoy
            dsimp only at hre
            exact ⟨xs.length + 1 - (i + 1), by omega, vs, i + 1, ds, rest', g₅.os.trans hos, fun h => g₅.gens (hgen h), hk5, hst₅, hpl₅, ⟨_, hns₅⟩, hrd₅, hlt, hrest', by rw [hys, ← hre], by omega, rfl⟩
          | true =>
            simp only [if_true] at hoy ⊢
            cases hy : evalE Φ n (compEnvC sc (clOf env sc.names []) C env).kindOf (setR (capt sc ρ) x ⟨.val, xs[i]⟩) false elt with
            | none => rw [hy] at hoy; cases hoy
            | some y =>
              rw [hy] at hoy
              simp only [Option.map_some, Option.some.injEq] at hoy
              subst hoy
              dsimp only at hre
              refine hE _ _ false elt y hy _ O A s₅ _ _ (C'.go g₅) fun u s₆ g₆ r₆ => ?_
              have r6 : Rd s₆.heap ([D, C, I] ++ OP) u y := r₆
              refine wpAny_list_append_plain (hpl₅.at fun o e => g₆.ext _ _ e) (fun h₇ hpl₇ hsb₇ => ?_) (by have := it.size; omega)
              have hk7 : ∀ b o, b ≠ D → s₆.heap.get? b = some o → h₇.get? b = some o := fun b o hb e => hsb₇.extBut b o hb e
              have hm7 : ∀ a o, a ∉ [D, C, I] ++ OP → s₆.heap.get? a = some o → a ∉ [D, C, I] ++ OP ∧ h₇.get? a = some o := fun a o ha ho => by
                refine ⟨ha, ?_⟩
                simp only [List.cons_append, List.nil_append, List.mem_cons, not_or] at ha
                exact hk7 a o ha.1 ho
              refine ⟨xs.length + 1 - (i + 1), by omega, vs.push u, i + 1, ds ++ [y], rest', (g₆.os.trans g₅.os).trans hos, fun h => g₆.gens (g₅.gens (hgen h)), ?_, ?_, hpl₇, ⟨_, (hns₅.keeps g₆.ext).sameBut hsb₇ hDC.symm⟩, ?_, hlt, hrest', by rw [hys, ← hre]; simp, by rw [Array.size_push]; omega, rfl⟩
              · intro b o hb e
                exact hk7 b o (by rintro rfl; rw [hDf] at e; cases e) (g₆.ext _ _ (hk5 b o hb e))
              · exact it.walks.frame _ _ _ hst₅ fun b hb o e => hk7 b o (by rintro rfl; exact hfD hb) (g₆.ext _ _ e)
              · rw [Array.toList_push]
                exact RdAll.append (.cons (r6.mono hm7) .nil) ((hrd₅.ext g₆.ext).mono hm7)
        · cases hρ'
      | _ => simp [bindC] at hρ'
    · -- the end
      have hin : i = xs.length := by omega
      subst hin
      refine it.walks.done _ _ _ hst fun h₂ tk₂ hk₂ => ?_
      have hrest0 : rest = [] := by
        rw [List.drop_length] at hrest
        simp only [compGo, Option.some.injEq] at hrest; exact hrest.symm
      subst hrest0
      rw [List.append_nil] at hys
      subst hys
      have hpl₂ : h₂.PlainList D vs := hpl.at fun o e => hk₂ D o (by simpa using hDI) e
      refine hQ D C _ ⟨?_, hos.trans it.go.os, fun h => hgen (it.go.gens h)⟩ hDs hCsn hDC ?_ ?_ ⟨m', hns.at' fun o e => hk₂ C o (by simpa using hCI) e⟩
      · intro b o e
        have hb : b ≠ I := by rintro rfl; rw [it.fresh] at e; cases e
        exact hk₂ b o (by simpa using hb) (hk b o hb (it.go.ext _ _ e))
      · refine .list (vs := vs) ?_ hpl₂.isList (hrd.mono fun a o ha ho => ?_)
        · simp only [List.mem_cons, not_or]; exact ⟨hDC, hDOP⟩
        · simp only [List.cons_append, List.nil_append, List.mem_cons, not_or] at ha
          exact ⟨by simp only [List.mem_cons, not_or]; exact ⟨ha.2.1, ha.2.2.2⟩, hk₂ a o (by simpa using ha.2.2.1) ho⟩
      · obtain ⟨nn, e⟩ := hpl₂
        have e' : h₂.get? D = _ := e
        simp only [e', Option.elim_some]
        exact ⟨nn, e⟩
  exact codeAny_compStart_list (loop _ rfl) (it.walks.self 0 _ _ _ hst₁ (loop _ rfl))
end
end Mine
set_option autoImplicit false
namespace Mine
open PySem PySem.Spec PySem.Calls PyProof.Rows

section
variable {prog : Program} {w : World} {mg mb : Str → Option Value} {base : Heap} {Φ : Fns} {k : Nat}

theorem ps_step {n : Nat} (hE : ES prog w base Φ k n) : PS prog w base Φ k (n + 1) := by
  intro env ρ e o h OP O A s Q E C hQ
  cases e with
  | none =>
    simp only [partE, Option.some.injEq] at h; subst h
    rw [evalPart_none]
    exact wpAny_pure (hQ _ _ (Go.refl _) .none)
  | some e =>
    simp only [partE, Option.bind_eq_some_iff] at h
    obtain ⟨d, hd, h⟩ := h
    rw [evalPart_some]
    refine hE env ρ true e d hd OP O A s _ E C fun v s' g r => ?_
    cases d with
    | int i =>
      simp only [asPart, Option.some.injEq] at h; subst h
      obtain ⟨t, rfl⟩ := RdT.int_inv r
      exact hQ _ _ g (.int _ _)
    | _ => simp [asPart] at h

theorem isGlob_eq {K : Kd} {f x : Str} (h : isGlob K f x = true) : x = f ∧ K x = some .globalImplicit := by
  unfold isGlob at h
  simp only [Bool.and_eq_true, beq_iff_eq] at h
  exact h

theorem is_step {n : Nat} (hB : Base mg mb base) (hE : ES prog w base Φ k n) : IS prog w base Φ k (n + 1) := by
  intro env ρ rd e xs h
  simp only [itemsE] at h
  cases hr : rangeArgs? env.kindOf e with
  | some args =>
    rw [hr] at h
    simp only [Option.bind_eq_some_iff] at h
    obtain ⟨ds, hds, hxs⟩ := h
    unfold rangeArgs? at hr
    split at hr
    · rename_i f np args' pos
      split at hr
      · rename_i hf
        cases hr
        obtain ⟨rfl, hk⟩ := isGlob_eq hf
        refine ⟨fun x => rfl, fun OP O A s K E C hK => ?_⟩
        refine wpAny_Call_NameR (blt_sound hB C.en C.base hk (v := .type "range") (by decide +kernel) ?_)
        have hm := mapO_mapF _ true _ _ hds
        refine PyProof.Rows.callWith_type (args_plain _ _ _ hm) (evalArgs_sound hE hm C fun vs s₁ g₁ r₁ => ?_)
        have key : ∀ (a b : Int) (h₂ : Heap) (tk : Nat) (r : Addr) (t u v : Tok), smallI a = true → smallI b = true → xs = rangeL a b → s₁.heap.get? r = none → Ext s₁.heap h₂ → IsRange h₂ r a b 1 t u v → wpAny (model prog w) A (pyIter (.ref r)) K E { s₁ with heap := h₂, toks := tk } := by
          intro a b h₂ tk r t u v ha hb hx hrn hext hrg
          simp only [smallI, Bool.and_eq_true, decide_eq_true_eq] at ha hb
          refine wpAny_pyIter_range hrg (small_one (by omega) (by omega) (by omega) (by omega)) ?_
          have hlen : xs.length = (b - a).toNat := by rw [hx]; simp [rangeL]
          have hsz : Builtin.Range.rangeSize a b 1 = (xs.length : Int) := by rw [rangeSize_one, hlen]; split <;> omega
          rw [hsz]
          have hfr : s₁.heap.get? h₂.objs.size = none := by
            cases e : s₁.heap.get? h₂.objs.size with
            | none => rfl
            | some o => exact absurd (Heap.lt_size (hext _ _ e)) (Nat.lt_irrefl _)
          refine hK h₂.objs.size _ _ _ _ ⟨Walks.range C.at_.handled _ a 1 xs.length, ?_, ?_, ?_, ?_, ?_, ?_, ?_⟩
          · show IsRangeIter _ _ _ _ _
            simpa using Heap.get?_push_size _ rfl
          · exact g₁.trans (Go.of _ (hext.trans (Ext.push _ _)))
          · cases e : s.heap.get? h₂.objs.size with
            | none => rfl
            | some o => have := g₁.ext _ _ e; rw [hfr] at this; cases this
          · intro i h hi; exact ⟨_, hi⟩
          · intro b' hb' hne; exact absurd (List.mem_singleton.mp hb') hne
          · rintro i v' d ⟨t', rfl⟩ hd
            rw [hx] at hd
            simp only [rangeL, List.getElem?_map, Option.map_eq_some_iff] at hd
            obtain ⟨j, hj, rfl⟩ := hd
            have hji : j = i := by
              obtain ⟨hlt, he⟩ := List.getElem?_eq_some_iff.mp hj
              simpa using he.symm
            have e1 : a + (i : Int) * 1 = a + (j : Int) := by omega
            rw [e1]; exact .int _ _
          · have : sizeLine = 2 ^ 24 := rfl
            rw [hlen]; omega
        unfold rangeD at hxs
        split at hxs
        · split at hxs
          · rename_i b hb
            cases hxs
            cases r₁ with
            | cons x r =>
              cases r
              obtain ⟨t, rfl⟩ := RdT.int_inv x
              exact call_range_1 (key 0 b _ _ _ _ _ _ (by decide) hb rfl (fresh_size (Nat.le_refl _)) (Ext.push _ _) (IsRange.new _ _ _ _ _ _ _))
          · cases hxs
        · split at hxs
          · rename_i a b hab
            cases hxs
            simp only [Bool.and_eq_true] at hab
            cases r₁ with
            | cons x r =>
              cases r with
              | cons y r =>
                cases r
                obtain ⟨t, rfl⟩ := RdT.int_inv x
                obtain ⟨u, rfl⟩ := RdT.int_inv y
                exact call_range_2 (key a b _ _ _ _ _ _ hab.1 hab.2 rfl (fresh_size (Nat.le_refl _)) (Ext.push _ _) (IsRange.new _ _ _ _ _ _ _))
          · cases hxs
        · cases hxs
      · cases hr
    · cases hr
  | none =>
    rw [hr] at h
    simp only [Option.bind_eq_some_iff] at h
    obtain ⟨d, hd, h⟩ := h
    refine ⟨not_set hd env, fun OP O A s K E C hK => ?_⟩
    cases d with
    | list ys =>
      simp only [itemsD] at h
      split at h
      · rename_i hsz
        cases h
        refine hE env ρ rd e _ hd OP O A s _ E C fun v s₁ g₁ r₁ => ?_
        obtain ⟨a, vs, rfl, hl, hvs, hav⟩ : ∃ a vs, v = .ref a ∧ s₁.heap.IsList a vs ∧ RdAll s₁.heap OP vs.toList xs ∧ (rd = false → a ∉ OP) := by
          cases rd with
          | true => obtain ⟨a, vs, h1, h2, h3⟩ := RdT.list_inv r₁; exact ⟨a, vs, h1, h2, h3, fun e => by cases e⟩
          | false =>
            have r2 : Rd s₁.heap OP v (.list xs) := r₁
            cases r2 with | list h1 h2 h3 => exact ⟨_, _, rfl, h2, h3, fun _ => h1⟩
        obtain ⟨o, ho, hoc, nn, hdt⟩ := id hl
        have hlen : vs.size = xs.length := by have := hvs.length; simpa using this
        have hne : a ≠ s₁.heap.objs.size := Nat.ne_of_lt (Heap.lt_size ho)
        refine wpAny_pyIter_list hl ?_
        have W := Walks.list (prog := prog) (w := w) C.at_.handled s₁.heap.objs.size a hne vs
        rw [hlen] at W
        refine hK s₁.heap.objs.size _ _ _ _ ⟨W, ?_, g₁.trans (Go.heap _ (Ext.push _ _)), ?_, ?_, ?_, ?_, hsz⟩
        · exact ⟨⟨_, Heap.get?_push_size _ rfl, rfl, rfl⟩, hl.at fun o e => Heap.get?_push_of_some _ e⟩
        · cases e : s.heap.get? s₁.heap.objs.size with
          | none => rfl
          | some o => exact absurd (Heap.lt_size (g₁.ext _ _ e)) (Nat.lt_irrefl _)
        · rintro i h ⟨⟨o, ho, _⟩, _⟩; exact ⟨o, ho⟩
        · intro b hb hbI
          simp only [List.mem_cons, List.not_mem_nil, or_false] at hb
          rcases hb with rfl | rfl
          · exact absurd rfl hbI
          · exact ⟨o, Heap.get?_push_of_some _ ho, hoc, hav⟩
        · intro i v d hv hd'
          obtain ⟨v', hv', hr'⟩ := hvs.get hd'
          have : v' = v := by
            have h1 : vs.toList[i]? = some v := by simpa using hv
            rw [h1] at hv'; exact (Option.some.inj hv').symm
          subst this
          refine hr'.mono fun b ob hb hob => ⟨?_, Heap.get?_push_of_some _ hob⟩
          simp only [List.mem_cons, not_or]
          exact ⟨Nat.ne_of_lt (Heap.lt_size hob), hb⟩
      · cases h
    | _ => simp [itemsD] at h

theorem cs_step {n : Nat} (hB : Base mg mb base) (hE : ES prog w base Φ k n) : CS prog w base Φ k (n + 1) := by
  intro env ρ l op r c h
  simp only [cmpE] at h
  split at h
  · cases h
  · rename_i hm
    simp only [Bool.not_eq_true] at hm
    refine ⟨hm, fun OP O A s Q E C hQ => ?_⟩
    cases ht : typeArg? env.kindOf l with
    | none =>
      rw [ht] at h
      simp only [Option.bind_eq_some_iff] at h
      obtain ⟨a, ha, b, hb, h⟩ := h
      refine hE env ρ true l a ha OP O A s _ E C fun va s₁ g₁ r₁ => ?_
      refine hE env ρ true r b hb OP O A s₁ _ E (C.go g₁) fun vb s₂ g₂ r₂ => ?_
      exact cmp_sound C.at_ (RdT.ext g₂.ext r₁) r₂ h fun s' g' => hQ _ ((g₁.trans g₂).trans g')
    | some e =>
      rw [ht] at h
      dsimp only at h
      split at h
      · rename_i hbn
        simp only [Option.bind_eq_some_iff] at h
        obtain ⟨d, hd, h⟩ := h
        split at h
        · rename_i hib
          cases d with
          | bool b =>
            unfold typeArg? at ht
            split at ht
            · rename_i f np e' pos
              split at ht
              · rename_i hf
                cases ht
                obtain ⟨rfl, hk⟩ := isGlob_eq hf
                unfold isBoolName at hbn
                split at hbn
                · rename_i x xp
                  obtain ⟨rfl, hk2⟩ := isGlob_eq hbn
                  refine wpAny_Call_NameR (blt_sound hB C.en C.base hk (v := .type "type") (by decide +kernel) ?_)
                  have hds : mapO (evalE Φ n env.kindOf ρ true) [e] = some [PyData.bool b] := by simp [mapO, hd]
                  have hmf := mapO_mapF _ true _ _ hds
                  refine PyProof.Rows.callWith_type (args_plain _ _ _ hmf) (evalArgs_sound hE hmf C fun vs s₁ g₁ r₁ => ?_)
                  cases r₁ with
                  | cons x rr =>
                    cases rr
                    obtain rfl := RdT.bool_inv x
                    refine call_type_of (Tx := "bool") (s := s₁) rfl (by decide +kernel) ?_
                    refine blt_sound hB C.en (C.base.trans g₁.ext) hk2 (v := .type "bool") (by decide +kernel) ?_
                    cases op with
                    | Is => simp only [Option.some.injEq] at h; subst h; exact wpAny_is_plain rfl (hQ _ g₁)
                    | IsNot => simp only [Option.some.injEq] at h; subst h; exact wpAny_isNot_plain rfl (hQ _ g₁)
                    | _ => simp at h
                · cases hbn
              · cases ht
            · cases ht
          | _ => simp [isBoolD] at hib
        · cases h
      · cases h

theorem ts_step {n : Nat} (hE : ES prog w base Φ k n) (hT : TS prog w base Φ k n) (hC : CS prog w base Φ k n) : TS prog w base Φ k (n + 1) := by
  intro env ρ e c h OP O A s Q E C hQ
  have value : (evalE Φ n env.kindOf ρ true e).bind asBool = some c → isTrue e env (eval e env) = (do let v ← eval e env; standAt e.pos; holding [v] (truthy v)) → wpAny (model prog w) A (isTrue e env (eval e env)) Q E s := by
    intro h he
    simp only [Option.bind_eq_some_iff] at h
    obtain ⟨d, hd, h⟩ := h
    refine wpAny_isTrue_value (hE env ρ true e d hd OP O A s _ E C fun v s' g r => ?_) he
    cases d with
    | bool b =>
      simp only [asBool, Option.some.injEq] at h; subst h
      obtain rfl := RdT.bool_inv r
      exact wpAny_truthy_bool (hQ _ g)
    | _ => simp [asBool] at h
  have all : ∀ (op : BoolOp) (vs : List Expr) (c : Bool), allGo (testE Φ n env.kindOf ρ) op vs = some c → ∀ (s : Shared) (Q : Bool → Shared → Prop), Cx base k env ρ OP O A s → (∀ s', Go s s' → Q c s') → wpAny (model prog w) A (allTrue op vs env) Q E s := by
    intro op vs
    induction vs with
    | nil =>
      intro c h s Q C hQ
      simp only [allGo, Option.some.injEq] at h; subst h
      cases op
      · exact wpAny_allTrue_And_nil (hQ _ (Go.refl _))
      · exact wpAny_allTrue_Or_nil (hQ _ (Go.refl _))
    | cons e vs ih =>
      intro c h s Q C hQ
      simp only [allGo, Option.bind_eq_some_iff] at h
      obtain ⟨b, hb, h⟩ := h
      cases op with
      | And =>
        refine wpAny_allTrue_And_cons (hT env ρ e b hb OP O A s _ E C fun s₁ g₁ => ?_)
        cases b with
        | false => simp only [Option.some.injEq] at h; subst h; exact hQ _ g₁
        | true => exact ih c h s₁ Q (C.go g₁) fun s₂ g₂ => hQ _ (g₁.trans g₂)
      | Or =>
        refine wpAny_allTrue_Or_cons (hT env ρ e b hb OP O A s _ E C fun s₁ g₁ => ?_)
        cases b with
        | true => simp only [Option.some.injEq] at h; subst h; exact hQ _ g₁
        | false => exact ih c h s₁ Q (C.go g₁) fun s₂ g₂ => hQ _ (g₁.trans g₂)
  cases e with
  | UnaryOp op x pos =>
    cases op with
    | Not =>
      simp only [testE] at h
      cases hx : testE Φ n env.kindOf ρ x with
      | none => rw [hx] at h; cases h
      | some b =>
        rw [hx] at h; cases h
        exact wpAny_isTrue_Not (hT env ρ x b hx OP O A s _ E C fun s' g => hQ _ g)
    | _ => exact value (by simp only [testE] at h; exact h) rfl
  | BoolOp op vs pos =>
    simp only [testE] at h
    exact wpAny_isTrue_BoolOp (all op vs c h s Q C hQ)
  | IfExp => simp [testE] at h
  | Compare l ops rs pos =>
    simp only [testE] at h
    split at h
    · rename_i op r
      obtain ⟨hm, hc⟩ := hC env ρ l op r c h
      refine wpAny_isTrue_Compare1 ?_ hm
      exact hc OP O A s (fun c' s₃ => wpAny (model prog w) A (truthy c') Q E s₃) E C fun s' g => wpAny_truthy_bool (hQ _ g)
    · cases h
  | _ => exact value (by simp only [testE] at h; exact h) rfl
end
end Mine
set_option autoImplicit false
namespace Mine
open PySem PySem.Spec PySem.Calls PyProof.Rows

section
variable {prog : Program} {w : World} {mg mb : Str → Option Value} {base : Heap} {Φ : Fns} {k : Nat}

theorem biOf_none_of_tab {f : Str} {b : Bi} (h : biOf f = some b) : ∃ v, biTab.lookup f = some v := by
  unfold biOf at h
  simp only [List.lookup_cons, List.lookup_nil] at h
  unfold biTab
  simp only [List.lookup_cons, List.lookup_nil]
  repeat' split at h
  all_goals first
    | exact ⟨_, rfl⟩
    | cases h

theorem seq_new {s : Shared} {OP : List Addr} (ex : ∀ a ∈ OP, ∃ o, s.heap.get? a = some o) : s.heap.objs.size ∉ OP := fun hm => by
  obtain ⟨o, ho⟩ := ex _ hm; exact Nat.lt_irrefl _ (Heap.lt_size ho)

set_option maxHeartbeats 1000000 in
theorem es_step {n : Nat} (hB : Base mg mb base) (hF : FnsOk prog w mg base Φ k) (hE : ES prog w base Φ k n) (hT : TS prog w base Φ k n) (hC : CS prog w base Φ k n) (hP : PS prog w base Φ k n) (hI : IS prog w base Φ k n) : ES prog w base Φ k (n + 1) := by
  intro env ρ rd e d h OP O A s Q E C hQ
  cases e with
  | Constant c kk pos =>
    simp only [evalE] at h
    cases c with
    | none => simp only [constD, Option.some.injEq] at h; subst h; exact wpAny_Constant_none (hQ _ _ (Go.refl _) (.of .none))
    | bool b => simp only [constD, Option.some.injEq] at h; subst h; exact wpAny_Constant_bool (hQ _ _ (Go.refl _) (.of (.bool _)))
    | int i => simp only [constD, Option.some.injEq] at h; subst h; exact wpAny_Constant_int (hQ _ _ (Go.toks _ _) (.of (.int _ _)))
    | str x =>
      simp only [constD] at h
      split at h
      · rename_i hx; cases h; exact wpAny_Constant_str (hQ _ _ (Go.toks _ _) (.of (.str _ _ hx)))
      · cases h
    | _ => simp [constD] at h
  | Name x pos =>
    simp only [evalE, nameD, Option.bind_eq_some_iff] at h
    obtain ⟨b, hb, h⟩ := h
    split at h
    · rename_i hc
      cases h
      simp only [Bool.and_eq_true, Bool.or_eq_true, Bool.not_eq_true', beq_iff_eq] at hc
      obtain ⟨v, hv, hbo⟩ := C.vars x b hb
      refine wpAny_Name (load_sound C.en hv (hQ _ _ (Go.refl _) ?_)) hc.2
      cases rd with
      | true => exact hbo.top
      | false =>
        have hm : b.m = .val := by rcases hc.1 with h | h; cases h; exact h
        unfold BOk at hbo
        rw [hm] at hbo; exact hbo
    · cases h
  | Tuple es kk pos =>
    simp only [evalE, Option.bind_eq_some_iff] at h
    obtain ⟨ds, hds, h⟩ := h
    split at h
    · rename_i hsz
      cases h
      refine wpAny_Tuple (args_sound hE es _ ds (mapO_mapF _ false _ _ hds) s _ C fun vs s₁ g₁ r₁ => ?_)
      have r2 := r₁.all
      have hl := r2.length
      refine ⟨by omega, hQ _ _ (g₁.trans (Go.heap _ (Ext.push _ _))) (.of (.tuple (vs := vs.toArray) (seq_new (C.go g₁).ex) ⟨_, Heap.get?_push_size _ rfl, rfl, _, rfl⟩ (by simpa using r2.ext (Ext.push _ _))))⟩
    · cases h
  | List es pos =>
    simp only [evalE, Option.bind_eq_some_iff] at h
    obtain ⟨ds, hds, h⟩ := h
    split at h
    · rename_i hsz
      cases h
      refine wpAny_List (args_sound hE es _ ds (mapO_mapF _ false _ _ hds) s _ C fun vs s₁ g₁ r₁ => ?_)
      have r2 := r₁.all
      have hl := r2.length
      refine ⟨by omega, hQ _ _ (g₁.trans (Go.heap _ (Ext.push _ _))) (.of (.list (vs := vs.toArray) (seq_new (C.go g₁).ex) ⟨_, Heap.get?_push_size _ rfl, rfl, _, rfl⟩ (by simpa using r2.ext (Ext.push _ _))))⟩
    · cases h
  | Dict ks vs pos =>
    simp only [evalE] at h
    split at h
    · cases h
      refine wpAny_Dict_empty (hQ _ _ (Go.heap _ (Ext.push _ _)) (.of (.dict (kvs := []) (xs := []) (seq_new C.ex) ⟨?_, fun prog w => ⟨_, _, _, Heap.get?_push_size _ rfl, ⟨rfl, rfl, rfl⟩, rfl, fun e he => by simp at he, by constructor, by simp⟩⟩ .nil rfl)))
      refine beq_eq_false_iff_ne.mpr (Nat.ne_of_gt ?_)
      obtain ⟨o, es, ep, ho, _⟩ := hB.g.keeps C.base
      exact Nat.lt_trans (by decide) (Heap.lt_size ho)
    · cases h
  | BinOp l op r pos =>
    simp only [evalE, Option.bind_eq_some_iff] at h
    obtain ⟨a, ha, b, hb, h⟩ := h
    refine wpAny_BinOp (hE env ρ true l a ha OP O A s _ E C fun va s₁ g₁ r₁ => hE env ρ true r b hb OP O A s₁ _ E (C.go g₁) fun vb s₂ g₂ r₂ => ?_)
    exact bin_sound C.at_ (RdT.ext g₂.ext r₁) r₂ ((C.go g₁).go g₂).ex h fun v s' g' r' => hQ _ _ ((g₁.trans g₂).trans g') (.of r')
  | UnaryOp op x pos =>
    simp only [evalE, Option.bind_eq_some_iff] at h
    obtain ⟨a, ha, h⟩ := h
    exact wpAny_UnaryOp (hE env ρ true x a ha OP O A s _ E C fun va s₁ g₁ r₁ => un_sound r₁ h fun v s' g' r' => hQ _ _ (g₁.trans g') (.of r'))
  | Compare l ops rs pos =>
    simp only [evalE] at h
    split at h
    · rename_i op r
      simp only [Option.map_eq_some_iff] at h
      obtain ⟨c, hc, rfl⟩ := h
      obtain ⟨hm, hcs⟩ := hC env ρ l op r c hc
      exact wpAny_Compare1 (hcs OP O A s Q E C fun s' g => hQ _ _ g (.of (.bool _))) hm
    · cases h
  | BoolOp op vs pos =>
    simp only [evalE] at h
    have all : ∀ (vs : List Expr) (d : PyData), boolGo (evalE Φ n env.kindOf ρ rd) op vs = some d → ∀ (s : Shared), Cx base k env ρ OP O A s → ∀ Q : Value → Shared → Prop, (∀ v s', Go s s' → RdX rd s'.heap OP v d → Q v s') → wpAny (model prog w) A (boolOp pos op (evalEach vs env)) Q E s := by
      intro vs
      induction vs with
      | nil => intro d h; simp [boolGo] at h
      | cons x rest ih =>
        intro d h s C Q hQ
        cases rest with
        | nil =>
          simp only [boolGo] at h
          exact hE env ρ rd x d h OP O A s Q E C hQ
        | cons y rest =>
          simp only [boolGo, Option.bind_eq_some_iff] at h
          obtain ⟨a, ha, h⟩ := h
          show wpAny _ _ (do
            let v ← eval x env
            standAt pos
            let t ← holding [v] (truthy v)
            match op, t with
            | .And, false | .Or, true => pure v
            | _, _ => boolOp pos op (evalEach (y :: rest) env)) Q E s
          refine wpAny_bind (hE env ρ rd x a ha OP O A s _ E C fun v s₁ g₁ r₁ => wpAny_bind (wpAny_standAt (wpAny_bind (wpAny_holding ?_))))
          cases a with
          | bool b =>
            obtain rfl := RdT.bool_inv r₁.top
            refine wpAny_truthy_bool ?_
            cases op with
            | And =>
              cases b with
              | false => simp only [Option.some.injEq] at h; subst h; exact wpAny_pure (hQ _ _ g₁ r₁)
              | true => exact ih d h s₁ (C.go g₁) Q fun v s' g r => hQ _ _ (g₁.trans g) r
            | Or =>
              cases b with
              | true => simp only [Option.some.injEq] at h; subst h; exact wpAny_pure (hQ _ _ g₁ r₁)
              | false => exact ih d h s₁ (C.go g₁) Q fun v s' g r => hQ _ _ (g₁.trans g) r
          | _ => simp at h
    show wpAny _ _ (boolOp pos op (evalEach vs env)) Q E s
    exact all vs d h s C Q hQ
  | IfExp t b o pos =>
    simp only [evalE, Option.bind_eq_some_iff] at h
    obtain ⟨c, hc, h⟩ := h
    refine wpAny_IfExp (hT env ρ t c hc OP O A s _ E C fun s₁ g₁ => ?_)
    cases c with
    | true => exact hE env ρ rd b d h OP O A s₁ Q E (C.go g₁) fun v s' g r => hQ _ _ (g₁.trans g) r
    | false => exact hE env ρ rd o d h OP O A s₁ Q E (C.go g₁) fun v s' g r => hQ _ _ (g₁.trans g) r
  | Subscript v i pos =>
    simp only [evalE, Option.bind_eq_some_iff] at h
    obtain ⟨a, ha, h⟩ := h
    have plain : (evalE Φ n env.kindOf ρ true i).bind (fun k => idxD a k) = some d → (∀ o j, subscripted i false o j = operate [o, j] (getItem o j)) → wpAny (model prog w) A (eval (.Subscript v i pos) env) Q E s := by
      intro h hs
      simp only [Option.bind_eq_some_iff] at h
      obtain ⟨b, hb, h⟩ := h
      refine Subscript_ (hE env ρ true v a ha OP O A s _ E C fun va s₁ g₁ r₁ => hE env ρ true i b hb OP O A s₁ _ E (C.go g₁) fun vb s₂ g₂ r₂ => ?_)
      exact idx_sound (RdT.ext g₂.ext r₁) r₂ h hs fun v s' g' r' => hQ _ _ ((g₁.trans g₂).trans g') (.of r')
    cases i with
    | Slice lo hi st sp =>
      dsimp only at h
      cases a with
      | list xs =>
        simp only [Option.bind_eq_some_iff] at h
        obtain ⟨l, hl, u, hu, q, hq, h⟩ := h
        split at h
        · rename_i hc
          cases h
          refine Subscript_ (hE env ρ true v _ ha OP O A s _ E C fun va s₁ g₁ r₁ => ?_)
          refine wpAny_Slice (hP env ρ lo l hl OP O A s₁ _ E (C.go g₁) fun vl s₂ g₂ p₂ => ?_)
          refine hP env ρ hi u hu OP O A s₂ _ E ((C.go g₁).go g₂) fun vu s₃ g₃ p₃ => ?_
          refine hP env ρ st q hq OP O A s₃ _ E (((C.go g₁).go g₂).go g₃) fun vt s₄ g₄ p₄ => ?_
          obtain ⟨ax, ws, rfl, hlx, hws⟩ := RdT.list_inv (RdT.ext (((g₂.trans g₃).trans g₄).ext.trans (Ext.push s₄.heap { cls := .type "slice", data := .fields #[vl, vu, vt] })) r₁)
          have hlen : ws.size = xs.length := by have := hws.length; simpa using this
          have gx : Go s { s₄ with heap := s₄.heap.push { cls := .type "slice", data := .fields #[vl, vu, vt] } } := (((g₁.trans g₂).trans g₃).trans g₄).trans (Go.heap _ (Ext.push _ _))
          have fin : ∀ ops, subscripted (.Slice lo hi st sp) false (.ref ax) (.ref s₄.heap.objs.size) = operate ops (getItem (.ref ax) (.ref s₄.heap.objs.size)) → wpAny (model prog w) A (subscriptTail v (.Slice lo hi st sp) (.ref ax) (.ref s₄.heap.objs.size)) Q E { s₄ with heap := s₄.heap.push { cls := .type "slice", data := .fields #[vl, vu, vt] } } := by
            intro ops hs
            refine tail_any hlx.typeIs slot_list_getitem.lookup (wpAny_getItem_list_slice hlx (Heap.IsSliceOf.new _ _ _ _) p₂ p₃ p₄ hc.1 ?_ (by rw [hlen]; exact hc.2)) hs
            refine hQ _ _ (gx.trans (Go.heap _ (Ext.push _ _))) (.of (.list (vs := slicePick ws l u q) (seq_new (C.go gx).ex) ⟨_, Heap.get?_push_size _ rfl, rfl, _, rfl⟩ ?_))
            have e1 : (slicePick ws l u q).toList = (sliceRange (sliceBounds l u q xs.length).1 (sliceBounds l u q xs.length).2.1 (sliceBounds l u q xs.length).2.2).filterMap fun j => ws.toList[j]? := by
              unfold slicePick; rw [hlen]; simp
            rw [e1]
            exact (hws.ext (Ext.push _ _)).pick _
          cases st with
          | none => exact fin _ rfl
          | some st => exact fin _ rfl
        · cases h
      | _ => simp at h
    | _ => exact plain (by simpa only using h) (fun _ _ => rfl)
  | Call f args kws pos =>
    simp only [evalE] at h
    split at h
    · rename_i g np
      split at h
      · rename_i hgk
        simp only [Bool.and_eq_true, beq_iff_eq, Bool.not_eq_true'] at hgk
        obtain ⟨hk, hdb⟩ := hgk
        split at h
        · rename_i hbi
          split at h
          · rename_i e t
            split at h
            · rename_i hbn
              simp only [Option.bind_eq_some_iff] at h
              obtain ⟨a, ha, h⟩ := h
              split at h
              · rename_i hib
                cases h
                obtain ⟨fv, hfv⟩ := biOf_none_of_tab hbi
                have hg : g = Str.ofString "isinstance" := by
                  unfold biOf at hbi
                  simp only [List.lookup_cons, List.lookup_nil] at hbi
                  repeat' split at hbi
                  all_goals (first | exact eq_of_beq (by assumption) | cases hbi)
                subst hg
                refine wpAny_Call_NameR (blt_sound hB C.en C.base hk (v := .builtin "isinstance") (by decide +kernel) ?_)
                cases a with
                | bool b =>
                  unfold isBoolName at hbn
                  split at hbn
                  · rename_i x xp
                    obtain ⟨rfl, hk2⟩ := isGlob_eq hbn
                    have hst : starEach [e, .Name (Str.ofString "bool") xp] env = (false, eval e env) :: starEach [.Name (Str.ofString "bool") xp] env := not_star ha _ _
                    refine callWith_builtin1 (args_cons (hE env ρ true e _ ha OP O A s _ E C fun v s₁ g₁ r₁ => ?_) hst) hst rfl
                    obtain rfl := RdT.bool_inv r₁
                    refine args_cons (blt_sound hB C.en (C.base.trans g₁.ext) hk2 (v := .type "bool") (by decide +kernel) ?_) rfl
                    refine args_nil ?_
                    exact call_isinstance_yes (Tx := "bool") (T := "bool") (s := s₁) rfl (by kernel_rfl) (by rw [isSubtype_type]; kernel_rfl) (hQ _ _ g₁ (.of (.bool _)))
                  · cases hbn
                | _ => simp [isBoolD] at hib
              · cases h
            · cases h
          · cases h
        · rename_i b hne hbi
          simp only [Option.bind_eq_some_iff] at h
          obtain ⟨ds, hds, h⟩ := h
          have hm := mapO_mapF _ true _ _ hds
          obtain ⟨fv, hfv⟩ := biOf_none_of_tab hbi
          refine wpAny_Call_NameR (blt_sound hB C.en C.base hk hfv ?_)
          have key : ∀ vs s₁, Go s s₁ → RdXs s₁.heap OP (List.replicate ds.length true) vs ds → wpAny (model prog w) A (call fv vs) Q E s₁ := by
            intro vs s₁ g₁ r₁
            obtain ⟨fv', x, hx1, hx2, hw⟩ := bi_sound (prog := prog) (w := w) (E := E) (k := k) C.at_ (by intro e; exact hne e) r₁ h fun v s' g' r' => hQ v s' (g₁.trans g') (.of r')
            have := hx2 g hbi
            subst this
            rw [hfv] at hx1; cases hx1
            exact hw
          cases fv with
          | builtin id => exact callWith_builtin (args_plain _ _ _ hm) (evalArgs_sound hE hm C key)
          | type T => exact PyProof.Rows.callWith_type (args_plain _ _ _ hm) (evalArgs_sound hE hm C key)
          | _ =>
            exfalso
            unfold biTab at hfv
            simp only [List.lookup_cons, List.lookup_nil] at hfv
            repeat' split at hfv
            all_goals cases hfv
        · split at h
          · rename_i fl F hΦ
            simp only [Option.bind_eq_some_iff] at h
            obtain ⟨ds, hds, h⟩ := h
            obtain ⟨a, o, fd, hmg, hoa, hod, hcall⟩ := hF _ _ _ hΦ
            refine wpAny_Call_NameR (glob_sound hB C.en C.base hk hdb hmg ?_)
            refine callWith_function (o := o) (fd := fd) (evalArgs_sound hE hds C fun vs s₁ g₁ r₁ => ⟨⟨(C.base.trans g₁.ext) _ _ hoa, hod⟩, ?_⟩)
            exact hcall A s₁ vs ds d OP Q E C.at_ (C.base.trans g₁.ext) (C.go g₁).ex r₁ h fun v s' g' r' => hQ _ _ (g₁.trans g') (.of r')
          · cases h
      · cases h
    · cases h
  | ListComp elt gens sc pos =>
    simp only [evalE] at h
    split at h
    · rename_i tgt iter ifs asy
      split at h
      · rename_i hc
        simp only [Bool.and_eq_true, beq_iff_eq] at hc
        obtain ⟨⟨rfl, hcs⟩, htg⟩ := hc
        simp only [Option.bind_eq_some_iff, Option.map_eq_some_iff] at h
        obtain ⟨xs, hxs, ys, hys, rfl⟩ := h
        rw [eval_ListComp]
        refine comp_sound (use := none) hE hT hI hcs htg hxs hys C fun D Cc s' g hD hCc hDC hr _ hn => ?_
        obtain ⟨m, hn⟩ := hn
        refine ⟨m, hn, fun h' hsb => hQ _ _ ⟨fun b o e => hsb.extBut b o (by rintro rfl; rw [hCc] at e; cases e) (g.ext _ _ e), g.os, g.gens⟩ (.of ?_)⟩
        refine hr.mono fun a o ha ho => ?_
        simp only [List.mem_cons, not_or] at ha
        exact ⟨ha.2, hsb.extBut a o ha.1 ho⟩
      · cases h
    · cases h
  | _ => simp [evalE] at h

theorem sound_all (hB : Base mg mb base) (hF : FnsOk prog w mg base Φ k) : ∀ n, ES prog w base Φ k n ∧ TS prog w base Φ k n ∧ CS prog w base Φ k n ∧ PS prog w base Φ k n ∧ IS prog w base Φ k n
  | 0 => ⟨fun _ _ _ _ _ h => by simp [evalE] at h, fun _ _ _ _ h => by simp [testE] at h, fun _ _ _ _ _ _ h => by simp [cmpE] at h, fun _ _ _ _ h => by simp [partE] at h, fun _ _ _ _ _ h => by simp [itemsE] at h⟩
  | n + 1 => by
    obtain ⟨hE, hT, hC, hP, hI⟩ := sound_all hB hF n
    exact ⟨es_step hB hF hE hT hC hP hI, ts_step hE hT hC, cs_step hB hE, ps_step hE, is_step hB hE⟩
end
end Mine
set_option autoImplicit false
namespace Mine
open PySem PySem.Spec PySem.Calls PyProof.Rows

structure Sx (base : Heap) (k : Nat) (env : Env) (X O P G : List Addr) (val : Str → Value) (ρ : Rho) (A : Around) (s : Shared) : Prop where
  en : EnvOk env
  at_ : At A k
  bas : Ext base s.heap
  hL : env.locals ∈ X
  hC : ∀ x c, env.cells.lookup x = some c → c ∈ X
  ex : ∀ a ∈ X ++ O ++ P, ∃ o, s.heap.get? a = some o
  loc : ∃ m, s.heap.Ns env.locals m
  cell : ∀ x c, env.cells.lookup x = some c → (∃ v, s.heap.IsCell c v) ∧ c ≠ env.locals
  inj : ∀ x y c, env.cells.lookup x = some c → env.cells.lookup y = some c → x = y
  fresh : ∀ a ∈ X ++ O, base.get? a = none
  disj : ∀ a ∈ X ++ O, a ∉ P
  disjO : ∀ a ∈ O, a ∉ X
  vars : ∀ x b, ρ.lookup x = some b → Var s.heap env x (val x) ∧ BOk s.heap (X ++ O ++ P) O b (val x)
  brw : ∀ x b, ρ.lookup x = some b → b.m = .brw → ∀ a, val x = .ref a → a ∉ X ++ O ++ G
  sep : ∀ x y bx b', x ≠ y → ρ.lookup x = some bx → bx.m = .own → ρ.lookup y = some b' → b'.m = .own → val x ≠ val y

structure Chg (W : List Addr) (s s' : Shared) : Prop where
  keep : ∀ b o, b ∉ W → s.heap.get? b = some o → s'.heap.get? b = some o
  os : s'.os = s.os
  gens : AllBare s.gens → AllBare s'.gens
theorem Chg.refl (W : List Addr) (s : Shared) : Chg W s s := ⟨fun _ _ _ e => e, rfl, fun h => h⟩
theorem Chg.of_go {W : List Addr} {s s' : Shared} (g : Go s s') : Chg W s s' := ⟨fun b o _ e => g.ext b o e, g.os, g.gens⟩
theorem Chg.trans {W W' : List Addr} {s s' s'' : Shared} (x : Chg W s s') (y : Chg W' s' s'') (h : ∀ a ∈ W', a ∈ W ∨ s.heap.get? a = none) : Chg W s s'' :=
  ⟨fun b o hb e => y.keep b o (fun hm => by rcases h b hm with h | h; exact hb h; rw [h] at e; cases e) (x.keep b o hb e), y.os.trans x.os, fun h => y.gens (x.gens h)⟩

section
variable {base : Heap} {k : Nat} {env : Env} {X O P G : List Addr} {val : Str → Value} {ρ : Rho} {A : Around} {s s' : Shared}
theorem Sx.cx (S : Sx base k env X O P G val ρ A s) : Cx base k env ρ (X ++ O ++ P) O A s := ⟨S.en, S.at_, S.bas, S.ex, fun x b h => ⟨_, S.vars x b h⟩⟩
theorem Sx.go (S : Sx base k env X O P G val ρ A s) (g : Go s s') : Sx base k env X O P G val ρ A s' where
  en := S.en
  at_ := S.at_
  bas := S.bas.trans g.ext
  hL := S.hL
  hC := S.hC
  ex := fun a ha => let ⟨o, ho⟩ := S.ex a ha; ⟨o, g.ext a o ho⟩
  loc := let ⟨m, h⟩ := S.loc; ⟨m, h.keeps g.ext⟩
  cell := fun x c h => let ⟨⟨v, q⟩, r⟩ := S.cell x c h; ⟨⟨v, q.keeps g.ext⟩, r⟩
  inj := S.inj
  fresh := S.fresh
  disj := S.disj
  disjO := S.disjO
  vars := fun x b h => ⟨(S.vars x b h).1.ext g.ext, (S.vars x b h).2.ext g.ext⟩
  brw := S.brw
  sep := S.sep

/-- a change of the heap inside the frame's own addresses leaves every reading as it was -/
theorem BOk.chg {h h' : Heap} {OP O : List Addr} {b : Bd} {v : Value} {W : List Addr} (hW : ∀ a ∈ W, a ∈ OP) (hk : ∀ a o, a ∉ W → h.get? a = some o → h'.get? a = some o)
    (hv : b.m ≠ .val → ∀ a, v = .ref a → a ∉ W) (x : BOk h OP O b v) : BOk h' OP O b v := by
  have hm : ∀ a o, a ∉ OP → h.get? a = some o → a ∉ OP ∧ h'.get? a = some o := fun a o ha ho => ⟨ha, hk a o (fun hm => ha (hW a hm)) ho⟩
  obtain ⟨m, d⟩ := b
  cases m with
  | val => exact Rd.mono hm x
  | brw =>
    have hv2 := hv (by intro e; cases e)
    cases x with
    | of x => exact .of (x.mono hm)
    | list hl r => obtain ⟨o, ho, q⟩ := hl; exact .list ⟨o, hk _ o (hv2 _ rfl) ho, q⟩ (r.mono hm)
    | dict hd r e =>
      refine .dict ⟨hd.1, fun p w => ?_⟩ (r.mono hm) e
      obtain ⟨o, es, ep, ho, q⟩ := hd.2 p w
      exact ⟨o, es, ep, hk _ o (hv2 _ rfl) ho, q⟩
  | own =>
    have hv2 := hv (by intro e; cases e)
    obtain ⟨a, rfl, h2, h3⟩ := x
    refine ⟨a, rfl, h2, ?_⟩
    cases h3 with
    | list p r => obtain ⟨o, n, ho, q⟩ := p; exact .list ⟨o, n, hk _ o (hv2 _ rfl) ho, q⟩ (r.mono hm)
    | dict hd r e =>
      refine .dict ⟨hd.1, fun p w => ?_⟩ (r.mono hm) e
      obtain ⟨o, es, ep, ho, q⟩ := hd.2 p w
      exact ⟨o, es, ep, hk _ o (hv2 _ rfl) ho, q⟩

theorem Sx.own_ref (S : Sx base k env X O P G val ρ A s) {x : Str} {b : Bd} (h : ρ.lookup x = some b) (hm : b.m = .own) : ∃ a, val x = .ref a ∧ a ∈ O ∧ OwnT s.heap (X ++ O ++ P) a b.d := by
  have q := (S.vars x b h).2
  unfold BOk at q
  rw [hm] at q; exact q
theorem Sx.not_val (S : Sx base k env X O P G val ρ A s) {x : Str} {b : Bd} (h : ρ.lookup x = some b) (hm : b.m ≠ .val) : ∀ a, val x = .ref a → a ∉ X := by
  intro a ha hX
  cases hb : b.m with
  | val => exact hm hb
  | brw => exact S.brw x b h hb a ha (by simp [hX])
  | own =>
    obtain ⟨a', h1, h2, _⟩ := S.own_ref h hb
    rw [h1] at ha; cases ha
    exact S.disjO _ h2 hX

theorem locals_mem (S : Sx base k env X O P G val ρ A s) : env.locals ∈ X := S.hL
theorem cell_mem (S : Sx base k env X O P G val ρ A s) {x : Str} {c : Addr} (h : env.cells.lookup x = some c) : c ∈ X := S.hC x c h

/-- storing a name of the frame: x gets the value v, bound as b -/
theorem store_sound {prog : Program} {w : World} {x : Str} {v : Value} {b : Bd} {O' : List Addr} {E : Value → Shared → Prop} {Q : Unit → Shared → Prop}
    (S : Sx base k env X O P G val ρ A s) (hk : env.kindOf x = some .local ∨ env.kindOf x = some .cell)
    (hO : ∀ a ∈ O, a ∈ O') (hO' : ∀ a ∈ O', a ∈ O ∨ (a ∉ X ++ O ++ P ∧ base.get? a = none ∧ ∃ o, s.heap.get? a = some o))
    (hold : ∀ y b', ρ.lookup y = some b' → BOk s.heap (X ++ O' ++ P) O' b' (val y) ∧ (b'.m = .brw → ∀ a, val y = .ref a → a ∉ X ++ O' ++ G) ∧ (b.m = .own → b'.m = .own → v ≠ val y))
    (hnew : BOk s.heap (X ++ O' ++ P) O' b v) (hbrw : b.m ≠ .brw)
    (hQ : ∀ s', Chg X s s' → Sx base k env X O' P G (fun y => if y = x then v else val y) (setR ρ x b) A s' → Q () s') :
    wpAny (model prog w) A (storeName env x v) Q E s := by
  have hvX : b.m ≠ .val → ∀ a, v = .ref a → a ∉ X := by
    intro hm a ha hXa
    cases hb : b.m with
    | val => exact hm hb
    | brw => exact hbrw hb
    | own =>
      unfold BOk at hnew
      rw [hb] at hnew
      obtain ⟨a', h1, h2, _⟩ := hnew
      rw [h1] at ha; cases ha
      rcases hO' _ h2 with h | h
      · exact S.disjO _ h hXa
      · exact h.1 (List.mem_append.mpr (.inl (List.mem_append.mpr (.inl hXa))))
  -- the common part: a heap h' that differs from s.heap at one address c ∈ X
  have key : ∀ (s' : Shared) (c : Addr), c ∈ X → (∀ a o, a ≠ c → s.heap.get? a = some o → s'.heap.get? a = some o) → (∃ o, s'.heap.get? c = some o) → s'.os = s.os → (AllBare s.gens → AllBare s'.gens) →
      (∃ m, s'.heap.Ns env.locals m) → (∀ y c', env.cells.lookup y = some c' → ∃ u, s'.heap.IsCell c' u) → Var s'.heap env x v → (∀ y u, y ≠ x → Var s.heap env y u → Var s'.heap env y u) → Q () s' := by
    intro s' c hc hkeep hcx hos hgen hloc hcell hvar hvars
    have hXc : ∀ a ∈ [c], a ∈ X := fun a ha => by rw [List.mem_singleton.mp ha]; exact hc
    have hsub : ∀ a ∈ [c], a ∈ X ++ O' ++ P := fun a ha => List.mem_append.mpr (.inl (List.mem_append.mpr (.inl (hXc a ha))))
    have hk1 : ∀ a o, a ∉ [c] → s.heap.get? a = some o → s'.heap.get? a = some o := fun a o ha ho => hkeep a o (by simpa using ha) ho
    refine hQ s' ⟨fun a o ha ho => hkeep a o (fun e => ha (e ▸ hc)) ho, hos, hgen⟩ ⟨S.en, S.at_, ?_, S.hL, S.hC, ?_, hloc, fun y c' hy => ⟨hcell y c' hy, (S.cell y c' hy).2⟩, S.inj, ?_, ?_, ?_, ?_, ?_, ?_⟩
    · intro a o ho
      refine hkeep a o (fun e => ?_) (S.bas a o ho)
      have := S.fresh c (List.mem_append.mpr (.inl hc))
      rw [← e] at this; rw [this] at ho; cases ho
    · intro a ha
      have hex : ∃ o, s.heap.get? a = some o := by
        simp only [List.mem_append] at ha
        rcases ha with (ha | ha) | ha
        · exact S.ex a (by simp [ha])
        · rcases hO' a ha with h | h
          · exact S.ex a (by simp [h])
          · exact h.2.2
        · exact S.ex a (by simp [ha])
      by_cases hac : a = c
      · rw [hac]; exact hcx
      · obtain ⟨o, ho⟩ := hex; exact ⟨o, hkeep a o hac ho⟩
    · intro a ha
      simp only [List.mem_append] at ha
      rcases ha with ha | ha
      · exact S.fresh a (by simp [ha])
      · rcases hO' a ha with h | h
        · exact S.fresh a (by simp [h])
        · exact h.2.1
    · intro a ha
      simp only [List.mem_append] at ha
      rcases ha with ha | ha
      · exact S.disj a (by simp [ha])
      · rcases hO' a ha with h | h
        · exact S.disj a (by simp [h])
        · exact fun hp => h.1 (by simp [hp])
    · intro a ha
      rcases hO' a ha with h | h
      · exact S.disjO a h
      · exact fun hx => h.1 (by simp [hx])
    · intro y b' hy
      rw [setR_lookup] at hy
      split at hy
      · rename_i e; subst e; cases hy
        simp only [if_true]
        exact ⟨hvar, hnew.chg hsub hk1 fun hm a ha => by simp only [List.mem_singleton]; intro e; exact hvX hm a ha (e ▸ hc)⟩
      · rename_i e
        simp only [e, if_false]
        refine ⟨hvars y _ e (S.vars y b' hy).1, (hold y b' hy).1.chg hsub hk1 fun hm a ha => ?_⟩
        simp only [List.mem_singleton]; intro e'
        exact S.not_val hy hm a ha (e' ▸ hc)
    · intro y b' hy hm a ha
      rw [setR_lookup] at hy
      split at hy
      · cases hy; exact absurd hm hbrw
      · rename_i e
        simp only [e, if_false] at ha
        exact (hold y b' hy).2.1 hm a ha
    · intro y z by_ bz hne hy hmy hz hmz
      rw [setR_lookup] at hy hz
      by_cases e1 : y = x
      · have e2 : z ≠ x := fun e => hne (e1.trans e.symm)
        rw [if_pos e1] at hy; rw [if_neg e2] at hz
        cases hy
        simp only [e1, if_true, e2, if_false]
        exact (hold z bz hz).2.2 hmy hmz
      · rw [if_neg e1] at hy
        by_cases e2 : z = x
        · rw [if_pos e2] at hz
          cases hz
          simp only [e1, if_false, e2, if_true]
          exact ((hold y by_ hy).2.2 hmz hmy).symm
        · rw [if_neg e2] at hz
          simp only [e1, e2, if_false]
          exact S.sep y z by_ bz hne hy hmy hz hmz
  rcases hk with hk | hk
  · obtain ⟨m, hm⟩ := S.loc
    refine wpAny_storeName_local hk hm (fun h' hn hsb => ?_) (by rw [S.en.kind]; rfl)
    have hns : ∃ o, h'.get? env.locals = some o := by obtain ⟨o, _, _, e, _⟩ := hn; exact ⟨o, e⟩
    refine key { s with heap := h', toks := s.toks + 1 } env.locals (locals_mem S) (fun a o ha ho => hsb.extBut a o ha ho) hns rfl (fun h => h) ⟨_, hn⟩ (fun y c' hy => ?_) (.inl ⟨hk, _, hn, by simp⟩) (fun y u hyx hv => ?_)
    · obtain ⟨⟨u, hu⟩, hne⟩ := S.cell y c' hy
      exact ⟨u, hu.sameBut hsb hne⟩
    · rcases hv with ⟨a, m', b, c⟩ | ⟨a, c, b, d⟩ | ⟨a, q, c, b, d⟩
      · have : m' y = m y := by
          obtain ⟨o1, e1, p1, h1, h2, _, h3⟩ := b
          obtain ⟨o2, e2, p2, h4, h5, _, h6⟩ := hm
          rw [h1] at h4; cases h4
          rw [h2] at h5; cases h5
          rw [← h3, ← h6]
        exact .inl ⟨a, _, hn, by simp only [hyx, if_false]; rw [← this]; exact c⟩
      · exact .inr (.inl ⟨a, c, b, d.sameBut hsb (S.cell y c b).2⟩)
      · exact .inr (.inr ⟨a, q, c, b, d.sameBut hsb (S.cell y c b).2⟩)
  · have hc := S.en.cells x (.inl hk)
    cases hcx : env.cells.lookup x with
    | none => rw [hcx] at hc; cases hc
    | some c =>
      obtain ⟨⟨u, hu⟩, hne⟩ := S.cell x c hcx
      refine wpAny_storeName_cell S.en.kind hk hcx hu fun h' hic hsb => ?_
      have hcx' : ∃ o, h'.get? c = some o := by obtain ⟨o, e, _⟩ := hic; exact ⟨o, e⟩
      refine key { s with heap := h' } c (cell_mem S hcx) (fun a o ha ho => hsb.extBut a o ha ho) hcx' rfl (fun h => h) ?_ (fun y c' hy => ?_) (.inr (.inl ⟨hk, c, hcx, hic⟩)) (fun y u hyx hv => ?_)
      · obtain ⟨m, hm⟩ := S.loc; exact ⟨m, hm.sameBut hsb hne.symm⟩
      · by_cases e : c' = c
        · rw [e]; exact ⟨_, hic⟩
        · obtain ⟨⟨u, hu⟩, _⟩ := S.cell y c' hy; exact ⟨u, hu.sameBut hsb e⟩
      · rcases hv with ⟨a, m', b, c1⟩ | ⟨a, c1, b, d⟩ | ⟨a, q, c1, b, d⟩
        · exact .inl ⟨a, m', b.sameBut hsb hne.symm, c1⟩
        · exact .inr (.inl ⟨a, c1, b, d.sameBut hsb fun e => hyx (S.inj y x c (e ▸ b) hcx)⟩)
        · exact .inr (.inr ⟨a, q, c1, b, d.sameBut hsb fun e => hyx (S.inj y x c (e ▸ b) hcx)⟩)
end
end Mine
set_option autoImplicit false
namespace Mine
open PySem PySem.Spec PySem.Calls PyProof.Rows

def Post (base : Heap) (k : Nat) (env : Env) (X P G : List Addr) (A : Around) (O : List Addr) (s : Shared) (fl : Fl) (ρ' : Rho) (f : Flow) (s' : Shared) : Prop :=
  Chg (X ++ O) s s' ∧ match fl with
    | .next => f = .next ∧ ∃ O' val', Sx base k env X O' P G val' ρ' A s' ∧ ∀ a ∈ O', a ∈ O ∨ s.heap.get? a = none
    | .cont => f = .cont ∧ ∃ O' val', Sx base k env X O' P G val' ρ' A s' ∧ ∀ a ∈ O', a ∈ O ∨ s.heap.get? a = none
    | .brk => f = .brk ∧ ∃ O' val', Sx base k env X O' P G val' ρ' A s' ∧ ∀ a ∈ O', a ∈ O ∨ s.heap.get? a = none
    | .ret d => ∃ v, f = .ret v ∧ Rd s'.heap P v d

theorem chg_next {X O O' : List Addr} {s s₁ s₂ : Shared} (c : Chg (X ++ O) s s₁) (hO : ∀ a ∈ O', a ∈ O ∨ s.heap.get? a = none) (c' : Chg (X ++ O') s₁ s₂) : Chg (X ++ O) s s₂ :=
  c.trans c' fun a ha => by
    rcases List.mem_append.mp ha with h | h
    · exact .inl (List.mem_append.mpr (.inl h))
    · exact (hO a h).imp (fun h => List.mem_append.mpr (.inr h)) id
theorem own_next {X O O' O'' : List Addr} {s s₁ : Shared} (c : Chg (X ++ O) s s₁) (hX : ∀ a ∈ O'', a ∉ X) (hO : ∀ a ∈ O', a ∈ O ∨ s.heap.get? a = none) (hO' : ∀ a ∈ O'', a ∈ O' ∨ s₁.heap.get? a = none) : ∀ a ∈ O'', a ∈ O ∨ s.heap.get? a = none := fun a ha => by
  rcases hO' a ha with h | h
  · exact hO a h
  · by_cases hao : a ∈ O
    · exact .inl hao
    · refine .inr ?_
      cases e : s.heap.get? a with
      | none => rfl
      | some o =>
        have := c.keep a o (by rw [List.mem_append]; rintro (q | q); exact hX a ha q; exact hao q) e
        rw [h] at this; cases this
theorem Post.trans {base : Heap} {k : Nat} {env : Env} {X P G : List Addr} {A : Around} {O O' : List Addr} {s s₁ s₂ : Shared} {fl : Fl} {ρ' : Rho} {f : Flow} (c : Chg (X ++ O) s s₁) (hO : ∀ a ∈ O', a ∈ O ∨ s.heap.get? a = none)
    (p : Post base k env X P G A O' s₁ fl ρ' f s₂) : Post base k env X P G A O s fl ρ' f s₂ := by
  obtain ⟨c', p⟩ := p
  refine ⟨chg_next c hO c', ?_⟩
  cases fl with
  | ret d => exact p
  | next => obtain ⟨h1, O2, v2, S2, h2⟩ := p; exact ⟨h1, O2, v2, S2, own_next c S2.disjO hO h2⟩
  | cont => obtain ⟨h1, O2, v2, S2, h2⟩ := p; exact ⟨h1, O2, v2, S2, own_next c S2.disjO hO h2⟩
  | brk => obtain ⟨h1, O2, v2, S2, h2⟩ := p; exact ⟨h1, O2, v2, S2, own_next c S2.disjO hO h2⟩

def XS (prog : Program) (w : World) (base : Heap) (Φ : Fns) (k wf n : Nat) : Prop := ∀ (env : Env) (ρ : Rho) (st : Stmt) (fl : Fl) (ρ' : Rho), execS Φ wf n env.kindOf ρ st = some (fl, ρ') →
  ∀ (X O P G : List Addr) (val : Str → Value) (A : Around) (s : Shared) (E : Value → Shared → Prop), Sx base k env X O P G val ρ A s → wpAny (model prog w) A (exec st env) (Post base k env X P G A O s fl ρ') E s

section
variable {prog : Program} {w : World} {mg mb : Str → Option Value} {base : Heap} {Φ : Fns} {k wf : Nat}

theorem seq_sound {n : Nat} (hX : XS prog w base Φ k wf n) {env : Env} {X P G : List Addr} {A : Around} {E : Value → Shared → Prop} : ∀ (sts : List Stmt) (ρ : Rho) (fl : Fl) (ρ' : Rho), seqGo (execS Φ wf n env.kindOf) ρ sts = some (fl, ρ') →
    ∀ (O : List Addr) (val : Str → Value) (s : Shared), Sx base k env X O P G val ρ A s → wpAny (model prog w) A (execs sts env) (Post base k env X P G A O s fl ρ') E s
  | [], ρ, fl, ρ', h, O, val, s, S => by
    simp only [seqGo, Option.some.injEq, Prod.mk.injEq] at h
    obtain ⟨rfl, rfl⟩ := h
    exact wpAny_execs_nil ⟨.refl _ _, rfl, O, val, S, fun a h => .inl h⟩
  | st :: r, ρ, fl, ρ', h, O, val, s, S => by
    simp only [seqGo, Option.bind_eq_some_iff] at h
    obtain ⟨⟨f1, ρ1⟩, h1, h⟩ := h
    refine wpAny_execs_cons (wpAny_mono (hX env ρ st f1 ρ1 h1 X O P G val A s E S) (fun f s₁ p => ?_) fun _ _ e => e)
    obtain ⟨c, p⟩ := p
    cases f1 with
    | next =>
      obtain ⟨rfl, O1, v1, S1, hO1⟩ := p
      exact wpAny_mono (seq_sound hX r ρ1 fl ρ' h O1 v1 s₁ S1) (fun f s₂ q => q.trans c hO1) fun _ _ e => e
    | cont =>
      simp only [Option.some.injEq, Prod.mk.injEq] at h
      obtain ⟨rfl, rfl⟩ := h
      obtain ⟨hf, p⟩ := p
      subst hf
      exact ⟨c, rfl, p⟩
    | brk =>
      simp only [Option.some.injEq, Prod.mk.injEq] at h
      obtain ⟨rfl, rfl⟩ := h
      obtain ⟨hf, p⟩ := p
      subst hf
      exact ⟨c, rfl, p⟩
    | ret d =>
      simp only [Option.some.injEq, Prod.mk.injEq] at h
      obtain ⟨rfl, rfl⟩ := h
      obtain ⟨v, hf, p⟩ := p
      subst hf
      exact ⟨c, v, rfl, p⟩

/-- a new list or dict, not yet held by anything -/
theorem fresh_sound {n : Nat} (hB : Base mg mb base) (hE : ES prog w base Φ k n) {env : Env} {ρ : Rho} {e : Expr} {d : PyData} (h : evalE Φ (n + 1) env.kindOf ρ false e = some d) (hf : isFresh e d = .own) {OP O : List Addr} {A : Around} {s : Shared} {Q E : Value → Shared → Prop}
    (C : Cx base k env ρ OP O A s) (hQ : ∀ a s', Go s s' → s.heap.get? a = none → OwnT s'.heap (a :: OP) a d → Q (.ref a) s') : wpAny (model prog w) A (eval e env) Q E s := by
  have hnew : ∀ s₁, Go s s₁ → s.heap.get? s₁.heap.objs.size = none := fun s₁ g => by
    cases e : s.heap.get? s₁.heap.objs.size with
    | none => rfl
    | some o => exact absurd (Heap.lt_size (g.ext _ _ e)) (Nat.lt_irrefl _)
  have hmono : ∀ (s₁ : Shared) (o : Obj) {vs : List Value} {ds : List PyData}, RdAll s₁.heap OP vs ds → RdAll (s₁.heap.push o) (s₁.heap.objs.size :: OP) vs ds := fun s₁ o vs ds r =>
    r.mono fun a ob ha hob => ⟨by simp only [List.mem_cons, not_or]; exact ⟨Nat.ne_of_lt (Heap.lt_size hob), ha⟩, Heap.get?_push_of_some _ hob⟩
  cases e with
  | List es pos =>
    simp only [evalE, Option.bind_eq_some_iff] at h
    obtain ⟨ds, hds, h⟩ := h
    split at h
    · rename_i hsz
      cases h
      refine wpAny_List (args_sound hE es _ ds (mapO_mapF _ false _ _ hds) s _ C fun vs s₁ g₁ r₁ => ?_)
      have r2 := r₁.all
      have hl := r2.length
      exact ⟨by omega, hQ _ _ (g₁.trans (Go.heap _ (Ext.push _ _))) (hnew s₁ g₁) (.list (vs := vs.toArray) ⟨_, _, Heap.get?_push_size _ rfl, rfl, rfl, rfl⟩ (by simpa using hmono s₁ _ r2))⟩
    · cases h
  | Dict ks vs pos =>
    simp only [evalE] at h
    split at h
    · cases h
      refine wpAny_Dict_empty (hQ _ _ (Go.heap _ (Ext.push _ _)) (hnew s (Go.refl _)) (.dict (kvs := []) (xs := []) ⟨?_, fun prog w => ⟨_, _, _, Heap.get?_push_size _ rfl, ⟨rfl, rfl, rfl⟩, rfl, fun e he => by simp at he, by constructor, by simp⟩⟩ .nil rfl))
      refine beq_eq_false_iff_ne.mpr (Nat.ne_of_gt ?_)
      obtain ⟨o, es, ep, ho, _⟩ := hB.g.keeps C.base
      exact Nat.lt_trans (by decide) (Heap.lt_size ho)
    · cases h
  | BinOp l op r pos =>
    cases op with
    | Add =>
      simp only [evalE, Option.bind_eq_some_iff] at h
      obtain ⟨a, ha, b, hb, h⟩ := h
      refine wpAny_BinOp (hE env ρ true l a ha OP O A s _ E C fun va s₁ g₁ r₁ => hE env ρ true r b hb OP O A s₁ _ E (C.go g₁) fun vb s₂ g₂ r₂ => ?_)
      have r1 := RdT.ext g₂.ext r₁
      cases d with
      | list zs =>
        cases a with
        | list xs =>
          cases b with
          | list ys =>
            simp only [binD] at h
            split at h
            · rename_i hsz
              cases h
              obtain ⟨la, vs, rfl, hl, hvs⟩ := r1.list_inv
              obtain ⟨lb, ws, rfl, hm, hws⟩ := RdT.list_inv r₂
              obtain ⟨⟨cls, dd, data, sl⟩, ho, hc, nn, hd⟩ := id hl
              obtain ⟨⟨cls2, dd2, data2, sl2⟩, ho2, hc2, n2, hd2⟩ := id hm
              simp only at hc hd hc2 hd2
              subst hc hd hc2 hd2
              refine concat_meets ⟨_, ho, rfl⟩ ⟨_, ho2, rfl⟩ noFill_list_add seq_list_add PySem.F.slot_list_add PySem.F.entry_list_add (PySem.F.args_list_add_2 _ _) (list_addW la lb vs ws nn n2 dd dd2 sl sl2 (by
                have e1 := hvs.length; have e2 := hws.length
                simp only [Array.length_toList] at e1 e2
                omega)) ⟨ho, ho2, ?_⟩
              refine hQ _ _ ((g₁.trans g₂).trans (Go.heap _ (Ext.push _ _))) (hnew s₂ (g₁.trans g₂)) (.list (vs := vs ++ ws) ⟨_, _, Heap.get?_push_size _ rfl, rfl, rfl, rfl⟩ ?_)
              rw [Array.toList_append]
              exact (hmono s₂ _ hws).append (hmono s₂ _ hvs)
            · cases h
          | _ => simp [binD] at h
        | int i => cases b <;> simp [binD] at h
        | _ => simp [binD] at h
      | _ => simp [isFresh] at hf
    | _ => simp [isFresh] at hf
  | _ => simp [isFresh] at hf

theorem Sx.protect {env : Env} {X O P G : List Addr} {val : Str → Value} {ρ : Rho} {A : Around} {s : Shared} (S : Sx base k env X O P G val ρ A s) {a : Addr} (ha : s.heap.get? a = none) {h' : Heap} (e : Ext s.heap h') {y : Str} {b : Bd} (hy : ρ.lookup y = some b) :
    BOk h' (X ++ (a :: O) ++ P) (a :: O) b (val y) ∧ (b.m = .brw → ∀ a', val y = .ref a' → a' ∉ X ++ (a :: O) ++ G) ∧ (b.m = .own → Value.ref a ≠ val y) := by
  have hv := (S.vars y b hy).2
  have hm : ∀ a' o, a' ∉ X ++ O ++ P → s.heap.get? a' = some o → a' ∉ X ++ (a :: O) ++ P ∧ h'.get? a' = some o := fun a' o h1 h2 => by
    refine ⟨?_, e _ _ h2⟩
    simp only [List.mem_append, List.mem_cons, not_or] at h1 ⊢
    exact ⟨⟨h1.1.1, (by rintro rfl; rw [ha] at h2; cases h2), h1.1.2⟩, h1.2⟩
  obtain ⟨m, d⟩ := b
  cases m with
  | val => exact ⟨Rd.mono hm hv, (fun h => by cases h), (fun h => by cases h)⟩
  | brw =>
    have hex : ∀ a', val y = .ref a' → a' ≠ a := by
      rintro a' h1 rfl
      have hv' : RdT s.heap (X ++ O ++ P) (val y) d := hv
      rw [h1] at hv'
      cases hv' with
      | of q =>
        cases q with
        | list _ hl _ => obtain ⟨o, ho, _⟩ := hl; rw [ha] at ho; cases ho
        | tuple _ hl _ => obtain ⟨o, ho, _⟩ := hl; rw [ha] at ho; cases ho
        | dict _ hd _ _ => obtain ⟨o, ho⟩ := hd.there; rw [ha] at ho; cases ho
      | list hl _ => obtain ⟨o, ho, _⟩ := hl; rw [ha] at ho; cases ho
      | dict hd _ _ => obtain ⟨o, ho⟩ := hd.there; rw [ha] at ho; cases ho
    refine ⟨?_, fun _ a' h1 h2 => ?_, fun h => by cases h⟩
    · have hv' : RdT s.heap (X ++ O ++ P) (val y) d := hv
      show RdT _ _ _ _
      generalize val y = vy at hv'
      cases hv' with
      | of x => exact .of (x.mono hm)
      | list hl r => obtain ⟨o, ho, q⟩ := hl; exact .list ⟨o, e _ o ho, q⟩ (r.mono hm)
      | dict hd r e' => exact .dict (hd.ext e) (r.mono hm) e'
    · simp only [List.mem_append, List.mem_cons] at h2
      rcases h2 with (h2 | h2 | h2) | h2
      · exact S.brw y _ hy rfl a' h1 (by simp [h2])
      · exact hex a' h1 h2
      · exact S.brw y _ hy rfl a' h1 (by simp [h2])
      · exact S.brw y _ hy rfl a' h1 (by simp [h2])
  | own =>
    obtain ⟨a', h1, h2, h3⟩ := hv
    refine ⟨⟨a', h1, .tail _ h2, ?_⟩, (fun h => by cases h), fun _ h => ?_⟩
    · cases h3 with
      | list p r => exact .list (p.keeps e) (r.mono hm)
      | dict hd r e' => exact .dict (hd.ext e) (r.mono hm) e'
    · rw [h1] at h; cases h
      obtain ⟨o, ho⟩ := S.ex a (by simp [h2])
      rw [ha] at ho; cases ho
end
end Mine
set_option autoImplicit false
namespace Mine
open PySem PySem.Spec PySem.Calls PyProof.Rows

section
variable {prog : Program} {w : World} {mg mb : Str → Option Value} {base : Heap} {Φ : Fns} {k wf : Nat}
variable {env : Env} {X O P G : List Addr} {val : Str → Value} {ρ : Rho} {A : Around} {s : Shared}

/-- an own address that nothing reads is dropped; it may turn or vanish -/
theorem Sx.drop {c : Addr} (S : Sx base k env X (c :: O) P G val ρ A s) {s' : Shared} (hcO : c ∉ O) (hv : ∀ x b, ρ.lookup x = some b → b.m ≠ .val → val x ≠ .ref c) (hk : ∀ a o, a ≠ c → s.heap.get? a = some o → s'.heap.get? a = some o) : Sx base k env X O P G val ρ A s' := by
  have hcX : c ∉ X := S.disjO c (.head _)
  have hcP : c ∉ P := S.disj c (by simp)
  have hL : env.locals ≠ c := fun h => hcX (h ▸ locals_mem S)
  have hm : ∀ a o, a ∉ X ++ (c :: O) ++ P → s.heap.get? a = some o → a ∉ X ++ O ++ P ∧ s'.heap.get? a = some o := fun a o h1 h2 => by
    simp only [List.mem_append, List.mem_cons, not_or] at h1 ⊢
    exact ⟨⟨⟨h1.1.1, h1.1.2.2⟩, h1.2⟩, hk a o h1.1.2.1 h2⟩
  refine ⟨S.en, S.at_, ?_, S.hL, S.hC, ?_, ?_, ?_, S.inj, ?_, ?_, ?_, ?_, ?_, S.sep⟩
  · exact fun a o ho => hk a o (fun e => by have := S.fresh c (by simp); rw [← e] at this; rw [this] at ho; cases ho) (S.bas a o ho)
  · intro a ha
    have hac : a ≠ c := by
      rintro rfl
      simp only [List.mem_append] at ha
      rcases ha with (h | h) | h
      · exact hcX h
      · exact hcO h
      · exact hcP h
    obtain ⟨o, ho⟩ := S.ex a (by simp only [List.mem_append, List.mem_cons] at ha ⊢; rcases ha with (h | h) | h; exact .inl (.inl h); exact .inl (.inr (.inr h)); exact .inr h)
    exact ⟨o, hk a o hac ho⟩
  · obtain ⟨m, hm⟩ := S.loc
    exact ⟨m, hm.at' fun o e => hk _ o hL e⟩
  · intro x c' h
    obtain ⟨⟨v, o, ho, q⟩, r⟩ := S.cell x c' h
    exact ⟨⟨v, o, hk _ o (fun h' => hcX (h' ▸ cell_mem S h)) ho, q⟩, r⟩
  · exact fun a ha => S.fresh a (by simp only [List.mem_append, List.mem_cons] at ha ⊢; rcases ha with h | h; exact .inl h; exact .inr (.inr h))
  · exact fun a ha => S.disj a (by simp only [List.mem_append, List.mem_cons] at ha ⊢; rcases ha with h | h; exact .inl h; exact .inr (.inr h))
  · exact fun a ha => S.disjO a (.tail _ ha)
  · intro x b h
    constructor
    · rcases (S.vars x b h).1 with ⟨a, m, b, d⟩ | ⟨a, c', b, o, ho, d⟩ | ⟨a, q, c', b, o, ho, d⟩
      · exact .inl ⟨a, m, b.at' fun o e => hk _ o hL e, d⟩
      · exact .inr (.inl ⟨a, c', b, o, hk _ o (fun h' => hcX (h' ▸ cell_mem S b)) ho, d⟩)
      · exact .inr (.inr ⟨a, q, c', b, o, hk _ o (fun h' => hcX (h' ▸ cell_mem S b)) ho, d⟩)
    · have q := (S.vars x b h).2
      have hne := hv x b h
      obtain ⟨m, d⟩ := b
      cases m with
      | val => exact Rd.mono hm q
      | brw =>
        have hne2 := hne (by intro e; cases e)
        show RdT _ _ _ _
        have q2 : RdT s.heap (X ++ (c :: O) ++ P) (val x) d := q
        generalize val x = vx at q2 hne2
        cases q2 with
        | of x => exact .of (x.mono hm)
        | list hl r => obtain ⟨o, ho, q⟩ := hl; exact .list ⟨o, hk _ o (fun e => hne2 (by rw [e])) ho, q⟩ (r.mono hm)
        | dict hd r e =>
          refine .dict ⟨hd.1, fun p w => ?_⟩ (r.mono hm) e
          obtain ⟨o, es, ep, ho, q⟩ := hd.2 p w
          exact ⟨o, es, ep, hk _ o (fun e => hne2 (by rw [e])) ho, q⟩
      | own =>
        have hne2 := hne (by intro e; cases e)
        obtain ⟨a, h1, h2, h3⟩ := q
        have hac : a ≠ c := fun e => hne2 (by rw [h1, e])
        have ha : a ∈ O := by rcases List.mem_cons.mp h2 with e | e; exact absurd e hac; exact e
        refine ⟨a, h1, ha, ?_⟩
        cases h3 with
        | list p r => obtain ⟨o, n, ho, q⟩ := p; exact .list ⟨o, n, hk _ o hac ho, q⟩ (r.mono hm)
        | dict hd r e =>
          refine .dict ⟨hd.1, fun p w => ?_⟩ (r.mono hm) e
          obtain ⟨o, es, ep, ho, q⟩ := hd.2 p w
          exact ⟨o, es, ep, hk _ o hac ho, q⟩
  · exact fun x b h hm a ha hx => S.brw x b h hm a ha (by simp only [List.mem_append, List.mem_cons] at hx ⊢; rcases hx with (h | h) | h; exact .inl (.inl h); exact .inl (.inr (.inr h)); exact .inr h)

/-- an address that is new is put under guard: nothing of the frame reads it -/
theorem Sx.guard (S : Sx base k env X O P G val ρ A s) {c : Addr} {s₂ : Shared} (g : Go s s₂) (hc : s.heap.get? c = none) (hex : ∃ o, s₂.heap.get? c = some o) : Sx base k env X O (c :: P) (c :: G) val ρ A s₂ := by
  have hne : ∀ a, (∃ o, s.heap.get? a = some o) → a ≠ c := by rintro a ⟨o, ho⟩ rfl; rw [hc] at ho; cases ho
  have hm : ∀ a o, a ∉ X ++ O ++ P → s.heap.get? a = some o → a ∉ X ++ O ++ (c :: P) ∧ s₂.heap.get? a = some o := fun a o h1 h2 => by
    refine ⟨?_, g.ext _ _ h2⟩
    simp only [List.mem_append, List.mem_cons, not_or] at h1 ⊢
    exact ⟨h1.1, hne a ⟨o, h2⟩, h1.2⟩
  have S2 := S.go g
  refine ⟨S.en, S.at_, S2.bas, S.hL, S.hC, ?_, S2.loc, S2.cell, S.inj, S.fresh, ?_, S.disjO, ?_, ?_, S.sep⟩
  · intro a ha
    simp only [List.mem_append, List.mem_cons] at ha
    rcases ha with (h | h) | rfl | h
    · exact S2.ex a (by simp [h])
    · exact S2.ex a (by simp [h])
    · exact hex
    · exact S2.ex a (by simp [h])
  · intro a ha
    simp only [List.mem_cons, not_or]
    exact ⟨hne a (S.ex a (List.mem_append.mpr (.inl ha))), S.disj a ha⟩
  · intro x b h
    refine ⟨(S2.vars x b h).1, ?_⟩
    have q := (S.vars x b h).2
    obtain ⟨m, d⟩ := b
    cases m with
    | val => exact Rd.mono hm q
    | brw =>
      show RdT _ _ _ _
      have q2 : RdT s.heap (X ++ O ++ P) (val x) d := q
      generalize val x = vx at q2
      cases q2 with
      | of x => exact .of (x.mono hm)
      | list hl r => obtain ⟨o, ho, q⟩ := hl; exact .list ⟨o, g.ext _ o ho, q⟩ (r.mono hm)
      | dict hd r e => exact .dict (hd.ext g.ext) (r.mono hm) e
    | own =>
      obtain ⟨a, h1, h2, h3⟩ := q
      refine ⟨a, h1, h2, ?_⟩
      cases h3 with
      | list p r => exact .list (p.keeps g.ext) (r.mono hm)
      | dict hd r e => exact .dict (hd.ext g.ext) (r.mono hm) e
  · intro x b h hb a ha hx
    simp only [List.mem_append, List.mem_cons] at hx
    rcases hx with (h' | h') | rfl | h'
    · exact S.brw x b h hb a ha (by simp [h'])
    · exact S.brw x b h hb a ha (by simp [h'])
    · have q := (S.vars x b h).2.top
      rw [ha] at q
      refine hne a ?_ rfl
      generalize hvv : Value.ref a = vv at q
      generalize b.d = bd at q
      cases q with
      | of q =>
        cases q with
        | list _ hl _ => cases hvv; obtain ⟨o, ho, _⟩ := hl; exact ⟨o, ho⟩
        | tuple _ hl _ => cases hvv; obtain ⟨o, ho, _⟩ := hl; exact ⟨o, ho⟩
        | dict _ hd _ _ => cases hvv; exact hd.there
        | _ => cases hvv
      | list hl _ => cases hvv; obtain ⟨o, ho, _⟩ := hl; exact ⟨o, ho⟩
      | dict hd _ _ => cases hvv; exact hd.there
    · exact S.brw x b h hb a ha (by simp [h'])
/-- a guarded address turns -/
theorem Sx.turn {c : Addr} (S : Sx base k env X O (c :: P) (c :: G) val ρ A s) {s' : Shared} (hk : ∀ a o, a ≠ c → s.heap.get? a = some o → s'.heap.get? a = some o) (hex : ∃ o, s'.heap.get? c = some o) (hb : base.get? c = none) : Sx base k env X O (c :: P) (c :: G) val ρ A s' := by
  have hcXO : c ∉ X ++ O := fun h => S.disj c h (.head _)
  have hcX : c ∉ X := fun h => hcXO (by simp [h])
  have hL : env.locals ≠ c := fun h => hcX (h ▸ locals_mem S)
  refine ⟨S.en, S.at_, ?_, S.hL, S.hC, ?_, ?_, ?_, S.inj, S.fresh, S.disj, S.disjO, ?_, S.brw, S.sep⟩
  · exact fun a o ho => hk a o (fun e => by rw [e] at ho; rw [hb] at ho; cases ho) (S.bas a o ho)
  · intro a ha
    by_cases e : a = c
    · rw [e]; exact hex
    · obtain ⟨o, ho⟩ := S.ex a ha; exact ⟨o, hk a o e ho⟩
  · obtain ⟨m, hm⟩ := S.loc
    exact ⟨m, hm.at' fun o e => hk _ o hL e⟩
  · intro x c' h
    obtain ⟨⟨v, o, ho, q⟩, r⟩ := S.cell x c' h
    exact ⟨⟨v, o, hk _ o (fun h' => hcX (h' ▸ cell_mem S h)) ho, q⟩, r⟩
  · intro x b h
    refine ⟨?_, (S.vars x b h).2.chg (W := [c]) (fun a ha => by rw [List.mem_singleton.mp ha]; simp) (fun a o ha ho => hk a o (by simpa using ha) ho) fun hm a ha => ?_⟩
    · rcases (S.vars x b h).1 with ⟨a, m, b, d⟩ | ⟨a, c', b, o, ho, d⟩ | ⟨a, q, c', b, o, ho, d⟩
      · exact .inl ⟨a, m, b.at' fun o e => hk _ o hL e, d⟩
      · exact .inr (.inl ⟨a, c', b, o, hk _ o (fun h' => hcX (h' ▸ cell_mem S b)) ho, d⟩)
      · exact .inr (.inr ⟨a, q, c', b, o, hk _ o (fun h' => hcX (h' ▸ cell_mem S b)) ho, d⟩)
    · simp only [List.mem_singleton]
      rintro rfl
      cases hbm : b.m with
      | val => exact hm hbm
      | brw => exact S.brw x b h hbm a ha (by simp)
      | own =>
        obtain ⟨a', h1, h2, _⟩ := S.own_ref h hbm
        rw [h1] at ha; cases ha
        exact hcXO (by simp [h2])
theorem Sx.unguard {c : Addr} (S : Sx base k env X O (c :: P) (c :: G) val ρ A s) : Sx base k env X O P G val ρ A s := by
  have hm : ∀ a o, a ∉ X ++ O ++ (c :: P) → s.heap.get? a = some o → a ∉ X ++ O ++ P ∧ s.heap.get? a = some o := fun a o h1 h2 => by
    refine ⟨?_, h2⟩
    simp only [List.mem_append, List.mem_cons, not_or] at h1 ⊢
    exact ⟨h1.1, h1.2.2⟩
  refine ⟨S.en, S.at_, S.bas, S.hL, S.hC, fun a ha => S.ex a ?_, S.loc, S.cell, S.inj, S.fresh, fun a ha hp => S.disj a ha (.tail _ hp), S.disjO, ?_, fun x b h hb a ha hx => S.brw x b h hb a ha ?_, S.sep⟩
  · simp only [List.mem_append, List.mem_cons] at ha ⊢
    rcases ha with h | h
    · exact .inl h
    · exact .inr (.inr h)
  · intro x b h
    refine ⟨(S.vars x b h).1, ?_⟩
    have q := (S.vars x b h).2
    obtain ⟨m, d⟩ := b
    cases m with
    | val => exact Rd.mono hm q
    | brw =>
      show RdT _ _ _ _
      have q2 : RdT s.heap (X ++ O ++ (c :: P)) (val x) d := q
      generalize val x = vx at q2
      cases q2 with
      | of x => exact .of (x.mono hm)
      | list hl r => exact .list hl (r.mono hm)
      | dict hd r e => exact .dict hd (r.mono hm) e
    | own =>
      obtain ⟨a, h1, h2, h3⟩ := q
      refine ⟨a, h1, h2, ?_⟩
      cases h3 with
      | list p r => exact .list p (r.mono hm)
      | dict hd r e => exact .dict hd (r.mono hm) e
  · simp only [List.mem_append, List.mem_cons] at hx ⊢
    rcases hx with h | h
    · exact .inl h
    · exact .inr (.inr h)

/-- a guarded address turns, or vanishes, and is guarded no longer -/
theorem Sx.leave {c : Addr} (S : Sx base k env X O (c :: P) (c :: G) val ρ A s) {s' : Shared} (hk : ∀ a o, a ≠ c → s.heap.get? a = some o → s'.heap.get? a = some o) (hb : base.get? c = none) (hcP : c ∉ P) : Sx base k env X O P G val ρ A s' := by
  have hcXO : c ∉ X ++ O := fun h => S.disj c h (.head _)
  have hcX : c ∉ X := fun h => hcXO (by simp [h])
  have hL : env.locals ≠ c := fun h => hcX (h ▸ locals_mem S)
  have hm : ∀ a o, a ∉ X ++ O ++ (c :: P) → s.heap.get? a = some o → a ∉ X ++ O ++ P ∧ s'.heap.get? a = some o := fun a o h1 h2 => by
    simp only [List.mem_append, List.mem_cons, not_or] at h1 ⊢
    exact ⟨⟨h1.1, h1.2.2⟩, hk a o h1.2.1 h2⟩
  refine ⟨S.en, S.at_, ?_, S.hL, S.hC, ?_, ?_, ?_, S.inj, S.fresh, fun a ha hp => S.disj a ha (.tail _ hp), S.disjO, ?_, fun x b h hbm a ha hx => S.brw x b h hbm a ha ?_, S.sep⟩
  · exact fun a o ho => hk a o (fun e => by rw [e] at ho; rw [hb] at ho; cases ho) (S.bas a o ho)
  · intro a ha
    have hac : a ≠ c := by
      rintro rfl
      rcases List.mem_append.mp ha with h | h
      · exact hcXO h
      · exact hcP h
    obtain ⟨o, ho⟩ := S.ex a (by simp only [List.mem_append, List.mem_cons] at ha ⊢; rcases ha with h | h; exact .inl h; exact .inr (.inr h))
    exact ⟨o, hk a o hac ho⟩
  · obtain ⟨m, hm⟩ := S.loc
    exact ⟨m, hm.at' fun o e => hk _ o hL e⟩
  · intro x c' h
    obtain ⟨⟨v, o, ho, q⟩, r⟩ := S.cell x c' h
    exact ⟨⟨v, o, hk _ o (fun h' => hcX (h' ▸ cell_mem S h)) ho, q⟩, r⟩
  · intro x b h
    constructor
    · rcases (S.vars x b h).1 with ⟨a, m, b, d⟩ | ⟨a, c', b, o, ho, d⟩ | ⟨a, q, c', b, o, ho, d⟩
      · exact .inl ⟨a, m, b.at' fun o e => hk _ o hL e, d⟩
      · exact .inr (.inl ⟨a, c', b, o, hk _ o (fun h' => hcX (h' ▸ cell_mem S b)) ho, d⟩)
      · exact .inr (.inr ⟨a, q, c', b, o, hk _ o (fun h' => hcX (h' ▸ cell_mem S b)) ho, d⟩)
    · have q := (S.vars x b h).2
      have hbr := S.brw x b h
      obtain ⟨m, d⟩ := b
      cases m with
      | val => exact Rd.mono hm q
      | brw =>
        have hne2 : val x ≠ .ref c := fun e => hbr rfl c e (by simp)
        show RdT _ _ _ _
        have q2 : RdT s.heap (X ++ O ++ (c :: P)) (val x) d := q
        generalize val x = vx at q2 hne2
        cases q2 with
        | of x => exact .of (x.mono hm)
        | list hl r => obtain ⟨o, ho, q⟩ := hl; exact .list ⟨o, hk _ o (fun e => hne2 (by rw [e])) ho, q⟩ (r.mono hm)
        | dict hd r e =>
          refine .dict ⟨hd.1, fun p w => ?_⟩ (r.mono hm) e
          obtain ⟨o, es, ep, ho, q⟩ := hd.2 p w
          exact ⟨o, es, ep, hk _ o (fun e => hne2 (by rw [e])) ho, q⟩
      | own =>
        obtain ⟨a, h1, h2, h3⟩ := q
        have hac : a ≠ c := by rintro rfl; exact hcXO (by simp [h2])
        refine ⟨a, h1, h2, ?_⟩
        cases h3 with
        | list p r => obtain ⟨o, n, ho, q⟩ := p; exact .list ⟨o, n, hk _ o hac ho, q⟩ (r.mono hm)
        | dict hd r e =>
          refine .dict ⟨hd.1, fun p w => ?_⟩ (r.mono hm) e
          obtain ⟨o, es, ep, ho, q⟩ := hd.2 p w
          exact ⟨o, es, ep, hk _ o hac ho, q⟩
  · simp only [List.mem_append, List.mem_cons] at hx ⊢
    rcases hx with h | h
    · exact .inl h
    · exact .inr (.inr h)

theorem swaps_eq (value : Expr) (x : Str) (p : Pos) (line : Nat) (env : Env) : swapsWith value (some (.Name x p)) line env = pure false ∨
    (swapsWith value (some (.Name x p)) line env = pure true ∧ (∃ elt gens sc pos, value = .ListComp elt gens sc pos)) ∨ ∀ Φ n K ρ rd, evalE Φ n K ρ rd value = none := by
  cases value with
  | ListComp elt gens sc pos =>
    have e : ∃ b, swapsWith (.ListComp elt gens sc pos) (some (.Name x p)) line env = pure b := ⟨_, rfl⟩
    obtain ⟨b, hb⟩ := e
    cases b with
    | false => exact .inl hb
    | true => exact .inr (.inl ⟨hb, _, _, _, _, rfl⟩)
  | SetComp => exact .inr (.inr fun Φ n K ρ rd => by cases n <;> simp [evalE])
  | DictComp => exact .inr (.inr fun Φ n K ρ rd => by cases n <;> simp [evalE])
  | _ => exact .inl rfl

/-- a plain store of a frozen value -/
theorem bind_sound {x : Str} {v : Value} {d : PyData} {s₀ : Shared} {E : Value → Shared → Prop} {Q : Unit → Shared → Prop} (S : Sx base k env X O P G val ρ A s) (hk : (env.kindOf x == some .local || env.kindOf x == some .cell) = true) (hv : Rd s.heap (X ++ O ++ P) v d) (hc : Chg (X ++ O) s₀ s)
    (hQ : ∀ s' val', Chg (X ++ O) s₀ s' → Sx base k env X O P G val' (setR ρ x ⟨.val, d⟩) A s' → Chg X s s' → Q () s') : wpAny (model prog w) A (storeName env x v) Q E s := by
  simp only [Bool.or_eq_true, beq_iff_eq] at hk
  refine store_sound (b := ⟨.val, d⟩) S hk (fun a h => h) (fun a h => .inl h) (fun y b hy => ⟨(S.vars y b hy).2, S.brw y b hy, (fun h => by cases h)⟩) hv (by intro e; cases e) fun s' c S' => ?_
  exact hQ s' _ (hc.trans (W' := X) c fun a h => .inl (by simp [h])) S' c

theorem thaw_lookup (x : Str) (b : Bd) : ∀ ρ : Rho, (thaw ρ).lookup x = some b → ∃ b', ρ.lookup x = some b' ∧ b = if b'.m == .own then ⟨.val, b'.d⟩ else b'
  | [], h => by simp [thaw] at h
  | (y, c) :: r, h => by
    have ih := thaw_lookup x b r
    unfold thaw at h ih
    rw [List.map_cons, List.lookup_cons] at h
    rw [List.lookup_cons]
    cases hx : x == y with
    | true => rw [hx] at h; simp only [Option.some.injEq] at h; exact ⟨c, rfl, h.symm⟩
    | false => rw [hx] at h; exact ih h

theorem Sx.thawed (S : Sx base k env X O P G val ρ A s) : Cx base k env (thaw ρ) (X ++ P) O A s := by
  have hm : ∀ a o, a ∉ X ++ O ++ P → s.heap.get? a = some o → a ∉ X ++ P ∧ s.heap.get? a = some o := fun a o h1 h2 => by
    refine ⟨?_, h2⟩
    simp only [List.mem_append, not_or] at h1 ⊢
    exact ⟨h1.1.1, h1.2⟩
  refine ⟨S.en, S.at_, S.bas, fun a ha => S.ex a (by simp only [List.mem_append] at ha ⊢; rcases ha with h | h; exact .inl (.inl h); exact .inr h), fun x b hb => ?_⟩
  obtain ⟨⟨m, d⟩, hb', rfl⟩ := thaw_lookup x b ρ hb
  obtain ⟨h1, h2⟩ := S.vars x _ hb'
  refine ⟨_, h1, ?_⟩
  cases m with
  | val => exact Rd.mono hm h2
  | brw =>
    show RdT _ _ _ _
    have h3 : RdT s.heap (X ++ O ++ P) (val x) d := h2
    generalize val x = vx at h3
    cases h3 with
    | of x => exact .of (x.mono hm)
    | list hl r => exact .list hl (r.mono hm)
    | dict hd r e => exact .dict hd (r.mono hm) e
  | own =>
    obtain ⟨a, h3, h4, h5⟩ := h2
    show Rd _ _ _ _
    have ha : a ∉ X ++ P := by
      simp only [List.mem_append, not_or]
      exact ⟨S.disjO a h4, S.disj a (by simp [h4])⟩
    rw [h3]
    cases h5 with
    | list p r => exact .list ha p.isList (r.mono hm)
    | dict hd r e => exact .dict ha hd (r.mono hm) e

set_option maxHeartbeats 1000000 in
theorem xs_step {n : Nat} (hB : Base mg mb base) (hF : FnsOk prog w mg base Φ k) (hX : XS prog w base Φ k wf n) : XS prog w base Φ k wf (n + 1) := by
  intro env ρ st fl ρ' h X O P G val A s E S
  obtain ⟨hE, hT, _, _, hI⟩ := sound_all hB hF n
  cases st with
  | Pass pos =>
    simp only [execS, Option.some.injEq, Prod.mk.injEq] at h
    obtain ⟨rfl, rfl⟩ := h
    exact wpAny_Pass ⟨.refl _ _, rfl, O, val, S, fun a h => .inl h⟩
  | Continue pos =>
    simp only [execS, Option.some.injEq, Prod.mk.injEq] at h
    obtain ⟨rfl, rfl⟩ := h
    exact wpAny_Continue ⟨.refl _ _, rfl, O, val, S, fun a h => .inl h⟩
  | Return v pos =>
    cases v with
    | none => simp [execS] at h
    | some e =>
      simp only [execS, Option.map_eq_some_iff, Prod.mk.injEq] at h
      obtain ⟨d, hd, rfl, rfl⟩ := h
      refine wpAny_Return_some (hE env (thaw ρ) false e d hd (X ++ P) O A s _ E S.thawed fun v s' g r => ⟨.of_go g, v, rfl, ?_⟩)
      have r2 : Rd s'.heap (X ++ P) v d := r
      exact r2.mono fun a o h1 h2 => ⟨fun hp => h1 (by simp [hp]), h2⟩
  | If t b o pos =>
    simp only [execS, Option.bind_eq_some_iff] at h
    obtain ⟨c, hc, h⟩ := h
    refine wpAny_If (hT env ρ t c hc _ O A s _ E S.cx fun s₁ g₁ => ?_)
    cases c with
    | true => exact wpAny_mono (seq_sound hX b ρ fl ρ' h O val s₁ (S.go g₁)) (fun f s₂ p => p.trans (.of_go g₁) fun a h => .inl h) fun _ _ e => e
    | false => exact wpAny_mono (seq_sound hX o ρ fl ρ' h O val s₁ (S.go g₁)) (fun f s₂ p => p.trans (.of_go g₁) fun a h => .inl h) fun _ _ e => e
  | Assign ts v pos =>
    simp only [execS] at h
    split at h
    · rename_i x xp
      split at h
      · rename_i hk
        simp only [Option.map_eq_some_iff, Prod.mk.injEq] at h
        obtain ⟨d, hd, rfl, rfl⟩ := h
        rcases swaps_eq v x xp pos.line env with hs | ⟨hs, elt, gens, sc, cpos, rfl⟩ | hs
        · refine wpAny_Assign_Name ?_ hs
          cases hfr : frM x v d with
          | val =>
            refine hE env ρ false v d hd _ O A s _ E S.cx fun u s₁ g₁ r₁ => ?_
            refine bind_sound (S.go g₁) hk r₁ (.of_go g₁) fun s' val' c' S' _ => ⟨c', rfl, O, val', S', fun a h => .inl h⟩
          | own =>
            cases n with
            | zero => simp [evalE] at hd
            | succ n =>
              refine fresh_sound hB (sound_all hB hF n).1 hd (by unfold frM at hfr; split at hfr <;> first | exact hfr | cases hfr) S.cx fun a s₁ g₁ ha ho => ?_
              have hk2 : env.kindOf x = some .local ∨ env.kindOf x = some .cell := by simpa using hk
              have hax : ∃ o, s₁.heap.get? a = some o := by
                cases ho with
                | list p r => obtain ⟨o, _, e, _⟩ := p; exact ⟨o, e⟩
                | dict hdd r e => exact hdd.there
              have hnot : a ∉ X ++ O ++ P := fun hm => by obtain ⟨o, e⟩ := S.ex a hm; rw [ha] at e; cases e
              have hbn : base.get? a = none := by
                cases e : base.get? a with
                | none => rfl
                | some o => have := S.bas a o e; rw [ha] at this; cases this
              have ho2 : OwnT s₁.heap (X ++ (a :: O) ++ P) a d := by
                have hm : ∀ b o, b ∉ a :: (X ++ O ++ P) → s₁.heap.get? b = some o → b ∉ X ++ (a :: O) ++ P ∧ s₁.heap.get? b = some o := fun b o h1 h2 => by
                  refine ⟨?_, h2⟩
                  simp only [List.mem_append, List.mem_cons, not_or] at h1 ⊢
                  exact ⟨⟨h1.2.1.1, h1.1, h1.2.1.2⟩, h1.2.2⟩
                cases ho with
                | list p r => exact .list p (r.mono hm)
                | dict hdd r e => exact .dict hdd (r.mono hm) e
              refine store_sound (O' := a :: O) (b := ⟨.own, d⟩) (S.go g₁) hk2 (fun b h => .tail _ h) ?_ ?_ ⟨a, rfl, .head _, ho2⟩ (by intro e; cases e) fun s' c' S' => ?_
              · intro b hb
                rcases List.mem_cons.mp hb with rfl | hb
                · exact .inr ⟨hnot, hbn, hax⟩
                · exact .inl hb
              · intro y b' hy
                have q := S.protect ha g₁.ext hy
                exact ⟨q.1, q.2.1, fun _ => q.2.2⟩
              · refine ⟨⟨fun b o hb e => c'.keep b o (fun h => hb (by simp [h])) (g₁.ext _ _ e), c'.os.trans g₁.os, fun h => c'.gens (g₁.gens h)⟩, rfl, a :: O, _, S', ?_⟩
                intro b hb
                rcases List.mem_cons.mp hb with rfl | hb
                · exact .inr ha
                · exact .inl hb
          | brw => unfold frM at hfr; split at hfr <;> cases v <;> cases d <;> simp [isFresh] at hfr <;> (first | contradiction | (rename_i op _ _ _; cases op <;> simp [isFresh] at hfr) | skip)
        · have hiff : frM x (.ListComp elt gens sc cpos) d = .val := by unfold frM; split <;> cases d <;> rfl
          rw [hiff]
          cases n with
          | zero => simp [evalE] at hd
          | succ n =>
            obtain ⟨hE', hT', _, _, hI'⟩ := sound_all hB hF n
            simp only [evalE] at hd
            split at hd
            · rename_i tgt iter ifs asy
              split at hd
              · rename_i hc
                simp only [Bool.and_eq_true, beq_iff_eq] at hc
                obtain ⟨⟨rfl, hcs⟩, htg⟩ := hc
                simp only [Option.bind_eq_some_iff, Option.map_eq_some_iff] at hd
                obtain ⟨xs, hxs, ys, hys, rfl⟩ := hd
                rw [exec_Assign_Name_used _ _ _ _ hs]
                refine wpAny_bind (wpAny_standAt (wpAny_bind ?_))
                show wpAny _ A (do let _ ← comprehension (.ListComp elt [⟨tgt, iter, ifs, 0⟩] sc cpos) sc env _ (newList []) false (eval iter env) (some (assign (.Name x xp) env))) _ _ s
                refine wpAny_bind (wpAny_mono (comp_sound (Q := fun _ s' => Post base k env X P G A O s .next (setR ρ x ⟨.val, .list ys⟩) .next s') (use := some (assign (.Name x xp) env)) hE' hT' hI' hcs htg hxs hys S.cx fun D C s' g hD hC hDC hr _ hn => ?_) (fun _ s' hq => wpAny_pure (wpAny_pure hq)) fun _ _ e => e)
                have hk2 : env.kindOf x = some .local ∨ env.kindOf x = some .cell := by simpa using hk
                obtain ⟨mC, hnC⟩ := hn
                have hCx : ∃ o, s'.heap.get? C = some o := by obtain ⟨o, _, _, e, _⟩ := hnC; exact ⟨o, e⟩
                have hCnot : C ∉ X ++ O ++ P := fun hm => by obtain ⟨o, e⟩ := S.ex C hm; rw [hC] at e; cases e
                have hCb : base.get? C = none := by
                  cases e : base.get? C with
                  | none => rfl
                  | some o => have := S.bas C o e; rw [hC] at this; cases this
                have hCO : ∀ b ∈ C :: O, b ∈ O ∨ s.heap.get? b = none := by
                  intro b hb
                  rcases List.mem_cons.mp hb with rfl | hb
                  · exact .inr hC
                  · exact .inl hb
                refine wpAny_assign_Name (store_sound (O' := C :: O) (b := ⟨.val, .list ys⟩) (S.go g) hk2 (fun b h => .tail _ h) ?_ ?_ ?_ (by intro e; cases e) fun s₃ c₃ S₃ => ?_)
                · intro b hb
                  rcases List.mem_cons.mp hb with rfl | hb
                  · exact .inr ⟨hCnot, hCb, hCx⟩
                  · exact .inl hb
                · intro y b' hy
                  have q := S.protect hC g.ext hy
                  exact ⟨q.1, q.2.1, (fun h => by cases h)⟩
                · show Rd _ _ _ _
                  refine hr.mono fun a o h1 h2 => ⟨?_, h2⟩
                  simp only [List.mem_append, List.mem_cons, not_or] at h1 ⊢
                  exact ⟨⟨h1.2.1.1, h1.1, h1.2.1.2⟩, h1.2.2⟩
                · have hnC3 : s₃.heap.Ns C mC := hnC.at' fun o e => c₃.keep _ o (fun h => hCnot (by simp [h])) e
                  refine ⟨mC, hnC3, fun h' hsb => ?_⟩
                  have hlt : ∀ y b', (setR ρ x ⟨.val, .list ys⟩).lookup y = some b' → b'.m ≠ .val → (if y = x then Value.ref D else val y) ≠ .ref C := by
                    intro y b' hy hm
                    rw [setR_lookup] at hy
                    by_cases e : y = x
                    · rw [if_pos e] at hy; cases hy; exact absurd rfl hm
                    · rw [if_neg e] at hy
                      simp only [e, if_false]
                      intro he
                      have q := S.protect hC g.ext hy
                      cases hbm : b'.m with
                      | val => exact hm hbm
                      | brw => exact q.2.1 hbm C he (by simp)
                      | own => exact q.2.2 hbm he.symm
                  have S4 := S₃.drop (s' := { s₃ with heap := h' }) (fun h => hCnot (by simp [h])) hlt (fun a o ha ho => hsb.extBut a o ha ho)
                  refine ⟨⟨fun b o hb e => ?_, c₃.os.trans g.os, fun h => c₃.gens (g.gens h)⟩, rfl, O, _, S4, fun a h => .inl h⟩
                  exact hsb.extBut b o (by rintro rfl; rw [hC] at e; cases e) (c₃.keep b o (fun h => hb (by simp [h])) (g.ext _ _ e))
              · cases hd
            · cases hd
        · rw [hs] at hd; cases hd
      · cases h
    · cases h
  | Expr v pos =>
    simp only [execS] at h
    split at h
    · rename_i f args kws cpos
      split at h
      · rename_i o attr apos e
        split at h
        · rename_i x xp
          split at h
          · rename_i hcond
            simp only [Bool.and_eq_true, beq_iff_eq, Bool.not_eq_true'] at hcond
            obtain ⟨⟨rfl, hline⟩, hdb⟩ := hcond
            split at h
            · rename_i xs hx
              simp only [Option.bind_eq_some_iff] at h
              obtain ⟨d, hd, h⟩ := h
              split at h
              · rename_i hsz
                simp only [Option.some.injEq, Prod.mk.injEq] at h
                obtain ⟨rfl, rfl⟩ := h
                have hi : interactive env = false := by unfold interactive; rw [S.en.kind]; rfl
                have hst := not_star hd [] env
                have htrees : backTo cpos (starEach [e] env) = [(false, eval e env)] := by rw [hst]; rfl
                refine wpAny_Expr (wpAny_Call_append rfl (by rw [htrees]; rfl) (by simpa using hline) htrees ?_) hi rfl
                obtain ⟨a, hva, haO, hown⟩ := S.own_ref hx rfl
                refine wpAny_Name (load_sound S.en (S.vars x _ hx).1 ?_) hdb
                rw [hva]
                cases hown with
                | list hpl hrd =>
                  rename_i vs
                  refine ⟨a, vs, rfl, hpl, hE env ρ false e d hd _ O A s _ E S.cx fun y s₁ g₁ r₁ => ?_⟩
                  have hlen : vs.size = xs.length := by have := hrd.length; simpa using this
                  refine list_append_plainL (hpl.keeps g₁.ext) (fun h' hpl' hsb => ?_) (by omega)
                  show Post base k env X P G A O s .next _ .next _
                  have S₁ := S.go g₁
                  have haX : a ∉ X := S.disjO a haO
                  have haP : a ∉ P := S.disj a (by simp [haO])
                  have hm : ∀ b o, b ∉ X ++ O ++ P → s₁.heap.get? b = some o → b ∉ X ++ O ++ P ∧ h'.get? b = some o := fun b o h1 h2 => ⟨h1, hsb.extBut b o (by rintro rfl; exact h1 (by simp [haO])) h2⟩
                  have hkp : ∀ b o, b ≠ a → s₁.heap.get? b = some o → h'.get? b = some o := fun b o hb e => hsb.extBut b o hb e
                  have hal : ∃ o, h'.get? a = some o := by obtain ⟨o, _, e, _⟩ := hpl'; exact ⟨o, e⟩
                  have S₂ : Sx base k env X O P G val (setR ρ x ⟨.own, .list (xs ++ [d])⟩) A { s₁ with heap := h' } := by
                    have hL : env.locals ≠ a := fun e => haX (e ▸ locals_mem S)
                    refine ⟨S.en, S.at_, ?_, S.hL, S.hC, ?_, ?_, ?_, S.inj, S.fresh, S.disj, S.disjO, ?_, ?_, ?_⟩
                    · intro b o ho
                      exact hkp b o (fun e => by have := S.fresh a (by simp [haO]); rw [← e] at this; rw [this] at ho; cases ho) (S₁.bas b o ho)
                    · intro b hb
                      by_cases e : b = a
                      · rw [e]; exact hal
                      · obtain ⟨o, ho⟩ := S₁.ex b hb; exact ⟨o, hkp b o e ho⟩
                    · obtain ⟨m, hm⟩ := S₁.loc; exact ⟨m, hm.at' fun o e => hkp _ o hL e⟩
                    · intro y c hy
                      obtain ⟨⟨u, o, ho, q⟩, r⟩ := S₁.cell y c hy
                      exact ⟨⟨u, o, hkp _ o (fun e => haX (e ▸ cell_mem S hy)) ho, q⟩, r⟩
                    · intro y b hy
                      have hvar : ∀ u, Var s₁.heap env y u → Var h' env y u := by
                        rintro u (⟨a', m, b', d'⟩ | ⟨a', c', b', o, ho, d'⟩ | ⟨a', q, c', b', o, ho, d'⟩)
                        · exact .inl ⟨a', m, b'.at' fun o e => hkp _ o hL e, d'⟩
                        · exact .inr (.inl ⟨a', c', b', o, hkp _ o (fun e => haX (e ▸ cell_mem S b')) ho, d'⟩)
                        · exact .inr (.inr ⟨a', q, c', b', o, hkp _ o (fun e => haX (e ▸ cell_mem S b')) ho, d'⟩)
                      rw [setR_lookup] at hy
                      by_cases e : y = x
                      · rw [if_pos e] at hy; cases hy; subst e
                        refine ⟨hvar _ (S₁.vars y _ hx).1, a, hva, haO, .list hpl' ?_⟩
                        rw [Array.toList_push]
                        have r2 : Rd s₁.heap (X ++ O ++ P) _ d := r₁
                        exact RdAll.append (.cons (r2.mono hm) .nil) ((hrd.ext g₁.ext).mono hm)
                      · rw [if_neg e] at hy
                        refine ⟨hvar _ (S₁.vars y b hy).1, (S₁.vars y b hy).2.chg (W := [a]) (fun b hb => by rw [List.mem_singleton.mp hb]; simp [haO]) (fun b o hb ho => hkp b o (by simpa using hb) ho) fun hmv a' ha' => ?_⟩
                        simp only [List.mem_singleton]
                        rintro rfl
                        cases hbm : b.m with
                        | val => exact hmv hbm
                        | brw => exact S.brw y b hy hbm a' ha' (by simp [haO])
                        | own => exact S.sep y x b _ e hy hbm hx rfl (by rw [ha', hva])
                    · intro y b hy hbm a' ha'
                      rw [setR_lookup] at hy
                      by_cases e : y = x
                      · rw [if_pos e] at hy; cases hy; cases hbm
                      · rw [if_neg e] at hy; exact S.brw y b hy hbm a' ha'
                    · intro y z by_ bz hne hy hmy hz hmz
                      rw [setR_lookup] at hy hz
                      by_cases e1 : y = x
                      · subst e1
                        rw [if_neg (fun e => hne e.symm)] at hz
                        exact S.sep y z _ bz hne hx rfl hz hmz
                      · rw [if_neg e1] at hy
                        by_cases e2 : z = x
                        · subst e2
                          exact S.sep y z by_ _ hne hy hmy hx rfl
                        · rw [if_neg e2] at hz
                          exact S.sep y z by_ bz hne hy hmy hz hmz
                  exact ⟨⟨fun b o hb e => hkp b o (by rintro rfl; exact hb (by simp [haO])) (g₁.ext _ _ e), g₁.os, g₁.gens⟩, rfl, O, val, S₂, fun a h => .inl h⟩
              · cases h
            · cases h
          · cases h
        · cases h
      · cases h
    · cases h
  | For tgt iter body orelse pos =>
    simp only [execS] at h
    split at h
    · split at h
      · rename_i htg
        simp only [Option.bind_eq_some_iff] at h
        obtain ⟨xs, hxs, h⟩ := h
        obtain ⟨hset, hiter⟩ := hI env ρ false iter xs hxs
        refine wpAny_For (hiter _ O A s _ E S.cx fun I fp Pp St s₂ it => ?_) hset
        have hIX : I ∉ X ++ O ++ P := fun hm => by obtain ⟨o, ho⟩ := S.ex I hm; rw [it.fresh] at ho; cases ho
        obtain ⟨oI, hoI⟩ := it.live 0 _ it.st
        cases tgt with
        | Name x xp =>
          have hIb : base.get? I = none := by
            cases e : base.get? I with
            | none => rfl
            | some o => have := S.bas I o e; rw [it.fresh] at this; cases this
          refine codeAny_forLoop (prog := prog) (w := w)
            (fun m s₁ => ∃ (i : Nat) (ρi : Rho) (Oi : List Addr) (vali : Str → Value), m = xs.length + 1 - i ∧ i ≤ xs.length ∧ forGo (fun ρ d => (bindT env.kindOf (.Name x xp) d ρ).bind (runB (execS Φ wf n env.kindOf) body)) ρi (xs.drop i) = some (fl, ρ') ∧
              Sx base k env X Oi (I :: P) (I :: G) vali ρi A s₁ ∧ (∀ a ∈ Oi, a ∈ O ∨ s₂.heap.get? a = none) ∧ (∀ b o, b ∉ X ++ O → b ≠ I → s₂.heap.get? b = some o → s₁.heap.get? b = some o) ∧ s₁.os = s₂.os ∧ (AllBare s₂.gens → AllBare s₁.gens) ∧ St i s₁.heap) ?_ (xs.length + 1)
            ⟨0, ρ, O, val, rfl, Nat.zero_le _, by simpa using h, S.guard it.go it.fresh ⟨oI, hoI⟩, fun a h => .inl h, fun b o _ _ e => e, rfl, fun h => h, it.st⟩
          rintro m s₁ ⟨i, ρi, Oi, vali, rfl, hi, hgo, Si, hOi, hkeep, hos, hgen, hst⟩
          have hfoot : ∀ b ∈ fp, b ≠ I → (∃ o, s₂.heap.get? b = some o) ∧ b ∉ X ++ O ∧ b ∉ X ++ Oi := by
            intro b hb hbI
            obtain ⟨o, ho, _, hOP⟩ := it.foot b hb hbI
            have hOP := hOP rfl
            simp only [List.mem_append, not_or] at hOP ⊢
            refine ⟨⟨o, ho⟩, hOP.1, hOP.1.1, fun hm => ?_⟩
            rcases hOi b hm with h | h
            · exact hOP.1.2 h
            · rw [ho] at h; cases h
          have chgs : ∀ s₃ : Shared, (∀ b o, b ∉ X ++ O → b ≠ I → s₂.heap.get? b = some o → s₃.heap.get? b = some o) → s₃.os = s₂.os → (AllBare s₂.gens → AllBare s₃.gens) → Chg (X ++ O) s s₃ := fun s₃ h1 h2 h3 =>
            ⟨fun b o hb e => h1 b o hb (by rintro rfl; rw [it.fresh] at e; cases e) (it.go.ext _ _ e), h2.trans it.go.os, fun h => h3 (it.go.gens h)⟩
          have owns : ∀ O3 : List Addr, (∀ a ∈ O3, a ∈ O ∨ s₂.heap.get? a = none) → ∀ a ∈ O3, a ∈ O ∨ s.heap.get? a = none := fun O3 h a ha => (h a ha).imp id fun e => by
            cases e' : s.heap.get? a with
            | none => rfl
            | some o => have := it.go.ext _ _ e'; rw [e] at this; cases this
          by_cases hlt : i < xs.length
          · refine it.walks.item i _ _ _ hlt hst fun v h₂ tk₂ hPv hst₂ hk₂ => ?_
            have hxi : xs[i]? = some xs[i] := List.getElem?_eq_getElem hlt
            rw [List.drop_eq_getElem_cons hlt] at hgo
            simp only [forGo, Option.bind_eq_some_iff] at hgo
            obtain ⟨⟨f1, ρ1⟩, ⟨ρb, hρb, hbody⟩, hgo⟩ := hgo
            simp only [bindT] at hρb
            split at hρb
            · rename_i hkx
              cases hρb
              have hk' : ∀ a o, a ≠ I → s₁.heap.get? a = some o → h₂.get? a = some o := fun a o ha ho => hk₂ a o (by simpa using ha) ho
              have Sj : Sx base k env X Oi (I :: P) (I :: G) vali ρi A { s₁ with heap := h₂, toks := tk₂ } := Si.turn hk' (it.live _ _ hst₂) hIb
              have hv : Rd h₂ (X ++ Oi ++ (I :: P)) v xs[i] := by
                refine (it.items i v _ hPv hxi).mono fun a o ha ho => ?_
                simp only [List.mem_cons, List.mem_append, not_or] at ha ⊢
                refine ⟨⟨⟨ha.2.1.1, fun hm => ?_⟩, ha.1, ha.2.2⟩, hk' a o ha.1 (hkeep a o (by simp only [List.mem_append, not_or]; exact ha.2.1) ha.1 ho)⟩
                rcases hOi a hm with h | h
                · exact ha.2.1.2 h
                · rw [ho] at h; cases h
              refine wpAny_assign_Name (bind_sound Sj hkx hv (.refl _ _) fun s₃ val₃ c₃ S₃ cX => ?_)
              -- the turn's body
              refine wpAny_mono (seq_sound hX body _ f1 ρ1 hbody Oi val₃ s₃ S₃) (fun f s₄ p => ?_) fun _ _ e => e
              have p2 := p.trans (O := Oi) c₃ fun a h => .inl h
              obtain ⟨c4, p4⟩ := p2
              have hk4 : ∀ b o, b ∉ X ++ O → b ≠ I → s₂.heap.get? b = some o → s₄.heap.get? b = some o := fun b o hb hbI e => by
                refine c4.keep b o (fun hm => ?_) (hk' b o hbI (hkeep b o hb hbI e))
                rcases List.mem_append.mp hm with h | h
                · exact hb (by simp [h])
                · rcases hOi b h with h | h
                  · exact hb (by simp [h])
                  · rw [h] at e; cases e
              have hos4 : s₄.os = s₂.os := c4.os.trans hos
              have hgen4 : AllBare s₂.gens → AllBare s₄.gens := fun h => c4.gens (hgen h)
              have hIXO : I ∉ X ++ Oi := fun h => Si.disj I h (.head _)
              have hst4 : St (i + 1) s₄.heap := it.walks.frame _ _ _ hst₂ fun b hb o e => by
                refine c4.keep b o ?_ e
                by_cases hbI : b = I
                · rw [hbI]; exact hIXO
                · exact (hfoot b hb hbI).2.2
              have hO4 : ∀ O3 : List Addr, (∀ a ∈ O3, a ∉ X) → (∀ a ∈ O3, a ∈ Oi ∨ h₂.get? a = none) → ∀ a ∈ O3, a ∈ O ∨ s₂.heap.get? a = none := by
                intro O3 hX3 h3 a ha
                rcases h3 a ha with h | h
                · exact hOi a h
                · by_cases hao : a ∈ O
                  · exact .inl hao
                  · refine .inr ?_
                    cases e : s₂.heap.get? a with
                    | none => rfl
                    | some o =>
                      by_cases haI : a = I
                      · obtain ⟨oi, hoi⟩ := it.live _ _ hst₂; rw [haI, hoi] at h; cases h
                      · have := hk' a o haI (hkeep a o (by simp only [List.mem_append, not_or]; exact ⟨hX3 a ha, hao⟩) haI e)
                        rw [h] at this; cases this
              cases f1 with
              | next =>
                obtain ⟨hf, O3, v3, S3, hO3⟩ := p4
                subst hf
                exact ⟨xs.length + 1 - (i + 1), by omega, i + 1, ρ1, O3, v3, rfl, hlt, hgo, S3, hO4 O3 S3.disjO hO3, hk4, hos4, hgen4, hst4⟩
              | cont =>
                obtain ⟨hf, O3, v3, S3, hO3⟩ := p4
                subst hf
                exact ⟨xs.length + 1 - (i + 1), by omega, i + 1, ρ1, O3, v3, rfl, hlt, hgo, S3, hO4 O3 S3.disjO hO3, hk4, hos4, hgen4, hst4⟩
              | brk =>
                obtain ⟨hf, O3, v3, S3, hO3⟩ := p4
                subst hf
                simp only [Option.some.injEq, Prod.mk.injEq] at hgo
                obtain ⟨rfl, rfl⟩ := hgo
                exact ⟨chgs s₄ hk4 hos4 hgen4, rfl, O3, v3, S3.unguard, owns O3 (hO4 O3 S3.disjO hO3)⟩
              | ret d =>
                obtain ⟨v', hf, p3⟩ := p4
                subst hf
                simp only [Option.some.injEq, Prod.mk.injEq] at hgo
                obtain ⟨rfl, rfl⟩ := hgo
                exact ⟨chgs s₄ hk4 hos4 hgen4, v', rfl, p3.mono fun a o ha ho => ⟨fun h => ha (.tail _ h), ho⟩⟩
            · cases hρb
          · have hin : i = xs.length := by omega
            subst hin
            refine it.walks.done _ _ _ hst fun h₂ tk₂ hk₂ => ?_
            rw [List.drop_length] at hgo
            simp only [forGo, Option.some.injEq, Prod.mk.injEq] at hgo
            obtain ⟨rfl, rfl⟩ := hgo
            have hk' : ∀ a o, a ≠ I → s₁.heap.get? a = some o → h₂.get? a = some o := fun a o ha ho => hk₂ a o (by simpa using ha) ho
            have hdrop : Sx base k env X Oi P G vali ρi A { s₁ with heap := h₂, toks := tk₂ } := Si.leave hk' hIb (fun h => hIX (by simp [h]))
            exact wpAny_execs_nil ⟨chgs _ (fun b o hb hbI e => hk' b o hbI (hkeep b o hb hbI e)) hos hgen, rfl, Oi, vali, hdrop, owns Oi hOi⟩
        | _ => simp [tgtT] at htg
      · cases h
    · cases h
  | While t body orelse pos =>
    simp only [execS] at h
    split at h
    · refine wpAny_While ?_
      have inv := codeAny_whileLoop (prog := prog) (w := w) (A := A) (test := t) (body := body) (orelse := []) (env := env) (s := s)
        (R := fun r s' => match r with | .ok f => Post base k env X P G A O s fl ρ' f s' | .error e => cameBackBy (model prog w) A env E e s')
        (fun m s' => ∃ ρi Oi vali, Sx base k env X Oi P G vali ρi A s' ∧ Chg (X ++ O) s s' ∧ (∀ a ∈ Oi, a ∈ O ∨ s.heap.get? a = none) ∧
          whileGo (testB (testE Φ n env.kindOf) t) (runB (execS Φ wf n env.kindOf) body) m ρi = some (fl, ρ')) ?_ wf ⟨ρ, O, val, S, .refl _ _, fun a h => .inl h, h⟩
      · exact inv
      · rintro m s₁ ⟨ρi, Oi, vali, Si, ci, hOi, hgo⟩
        cases m with
        | zero => simp [whileGo] at hgo
        | succ m =>
          simp only [whileGo, Option.bind_eq_some_iff] at hgo
          obtain ⟨c, hc, hgo⟩ := hgo
          refine hT env ρi t c hc _ Oi A s₁ _ _ Si.cx fun s₂ g₂ => ?_
          have c2 : Chg (X ++ O) s s₂ := chg_next ci hOi (.of_go g₂)
          cases c with
          | false =>
            simp only [Bool.false_eq_true, if_false, Option.some.injEq, Prod.mk.injEq] at hgo ⊢
            obtain ⟨rfl, rfl⟩ := hgo
            exact wpAny_execs_nil ⟨c2, rfl, Oi, vali, Si.go g₂, hOi⟩
          | true =>
            simp only [if_true, Option.bind_eq_some_iff] at hgo ⊢
            obtain ⟨⟨f1, ρ1⟩, h1, hgo⟩ := hgo
            refine wpAny_mono (seq_sound hX body ρi f1 ρ1 h1 Oi vali s₂ (Si.go g₂)) (fun f s₃ p => ?_) fun _ _ e => e
            have p2 := p.trans (.of_go g₂) fun a h => .inl h
            have p3 := p2.trans ci hOi
            obtain ⟨c3, p3⟩ := p3
            cases f1 with
            | next =>
              obtain ⟨hf, O3, v3, S3, hO3⟩ := p3
              subst hf
              exact ⟨m, Nat.lt_succ_self _, ρ1, O3, v3, S3, c3, hO3, hgo⟩
            | cont =>
              obtain ⟨hf, O3, v3, S3, hO3⟩ := p3
              subst hf
              exact ⟨m, Nat.lt_succ_self _, ρ1, O3, v3, S3, c3, hO3, hgo⟩
            | brk =>
              obtain ⟨hf, O3, v3, S3, hO3⟩ := p3
              subst hf
              simp only [Option.some.injEq, Prod.mk.injEq] at hgo
              obtain ⟨rfl, rfl⟩ := hgo
              exact ⟨c3, rfl, O3, v3, S3, hO3⟩
            | ret d =>
              obtain ⟨v, hf, p3⟩ := p3
              subst hf
              simp only [Option.some.injEq, Prod.mk.injEq] at hgo
              obtain ⟨rfl, rfl⟩ := hgo
              exact ⟨c3, v, rfl, p3⟩
    · cases h
  | _ => simp [execS] at h
end
end Mine
set_option autoImplicit false
namespace Mine
open PySem PySem.Spec PySem.Calls PyProof.Rows

structure Def where
  name : Str
  params : Arguments
  fl : List Bool
  body : List Stmt
  scope : Scope
def Def.names (d : Def) : List Str := d.params.args.map (·.arg)

def entry (d : Def) (ds : List PyData) : Rho := (d.names.zip (d.fl.zip ds)).map fun p => (p.1, ⟨if p.2.1 then .brw else .val, p.2.2⟩)
def retOf (p : Fl × Rho) : Option PyData := match p.1 with | .ret d => some d | _ => none
def callD (Φ : Fns) (wf n : Nat) (d : Def) (ds : List PyData) : Option PyData :=
  if ds.length = d.names.length then (seqGo (execS Φ wf n (fun x => d.scope.names.lookup x)) (entry d ds) d.body).bind retOf else none

structure DefOk (d : Def) : Prop where
  bind : ∀ pm cd doc (args : List Value), args.length = d.names.length → bindArgs (docDef d.name d.params d.body d.scope pm cd doc) ⟨args, []⟩ = pure (d.names.zip args)
  kind : d.scope.kind = .function
  co : d.scope.isCoroutine = false
  gen : d.scope.isGenerator = false
  fl : d.fl.length = d.names.length
  nodup : d.names.Nodup
  par : ∀ x ∈ d.names, d.scope.names.lookup x = some .local ∨ d.scope.names.lookup x = some .cell
  nofree : ∀ x, d.scope.names.lookup x ≠ some .free

structure FnAt (mg : Str → Option Value) (base : Heap) (d : Def) (a : Addr) : Prop where
  at_ : mg d.name = some (.ref a)
  obj : ∃ o pm cd doc, base.get? a = some o ∧ o.data = .func (docDef d.name d.params d.body d.scope pm cd doc) ∧ base.CodeRec cd d.name

theorem cells_some {x : Str} : ∀ (names : List (Str × NameKind)) (n : Nat) (acc : List (Str × Addr)), names.lookup x = some .cell ∨ (acc.lookup x).isSome = true → ((cellsFrom n names acc).lookup x).isSome = true
  | [], _, _, h => h.elim (fun e => by cases e) id
  | (y, kd) :: r, n, acc, h => by
    unfold cellsFrom
    by_cases hk : (kd == .cell) = true
    · rw [if_pos hk]
      refine cells_some r (n + 1) ((y, n) :: acc) ?_
      by_cases hy : (x == y) = true
      · exact .inr (by rw [List.lookup_cons, hy]; rfl)
      · refine h.imp (fun e => ?_) fun e => ?_
        · rw [List.lookup_cons] at e; simpa only [hy] using e
        · rw [List.lookup_cons]; simpa only [hy] using e
    · rw [if_neg hk]
      refine cells_some r n acc ?_
      by_cases hy : (x == y) = true
      · refine .inr (h.elim (fun e => ?_) id)
        rw [List.lookup_cons, hy] at e
        exact absurd (by rw [Option.some.inj e]; rfl) hk
      · refine h.imp (fun e => ?_) id
        rw [List.lookup_cons] at e; simpa only [hy] using e

theorem bindL_get (K : Kd) {x : Str} {v : Value} (hx : K x = some .local) : ∀ (bs : List (Str × Value)) (m : Str → Option Value), (bs.map (·.1)).Nodup → ((x, v) ∈ bs ∨ (m x = some v ∧ x ∉ bs.map (·.1))) → bindL K bs m x = some v
  | [], m, _, h => by rcases h with h | h; cases h; exact h.1
  | (y, u) :: r, m, hn, h => by
    simp only [List.map_cons, List.nodup_cons] at hn
    unfold bindL
    refine bindL_get K hx r _ hn.2 ?_
    rcases h with h | h
    · rcases List.mem_cons.mp h with e | h
      · cases e
        right
        exact ⟨by rw [if_pos hx]; simp, hn.1⟩
      · exact .inl h
    · right
      simp only [List.map_cons, List.mem_cons, not_or] at h
      refine ⟨?_, h.2.2⟩
      split
      · simp only [h.2.1, if_false]; exact h.1
      · exact h.1
theorem bindC_get (K : Kd) {x : Str} {v : Value} (hx : K x = some .cell) : ∀ (bs : List (Str × Value)) (m : Str → Option Value), (bs.map (·.1)).Nodup → ((x, v) ∈ bs ∨ (m x = some v ∧ x ∉ bs.map (·.1))) → PySem.bindC K bs m x = some v
  | [], m, _, h => by rcases h with h | h; cases h; exact h.1
  | (y, u) :: r, m, hn, h => by
    simp only [List.map_cons, List.nodup_cons] at hn
    unfold PySem.bindC
    refine bindC_get K hx r _ hn.2 ?_
    rcases h with h | h
    · rcases List.mem_cons.mp h with e | h
      · cases e
        right
        refine ⟨?_, hn.1⟩
        rw [if_neg (by rw [hx]; intro e; cases e)]; simp
      · exact .inl h
    · right
      simp only [List.map_cons, List.mem_cons, not_or] at h
      refine ⟨?_, h.2.2⟩
      split
      · exact h.1
      · simp only [h.2.1, if_false]; exact h.1

theorem mem_zip_of {names : List Str} : ∀ {fl : List Bool} {args : List Value} {ds : List PyData} {h : Heap} {P : List Addr} {x : Str} {b : Bd}, RdXs h P fl args ds → names.length = args.length →
    ((names.zip (fl.zip ds)).map fun p => (p.1, (⟨if p.2.1 then Md.brw else Md.val, p.2.2⟩ : Bd))).lookup x = some b → ∃ v, (x, v) ∈ names.zip args ∧ ((b.m = .val ∧ Rd h P v b.d) ∨ (b.m = .brw ∧ RdT h P v b.d)) := by
  induction names with
  | nil => intro fl args ds h P x b _ _ hb; simp at hb
  | cons y names ih =>
    intro fl args ds h P x b r hl hb
    cases r with
    | nil => simp at hl
    | @cons c fl v args d ds hx r =>
      simp only [List.zip_cons_cons, List.map_cons, List.lookup_cons] at hb
      cases hxy : x == y with
      | true =>
        rw [hxy] at hb
        simp only [Option.some.injEq] at hb
        subst hb
        have := eq_of_beq hxy
        subst this
        refine ⟨v, by simp, ?_⟩
        cases c with
        | true => exact .inr ⟨rfl, hx⟩
        | false => exact .inl ⟨rfl, hx⟩
      | false =>
        rw [hxy] at hb
        obtain ⟨u, hu, q⟩ := ih r (by simpa using hl) hb
        exact ⟨u, by simp only [List.zip_cons_cons, List.mem_cons]; exact .inr hu, q⟩

section
variable {prog : Program} {w : World} {mg mb : Str → Option Value} {base : Heap} {Φ : Fns} {k wf : Nat}

theorem xs_all (hB : Base mg mb base) (hF : FnsOk prog w mg base Φ k) : ∀ n, XS prog w base Φ k wf n
  | 0 => fun _ _ _ _ _ h => by simp [execS] at h
  | n + 1 => xs_step hB hF (xs_all hB hF n)

theorem nodup_zip {names : List Str} {args : List Value} (hn : names.Nodup) : ((names.zip args).map (·.1)).Nodup := by
  induction names generalizing args with
  | nil => simp
  | cons y names ih =>
    cases args with
    | nil => simp
    | cons u args =>
      simp only [List.nodup_cons] at hn
      simp only [List.zip_cons_cons, List.map_cons, List.nodup_cons]
      refine ⟨fun h => ?_, ih hn.2⟩
      obtain ⟨p, hp, e⟩ := List.mem_map.mp h
      exact hn.1 (e ▸ (List.of_mem_zip hp).1)
theorem lookup_of_mem {x : Str} {v : Value} : ∀ {l : List (Str × Value)}, (l.map (·.1)).Nodup → (x, v) ∈ l → l.lookup x = some v
  | [], _, hv => by cases hv
  | (y, u) :: l, hnd, hv => by
    simp only [List.map_cons, List.nodup_cons] at hnd
    rcases List.mem_cons.mp hv with e | hv'
    · cases e; simp [List.lookup_cons]
    · have : x ≠ y := by rintro rfl; exact hnd.1 (List.mem_map.mpr ⟨(x, v), hv', rfl⟩)
      rw [List.lookup_cons, beq_eq_false_iff_ne.mpr this]
      exact lookup_of_mem hnd.2 hv'

theorem def_sound (hB : Base mg mb base) (hF : FnsOk prog w mg base Φ k) {d : Def} (hd : DefOk d) {a : Addr} (hf : FnAt mg base d a) {n : Nat} {A : Around} {s : Shared} {args : List Value} {ds : List PyData} {r : PyData} {P : List Addr} {R : Result → Shared → Prop}
    (hA : At A (k + 1)) (hx : Ext base s.heap) (hP : ∀ a ∈ P, ∃ o, s.heap.get? a = some o) (hr : RdXs s.heap P d.fl args ds) (hc : callD Φ wf n d ds = some r) (hQ : ∀ v s', Go s s' → Rd s'.heap P v r → R (.ok (.ret v)) s') :
    codeAny (model prog w) A (.call (.ref a) ⟨args, []⟩) R s := by
  unfold callD at hc
  split at hc
  · rename_i hlen
    simp only [Option.bind_eq_some_iff] at hc
    obtain ⟨⟨fl1, ρ1⟩, hex, hret⟩ := hc
    obtain ⟨o, pm, cd, doc, ho, hod, hcr⟩ := hf.obj
    have hla : args.length = d.names.length := by rw [hr.length, hlen]
    have hdep := hA.depth
    have hun := hA.units
    refine codeAny_call_cells (binds := d.names.zip args) (by omega) (hx _ _ ho) hod (hB.nolimit.keeps hx) (hcr.keeps hx) rfl (hd.bind pm cd doc args hla) rfl ?_ ?_ hd.co hd.gen hd.kind
    · intro p hp
      have hpn : p.1 ∈ d.names := (List.of_mem_zip hp).1
      rcases hd.par _ hpn with h | h
      · exact .inl h
      · exact .inr ⟨h, cells_some _ _ _ (.inl h)⟩
    · intro s₁ ic
      generalize hL : s.heap.objs.size = L at *
      generalize henv : callEnvC (docDef d.name d.params d.body d.scope pm cd doc) L a = env at *
      have e1 : env.locals = L := by rw [← henv]; rfl
      have e2 : env.scope = d.scope := by rw [← henv]; rfl
      have e3 : env.cells = cellsFrom (L + 1) d.scope.names [] := by rw [← henv]; rfl
      have e4 : env.kindOf = fun x => d.scope.names.lookup x := by funext x; unfold Env.kindOf; rw [e2]
      have e5 : env.globals = mainGlobals := by rw [← henv]; rfl
      have e6 : env.builtins = builtinsNs := by rw [← henv]; rfl
      have keep := ic.toInCall.keep
      have hfr : s.heap.objs.size ≤ env.locals := ic.toInCall.fresh
      have old : ∀ b, (∃ o, s.heap.get? b = some o) → b < env.locals := fun b ⟨o, ho⟩ => Nat.lt_of_lt_of_le (Heap.lt_size ho) hfr
      let X : List Addr := env.locals :: d.scope.names.filterMap fun p => env.cells.lookup p.1
      have hXge : ∀ c ∈ X, env.locals ≤ c := by
        intro c hc
        rcases List.mem_cons.mp hc with rfl | hc
        · exact Nat.le_refl _
        · obtain ⟨p, _, hp⟩ := List.mem_filterMap.mp hc
          exact Nat.le_of_lt (ic.above p.1 c (mem_of_lookup hp))
      have hXold : ∀ b, (∃ o, s.heap.get? b = some o) → b ∉ X := fun b hb hm => Nat.lt_irrefl _ (Nat.lt_of_lt_of_le (old b hb) (hXge b hm))
      have hmono : ∀ b o', b ∉ P → s.heap.get? b = some o' → b ∉ X ++ [] ++ P ∧ s₁.heap.get? b = some o' := fun b o' h1 h2 => by
        refine ⟨?_, keep b o' h2⟩
        simp only [List.append_nil, List.mem_append, not_or]
        exact ⟨hXold b ⟨o', h2⟩, h1⟩
      have S : Sx base k env X [] P [] (fun x => ((d.names.zip args).lookup x).getD .none) (entry d ds) (A.deeper env) s₁ := by
        have hval : ∀ x b, (entry d ds).lookup x = some b → ∃ v, ((d.names.zip args).lookup x).getD .none = v ∧ (x, v) ∈ d.names.zip args ∧ ((b.m = .val ∧ Rd s.heap P v b.d) ∨ (b.m = .brw ∧ RdT s.heap P v b.d)) := by
          intro x b hb
          obtain ⟨v, hv, q⟩ := mem_zip_of (names := d.names) hr hla.symm hb
          refine ⟨v, ?_, hv, q⟩
          have this := lookup_of_mem (nodup_zip (args := args) hd.nodup) hv
          rw [this]; rfl
        refine ⟨⟨by rw [e2]; exact hd.kind, e5, e6, ?_⟩, ⟨hA.handled, ?_, ?_⟩, hx.trans keep, .head _, ?_, ?_, ⟨_, ic.toInCall.ns⟩, ?_, ?_, ?_, ?_, ?_, ?_, ?_, ?_⟩
        · intro x hx'
          rw [e4] at hx'
          rcases hx' with h | h
          · rw [e3]; exact cells_some _ _ _ (.inl h)
          · exact absurd h (hd.nofree x)
        · show A.depth + 1 + k < recursionLimit; omega
        · show A.units + 3 + 4 * k + 200 < cLine; omega
        · intro x c hc
          refine .tail _ (List.mem_filterMap.mpr ?_)
          have hmem : ∃ p ∈ d.scope.names, p.1 = x := by
            have : ∀ (names : List (Str × NameKind)) (n : Nat) (acc : List (Str × Addr)) (c : Addr), (x, c) ∈ cellsFrom n names acc → (∃ p ∈ names, p.1 = x) ∨ (x, c) ∈ acc := by
              intro names
              induction names with
              | nil => intro n acc c h; exact .inr h
              | cons p r ih =>
                obtain ⟨y, kd⟩ := p
                intro n acc c h
                unfold cellsFrom at h
                split at h
                · rcases ih _ _ _ h with ⟨q, hq, e⟩ | h
                  · exact .inl ⟨q, .tail _ hq, e⟩
                  · rcases List.mem_cons.mp h with e | h
                    · cases e; exact .inl ⟨_, .head _, rfl⟩
                    · exact .inr h
                · rcases ih _ _ _ h with ⟨q, hq, e⟩ | h
                  · exact .inl ⟨q, .tail _ hq, e⟩
                  · exact .inr h
            have hm := mem_of_lookup hc
            rw [e3] at hm
            rcases this _ _ _ _ hm with h | h
            · exact h
            · cases h
          obtain ⟨p, hp, rfl⟩ := hmem
          exact ⟨p, hp, hc⟩
        · intro b hb
          simp only [List.append_nil, List.mem_append] at hb
          rcases hb with hb | hb
          · rcases List.mem_cons.mp hb with rfl | hb
            · obtain ⟨o', _, _, e, _⟩ := ic.toInCall.ns; exact ⟨o', e⟩
            · obtain ⟨p, _, hp⟩ := List.mem_filterMap.mp hb
              obtain ⟨o', e, _⟩ := ic.cell p.1 b hp
              exact ⟨o', e⟩
          · obtain ⟨o', ho'⟩ := hP b hb; exact ⟨o', keep _ _ ho'⟩
        · intro x c hc
          exact ⟨⟨_, ic.cell x c hc⟩, Nat.ne_of_gt (ic.above x c (mem_of_lookup hc))⟩
        · intro x y c h1 h2
          exact name_of_addr ic.apart (mem_of_lookup h1) (mem_of_lookup h2)
        · intro b hb
          rw [List.append_nil] at hb
          cases e : base.get? b with
          | none => rfl
          | some o' => exact absurd hb (hXold b ⟨o', hx _ _ e⟩)
        · intro b hb hp
          rw [List.append_nil] at hb
          exact hXold b (hP b hp) hb
        · intro b hb; cases hb
        · intro x b hb
          obtain ⟨v, hv1, hv2, q⟩ := hval x b hb
          simp only [hv1]
          have hxn : x ∈ d.names := (List.of_mem_zip hv2).1
          constructor
          · rcases hd.par x hxn with h | h
            · refine .inl ⟨by rw [e4]; exact h, _, ic.toInCall.ns, ?_⟩
              exact bindL_get env.kindOf (by rw [e4]; exact h) _ _ (nodup_zip hd.nodup) (.inl hv2)
            · have hcs : (env.cells.lookup x).isSome = true := by rw [e3]; exact cells_some _ _ _ (.inl h)
              cases hc : env.cells.lookup x with
              | none => rw [hc] at hcs; cases hcs
              | some c =>
                refine .inr (.inl ⟨by rw [e4]; exact h, c, hc, ?_⟩)
                have := ic.cell x c hc
                rw [bindC_get env.kindOf (by rw [e4]; exact h) _ _ (nodup_zip hd.nodup) (.inl hv2)] at this
                exact this
          · rcases q with ⟨q1, q2⟩ | ⟨q1, q2⟩
            · unfold BOk; rw [q1]; exact q2.mono hmono
            · unfold BOk; rw [q1]
              show RdT _ _ _ _
              generalize b.d = bd at q2
              cases q2 with
              | of q => exact .of (q.mono hmono)
              | list hl r => obtain ⟨o', ho', q⟩ := hl; exact .list ⟨o', keep _ _ ho', q⟩ (r.mono hmono)
              | dict hdd r e => exact .dict (hdd.ext keep) (r.mono hmono) e
        · intro x b hb hbm b' hb' hm
          simp only [List.append_nil] at hm
          obtain ⟨v, hv1, hv2, q⟩ := hval x b hb
          simp only [hv1] at hb'
          subst hb'
          rcases q with ⟨q1, q2⟩ | ⟨q1, q2⟩
          · rw [q1] at hbm; cases hbm
          · refine hXold b' ?_ hm
            generalize hvv : Value.ref b' = vv at q2
            generalize b.d = bd at q2
            cases q2 with
            | of q =>
              cases q with
              | list _ hl _ => cases hvv; obtain ⟨o, ho, _⟩ := hl; exact ⟨o, ho⟩
              | tuple _ hl _ => cases hvv; obtain ⟨o, ho, _⟩ := hl; exact ⟨o, ho⟩
              | dict _ hd _ _ => cases hvv; exact hd.there
              | _ => cases hvv
            | list hl _ => cases hvv; obtain ⟨o, ho, _⟩ := hl; exact ⟨o, ho⟩
            | dict hd _ _ => cases hvv; exact hd.there
        · intro x y bx b' hne hx' hmx
          obtain ⟨v, _, _, q⟩ := hval x bx hx'
          rcases q with ⟨q1, _⟩ | ⟨q1, _⟩ <;> rw [q1] at hmx <;> cases hmx
      rw [← e4] at hex
      refine wpAny_mono (seq_sound (xs_all hB hF n) d.body (entry d ds) fl1 ρ1 hex [] _ s₁ S) (fun f s' p => ?_) fun _ _ e => e
      obtain ⟨c, p⟩ := p
      unfold retOf at hret
      cases fl1 with
      | ret d' =>
        simp only [Option.some.injEq] at hret
        subst hret
        obtain ⟨v, hf', hv⟩ := p
        subst hf'
        obtain ⟨h', tk, hs⟩ := ic.toInCall.same
        refine hQ v s' ⟨fun b o' e => c.keep b o' (by rw [List.append_nil]; exact hXold b ⟨o', e⟩) (keep b o' e), c.os.trans (by rw [hs]), fun h => c.gens (by rw [hs]; exact h)⟩ hv
      | _ => cases hret
  · cases hc

/-- the table of the text's own functions, by depth of calls -/
def tabF (defs : List Def) (wf n : Nat) : Nat → Fns
  | 0 => fun _ => none
  | k + 1 => fun f => (defs.find? fun d => d.name == f).map fun d => (d.fl, callD (tabF defs wf n k) wf n d)

theorem tab_ok (hB : Base mg mb base) {defs : List Def} (hd : ∀ d ∈ defs, DefOk d) (hf : ∀ d ∈ defs, ∃ a, FnAt mg base d a) {n : Nat} : ∀ k, FnsOk prog w mg base (tabF defs wf n k) k
  | 0 => fun f fl F h => by simp [tabF] at h
  | k + 1 => fun f fl F h => by
    simp only [tabF, Option.map_eq_some_iff, Prod.mk.injEq] at h
    obtain ⟨d, hfind, rfl, rfl⟩ := h
    have hm := List.mem_of_find?_eq_some hfind
    have hname : d.name = f := by simpa using List.find?_some hfind
    obtain ⟨a, fa⟩ := hf d hm
    obtain ⟨o, pm, cd, doc, ho, hod, _⟩ := fa.obj
    refine ⟨a, o, _, hname ▸ fa.at_, ho, hod, fun A s args ds r P Q E hA hx hP hr hc hQ => ?_⟩
    exact wpAny_call (def_sound hB (tab_ok hB hd hf k) (hd d hm) fa hA hx hP hr hc fun v s' g q => hQ v s' g q)
end
end Mine
set_option autoImplicit false
namespace Mine
open PySem PySem.Spec PySem.Calls PyProof.Rows PySem.W

def defOf (fl : List Bool) (r : DefRec) : Def := ⟨r.name, r.params, fl, r.body, r.scope⟩

theorem base_of_top {view : Program} {loose : List Str} {mean : ExcName → Option Value} {mg mb : Str → Option Value} {h : Heap} (T : Top view loose mean mg mb h)
    (hfree : ∀ p ∈ biTab, p.1 ∉ startupNames ∧ p.1 ∉ loose ∧ p.1 ∉ (recsOf view).map (·.name) ∧ p.1 ∉ (litsOf view).map (·.1) ∧ p.1 ∉ (clssOf view loose).map (·.name)) : Base mg mb h := by
  refine ⟨T.g, T.b, T.nolimit, fun f v hv => ?_⟩
  have hm := mem_of_lookup hv
  obtain ⟨h1, h2, h3, h4, h5⟩ := hfree _ hm
  refine ⟨T.free f h1 h2 h3 h4 h5, ?_⟩
  have hall : ∀ p ∈ biTab, p.1 ≠ Str.ofString "__name__" ∧ bootBuiltins p.1 = some p.2 := by decide +kernel
  obtain ⟨h6, h7⟩ := hall _ hm
  rw [T.builtins f h6]; exact h7

theorem fns_of_top {view : Program} {loose : List Str} {mean : ExcName → Option Value} {mg mb : Str → Option Value} {h : Heap} (T : Top view loose mean mg mb h) {fl : DefRec → List Bool} :
    ∀ d ∈ (recsOf view).map (fun r => defOf (fl r) r), ∃ a, FnAt mg h d a := by
  intro d hd
  obtain ⟨r, hr, rfl⟩ := List.mem_map.mp hd
  obtain ⟨a, o, pm, cd, doc, h1, h2, h3, h4⟩ := T.fn r hr
  exact ⟨a, h1, o, pm, cd, doc, h2, h3, h4⟩

theorem rd_script {h : Heap} {l : Addr} {vs : List Value} {ns : List Int} (hl : h.IsList l vs.toArray) (hi : IntsAre vs ns) : Rd h [] (.ref l) (.list (ns.map .int)) := by
  refine .list (by simp) hl ?_
  show RdAll h [] vs (ns.map .int)
  clear hl
  induction hi with
  | nil => exact .nil
  | cons n t _ ih => exact .cons (.int _ _) ih

theorem caller_at (k : Nat) (hk : k ≤ 100) : At callerA k := by
  have h1 : callerA.depth + 101 < recursionLimit := by decide +kernel
  have h2 : callerA.units + 600 < cLine := by decide +kernel
  exact ⟨rfl, by omega, by omega⟩

/-- the end of a law: its call comes back with True -/
theorem law_end {c : ClaimW} {cl : Str → Option Addr} {mean : ExcName → Option Value} {args : List WData} {s₁ s' : Shared} {v : Value} (hr : ∀ cls, c.raises args cls = false) (hp : c.post args (.bool true) args = true) (hg : s₁.gens = #[])
    (g : Go s₁ s') (hv : Rd s'.heap [] v (.bool true)) : GoodWG c cl mean args s₁ (.ok (.ret v)) s' := by
  cases hv
  exact ⟨.inl ⟨_, .bool true, [], rfl, hr, .bool true, hp, fun _ => ⟨.nil, fun _ h => nomatch h⟩⟩, .of_keep g.ext, g.os, g.gens (.of_eq hg)⟩

theorem law_call {prog : Program} {w : World} {view : Program} {loose : List Str} {mean : ExcName → Option Value} {mg mb : Str → Option Value} {s₁ : Shared} (T : Top view loose mean mg mb s₁.heap) {recs : List DefRec} (hrec : recsOf view = recs)
    (hfree : ∀ p ∈ biTab, p.1 ∉ startupNames ∧ p.1 ∉ loose ∧ p.1 ∉ (recsOf view).map (·.name) ∧ p.1 ∉ (litsOf view).map (·.1) ∧ p.1 ∉ (clssOf view loose).map (·.name))
    {fl : DefRec → List Bool} (hok : ∀ r ∈ recs, DefOk (defOf (fl r) r)) {law : DefRec} (hlaw : law ∈ recs) (hfl : fl law = [false]) {fa l : Addr} (hmg : mg law.name = some (.ref fa)) {vs : List Value} {ns : List Int} (hl : s₁.heap.IsList l vs.toArray) (hi : IntsAre vs ns)
    {k wf n : Nat} (hk : k + 1 ≤ 100) (hpure : callD (tabF (recs.map fun r => defOf (fl r) r) wf n k) wf n (defOf [false] law) [.list (ns.map .int)] = some (.bool true)) {Q E : Value → Shared → Prop} (hQ : ∀ v s', Go s₁ s' → Rd s'.heap [] v (.bool true) → Q v s') :
    wpAny (model prog w) callerA (call (.ref fa) [.ref l]) Q E s₁ := by
  subst hrec
  have hB := base_of_top T hfree
  have hfn := fns_of_top T (fl := fl)
  have hdo : ∀ d ∈ (recsOf view).map (fun r => defOf (fl r) r), DefOk d := fun d hd => by obtain ⟨r, hr, rfl⟩ := List.mem_map.mp hd; exact hok r hr
  obtain ⟨a, fa'⟩ := hfn (defOf (fl law) law) (List.mem_map.mpr ⟨law, hlaw, rfl⟩)
  have e : a = fa := by have := fa'.at_; rw [show (defOf (fl law) law).name = law.name from rfl, hmg] at this; cases this; rfl
  subst e
  rw [← hfl] at hpure
  refine wpAny_call (def_sound hB (tab_ok hB hdo hfn k) (hok law hlaw) fa' (caller_at _ hk) (Ext.refl _) (P := []) (by simp) (args := [.ref l]) (ds := [.list (ns.map .int)]) ?_ hpure fun v s' g q => hQ v s' g q)
  rw [show (defOf (fl law) law).fl = [false] from hfl]
  exact .cons (rd_script hl hi) .nil
end Mine
set_option autoImplicit false
set_option maxRecDepth 100000
namespace Mine
open PySem PySem.Spec PySem.Calls PyProof.Rows PySem.W

/-! ## running the evaluator by rewriting -/
theorem map_toNat_inj : ∀ {a b : List Char}, a.map Char.toNat = b.map Char.toNat → a = b
  | [], [], _ => rfl
  | [], _ :: _, h => by cases h
  | _ :: _, [], h => by cases h
  | x :: a, y :: b, h => by
    simp only [List.map_cons, List.cons.injEq] at h
    rw [Char.toNat_inj.mp h.1, map_toNat_inj h.2]
theorem ofString_inj {a b : String} (h : Str.ofString a = Str.ofString b) : a = b := by
  rw [Str.ofString_eq_toList, Str.ofString_eq_toList] at h
  have h1 := congrArg (fun s : Str => s.cps.toList) h
  simp only at h1
  exact String.toList_inj.mp (map_toNat_inj h1)
theorem ofString_beq (a b : String) : (Str.ofString a == Str.ofString b) = (a == b) := by
  by_cases h : a = b
  · subst h; simp
  · have : Str.ofString a ≠ Str.ofString b := fun e => h (ofString_inj e)
    rw [beq_eq_false_iff_ne.mpr this, beq_eq_false_iff_ne.mpr h]
theorem ofString_eq (a b : String) : (Str.ofString a = Str.ofString b) = (a = b) := propext ⟨ofString_inj, fun h => h ▸ rfl⟩
theorem strOk_ofString (a : String) : PyData.strOk (Str.ofString a) = true := by
  unfold PyData.strOk
  rw [Str.ofString_eq_toList]
  simp only [List.all_toArray, List.all_map, List.all_eq_true, Function.comp, decide_eq_true_eq]
  intro c _
  have h := c.valid
  simp only [UInt32.isValidChar, Nat.isValidChar] at h
  show c.val.toNat < _
  omega
theorem md1 : (Md.val == Md.own) = false := rfl
theorem md2 : (Md.own == Md.own) = true := rfl
theorem md3 : (Md.brw == Md.own) = false := rfl
theorem md4 : (Md.val == Md.val) = true := rfl
theorem md5 : (Md.own == Md.val) = false := rfl
theorem md6 : (Md.brw == Md.val) = false := rfl
theorem nk1 : ((some NameKind.local : Option NameKind) == some NameKind.local) = true := rfl
theorem nk2 : ((some NameKind.cell : Option NameKind) == some NameKind.local) = false := rfl
theorem nk3 : ((some NameKind.cell : Option NameKind) == some NameKind.cell) = true := rfl
theorem nk4 : ((some NameKind.globalImplicit : Option NameKind) == some NameKind.globalImplicit) = true := rfl
theorem nk5 : ((some NameKind.local : Option NameKind) == some NameKind.globalImplicit) = false := rfl
theorem nk6 : ((some NameKind.free : Option NameKind) == some NameKind.free) = true := rfl
theorem nk7 : ((some NameKind.local : Option NameKind) == some NameKind.free) = false := rfl
theorem nk8 : ((some NameKind.globalImplicit : Option NameKind) == some NameKind.free) = false := rfl
theorem nk9 : ((none : Option NameKind) == some NameKind.free) = false := rfl
theorem nk10 : ((some NameKind.cell : Option NameKind) == some NameKind.free) = false := rfl
theorem nk11 : ((some NameKind.local : Option NameKind) == some NameKind.cell) = false := rfl
theorem nk12 : ((some NameKind.free : Option NameKind) == some NameKind.cell) = false := rfl
theorem nk13 : ((some NameKind.free : Option NameKind) == some NameKind.local) = false := rfl
theorem nk14 : ((some NameKind.globalImplicit : Option NameKind) == some NameKind.local) = false := rfl
theorem szl : sizeLine = 16777216 := by decide

def enc (x : String × Int) : PyData := .tuple [.str (Str.ofString x.1), .int x.2]
def encL (t : List (String × Int)) : PyData := .list (t.map enc)
theorem eqv_enc (x : String × Int) (k : String) (n : Int) : PyData.eqv (enc x) (.tuple [.str (Str.ofString k), .int n]) = decide (x = (k, n)) := by
  obtain ⟨a, b⟩ := x
  simp only [enc, PyData.eqv, PyData.eqvAll, ofString_beq, Bool.and_true, Prod.mk.injEq]
  by_cases h1 : a = k <;> by_cases h2 : b = n <;> simp [h1, h2]
theorem eqv_encs : ∀ (a b : List (String × Int)), PyData.eqvAll (a.map enc) (b.map enc) = decide (a = b)
  | [], [] => by simp [PyData.eqvAll]
  | [], _ :: _ => by simp [PyData.eqvAll]
  | _ :: _, [] => by simp [PyData.eqvAll]
  | x :: a, y :: b => by
    have h : enc y = .tuple [.str (Str.ofString y.1), .int y.2] := rfl
    rw [List.map_cons, List.map_cons, PyData.eqvAll, eqv_encs a b, h, eqv_enc]
    by_cases h1 : x = y <;> by_cases h2 : a = b <;> simp [h1, h2]
theorem dep_enc (n : Nat) (x : String × Int) : dep (n + 1) (enc x) = true := by simp [enc, dep]
theorem dep_encs (n : Nat) (t : List (String × Int)) : (t.map enc).all (dep (n + 1)) = true := by
  rw [List.all_eq_true]; intro d hd; obtain ⟨x, _, rfl⟩ := List.mem_map.mp hd; exact dep_enc n x

theorem bnd {α β : Type} (a : α) (f : α → Option β) : (some a).bind f = f a := by rw [Option.bind_some]
theorem mpd {α β : Type} (a : α) (f : α → β) : (some a).map f = some (f a) := by rw [Option.map_some]
theorem bo1 : (BoolOp.Or == BoolOp.And) = false := rfl
theorem bo2 : (BoolOp.And == BoolOp.And) = true := rfl
theorem bn1 (a b : Int) : binD .Add (.int a) (.int b) = some (.int (a + b)) := rfl
theorem bn2 (a b : Int) : binD .Sub (.int a) (.int b) = some (.int (a - b)) := rfl
theorem bn3 (a b : Int) : binD .FloorDiv (.int a) (.int b) = if 0 < b ∧ b < 1073741824 then some (.int (a.fdiv b)) else none := rfl
theorem bn4 (a b : Int) : binD .Mod (.int a) (.int b) = if 0 < b ∧ b < 1073741824 then some (.int (a.fmod b)) else none := rfl
theorem bn5 (a b : List PyData) : binD .Add (.list a) (.list b) = if a.length + b.length ≤ sizeLine then some (.list (a ++ b)) else none := rfl
theorem cm1 (a b : PyData) : cmpD .Eq a b = if dep 8 a && dep 8 b then some (PyData.eqv a b) else none := rfl
theorem cm2 (a b : PyData) : cmpD .NotEq a b = if dep 8 a && dep 8 b then some (!PyData.eqv a b) else none := rfl
theorem cm3 (a b : Int) : cmpD .Lt (.int a) (.int b) = some (decide (a < b)) := rfl
theorem cm4 (a b : Int) : cmpD .LtE (.int a) (.int b) = some (decide (a ≤ b)) := rfl
theorem cm5 (a b : Int) : cmpD .Gt (.int a) (.int b) = some (decide (a > b)) := rfl
theorem cm6 (a b : Int) : cmpD .GtE (.int a) (.int b) = some (decide (a ≥ b)) := rfl
theorem cm7 (a b : PyData) : cmpD .Is a b = isD a b := rfl
theorem cm8 (a b : PyData) : cmpD .IsNot a b = (isD a b).map (!·) := rfl
theorem bi1 (xs : List PyData) : biD .len [.list xs] = if xs.length ≤ sizeLine then some (.int xs.length) else none := rfl
theorem bi2 (i : Int) : biD .abs [.int i] = some (.int (if i < 0 then -i else i)) := rfl
theorem idxL (xs : List PyData) (i : Int) : idxD (.list xs) (.int i) = if inFit i then (seqIndex? i xs.length).bind fun j => xs[j]? else none := rfl
theorem idxT (xs : List PyData) (i : Int) : idxD (.tuple xs) (.int i) = if inFit i then (seqIndex? i xs.length).bind fun j => xs[j]? else none := rfl
theorem idx_enc0 (x : String × Int) : idxD (enc x) (.int 0) = some (.str (Str.ofString x.1)) := rfl
theorem idx_enc1 (x : String × Int) : idxD (enc x) (.int 1) = some (.int x.2) := rfl
theorem eqv_str (a b : Str) : PyData.eqv (.str a) (.str b) = (a == b) := by simp [PyData.eqv]
theorem eqv_int (a b : Int) : PyData.eqv (.int a) (.int b) = decide (a = b) := by by_cases h : a = b <;> simp [PyData.eqv, h]
theorem eqv_bool (a b : Bool) : PyData.eqv (.bool a) (.bool b) = (a == b) := by cases a <;> cases b <;> simp [PyData.eqv]
theorem dep_str (n : Nat) (a : Str) : dep n (.str a) = true := by cases n <;> rfl
theorem dep_int (n : Nat) (a : Int) : dep n (.int a) = true := by cases n <;> rfl
theorem dep_bool (n : Nat) (a : Bool) : dep n (.bool a) = true := by cases n <;> rfl
theorem dep_tup (n : Nat) (a : Str) (i : Int) : dep (n + 1) (.tuple [.str a, .int i]) = true := by simp [dep, dep_str, dep_int]
theorem dep_encL (n : Nat) (t : List (String × Int)) : dep (n + 2) (encL t) = true := by simp only [encL, dep]; exact dep_encs n t
theorem dep_nilL (n : Nat) : dep (n + 1) (.list []) = true := rfl
theorem eqv_encL (a b : List (String × Int)) : PyData.eqv (encL a) (encL b) = decide (a = b) := by simp only [encL, PyData.eqv]; exact eqv_encs a b
theorem encL_nil : encL [] = .list [] := rfl

theorem foldlM_err {σ α ε : Type} {P : ε → Prop} (f : σ → α → Except ε σ) (h : ∀ s x d, f s x = .error d → P d) : ∀ (l : List α) (s : σ) (d : ε), l.foldlM f s = .error d → P d
  | [], s, d, e => by cases e
  | x :: l, s, d, e => by
    rw [List.foldlM_cons] at e
    cases hs : f s x with
    | ok s1 => rw [hs] at e; exact foldlM_err f h l s1 d e
    | error d' => rw [hs] at e; cases e; exact h s x d hs
theorem pickL {α : Type} (xs : List α) (a : Nat) : ∀ k : Nat, ((List.range k).map (a + ·)).filterMap (xs[·]?) = (xs.drop a).take k
  | 0 => by simp
  | k + 1 => by
    rw [List.range_succ, List.map_append, List.filterMap_append, pickL xs a k, List.take_add_one]
    congr 1
    simp only [List.map_cons, List.map_nil, List.getElem?_drop]
    cases h : xs[a + k]? <;> simp [h]
theorem slD_run (xs : List PyData) (a b : Nat) (hb : b ≤ xs.length) (hab : a ≤ b) : slD xs (some a) (some b) none = (xs.drop a).take (b - a) := by
  have e : sliceBounds (some (a : Int)) (some (b : Int)) none xs.length = ((a : Int), (b : Int), 1) := by
    simp only [sliceBounds, Option.getD_none]
    have h1 : ¬ ((a : Int) < 0) := by omega
    have h2 : ¬ ((b : Int) < 0) := by omega
    simp only [h1, h2, if_false, show (1 : Int) > 0 by decide, if_true]
    congr 1
    · omega
    · congr 1; omega
  unfold slD
  rw [e]
  simp only [sliceRange_one, pickL]
theorem slD_upto (xs : List PyData) (b : Nat) (hb : b ≤ xs.length) : slD xs none (some b) none = xs.take b := by
  have e : sliceBounds none (some (b : Int)) none xs.length = (((0 : Nat) : Int), (b : Int), 1) := by
    simp only [sliceBounds, Option.getD_none]
    have h2 : ¬ ((b : Int) < 0) := by omega
    simp only [h2, if_false, show (1 : Int) > 0 by decide, if_true]
    congr 1
    congr 1; omega
  unfold slD
  rw [e]
  simp only [sliceRange_one, pickL, List.drop_zero, Nat.sub_zero]
theorem slD_from (xs : List PyData) (a : Nat) (ha : a ≤ xs.length) : slD xs (some a) none none = xs.drop a := by
  have e : sliceBounds (some (a : Int)) none none xs.length = ((a : Int), (xs.length : Int), 1) := by
    simp only [sliceBounds, Option.getD_none]
    have h1 : ¬ ((a : Int) < 0) := by omega
    simp only [h1, if_false, show (1 : Int) > 0 by decide, if_true]
    congr 1
    omega
  unfold slD
  rw [e]
  simp only [sliceRange_one, pickL]
  rw [List.take_of_length_le (by simp)]
theorem slD_all (xs : List PyData) : slD xs none none none = xs := by
  have e : sliceBounds none none none xs.length = (((0 : Nat) : Int), (xs.length : Int), 1) := by simp [sliceBounds]
  unfold slD
  rw [e]
  simp only [sliceRange_one, pickL]
  rw [List.drop_zero, Nat.sub_zero, List.take_of_length_le (by simp)]
theorem idx_nat (xs : List PyData) (i : Nat) (h : i < xs.length) (hx : xs.length ≤ 16777216) : idxD (.list xs) (.int i) = some xs[i] := by
  have h3 : inFit (i : Int) = true := by unfold inFit; simp only [Bool.and_eq_true, decide_eq_true_eq]; omega
  have h4 : seqIndex? (i : Int) xs.length = some i := by
    unfold seqIndex?
    simp only [show ¬ (i : Int) < 0 by omega, if_false]
    rw [if_pos (by simp only [Bool.and_eq_true, decide_eq_true_eq]; omega)]
    simp
  simp only [idxD, h3, if_true, h4, Option.bind_some, List.getElem?_eq_getElem h]
theorem idx_encL (t : List (String × Int)) (i : Nat) (h : i < t.length) (hx : t.length ≤ 16777216) : idxD (encL t) (.int i) = some (enc t[i]) := by
  rw [encL, idx_nat _ i (by simpa using h) (by simpa using hx), List.getElem_map]
theorem len_encL (t : List (String × Int)) (hx : t.length ≤ 16777216) : biD .len [encL t] = some (.int t.length) := by
  rw [encL, bi1, if_pos (by rw [szl]; simpa using hx), List.length_map]
theorem add_encL (a b : List (String × Int)) (h : a.length + b.length ≤ 16777216) : binD .Add (encL a) (encL b) = some (encL (a ++ b)) := by
  rw [encL, encL, bn5, if_pos (by rw [szl]; simpa using h), encL, List.map_append]
/-! ### one step of the evaluator, by constructor -/
section steps
variable (Φ : Fns) (wf n : Nat) (K : Kd) (ρ : Rho) (rd : Bool)
theorem ev_const (c : Const) (k) (p : Pos) : evalE Φ (n + 1) K ρ rd (.Constant c k p) = constD c := by rw [evalE]
theorem ev_name (x : Str) (p : Pos) : evalE Φ (n + 1) K ρ rd (.Name x p) = nameD ρ rd x := by rw [evalE]
theorem ev_tuple (es : List Expr) (c p) : evalE Φ (n + 1) K ρ rd (.Tuple es c p) = (mapO (evalE Φ n K ρ false) es).bind fun ds => if ds.length ≤ sizeLine then some (.tuple ds) else none := by rw [evalE]
theorem ev_list (es : List Expr) (p) : evalE Φ (n + 1) K ρ rd (.List es p) = (mapO (evalE Φ n K ρ false) es).bind fun ds => if ds.length ≤ sizeLine then some (.list ds) else none := by rw [evalE]
theorem ev_bin (l op r p) : evalE Φ (n + 1) K ρ rd (.BinOp l op r p) = (evalE Φ n K ρ true l).bind fun a => (evalE Φ n K ρ true r).bind fun b => binD op a b := by rw [evalE]
theorem ev_un (op x p) : evalE Φ (n + 1) K ρ rd (.UnaryOp op x p) = (evalE Φ n K ρ true x).bind fun a => unD op a := by rw [evalE]
theorem ev_cmp (l op r p) : evalE Φ (n + 1) K ρ rd (.Compare l [op] [r] p) = (cmpE Φ n K ρ l op r).map PyData.bool := by rw [evalE]
theorem ev_bool (op vs p) : evalE Φ (n + 1) K ρ rd (.BoolOp op vs p) = boolGo (evalE Φ n K ρ rd) op vs := by rw [evalE]
theorem ev_ife (t b o p) : evalE Φ (n + 1) K ρ rd (.IfExp t b o p) = (testE Φ n K ρ t).bind fun c => if c then evalE Φ n K ρ rd b else evalE Φ n K ρ rd o := by rw [evalE]
theorem ev_sub_c (v c k q p) : evalE Φ (n + 1) K ρ rd (.Subscript v (.Constant c k q) p) = (evalE Φ n K ρ true v).bind fun a => (evalE Φ n K ρ true (.Constant c k q)).bind fun k => idxD a k := by rw [evalE]
theorem ev_sub_n (v x q p) : evalE Φ (n + 1) K ρ rd (.Subscript v (.Name x q) p) = (evalE Φ n K ρ true v).bind fun a => (evalE Φ n K ρ true (.Name x q)).bind fun k => idxD a k := by rw [evalE]
theorem ev_sub_b (v l o r q p) : evalE Φ (n + 1) K ρ rd (.Subscript v (.BinOp l o r q) p) = (evalE Φ n K ρ true v).bind fun a => (evalE Φ n K ρ true (.BinOp l o r q)).bind fun k => idxD a k := by rw [evalE]
theorem ev_sub_u (v o r q p) : evalE Φ (n + 1) K ρ rd (.Subscript v (.UnaryOp o r q) p) = (evalE Φ n K ρ true v).bind fun a => (evalE Φ n K ρ true (.UnaryOp o r q)).bind fun k => idxD a k := by rw [evalE]
theorem ev_sub_k (v f a k q p) : evalE Φ (n + 1) K ρ rd (.Subscript v (.Call f a k q) p) = (evalE Φ n K ρ true v).bind fun a' => (evalE Φ n K ρ true (.Call f a k q)).bind fun k => idxD a' k := by rw [evalE]
theorem ev_sub_s (v i j q p) : evalE Φ (n + 1) K ρ rd (.Subscript v (.Subscript i j q) p) = (evalE Φ n K ρ true v).bind fun a' => (evalE Φ n K ρ true (.Subscript i j q)).bind fun k => idxD a' k := by rw [evalE]
def slcD (a : PyData) (l h s : Option (Option Int)) : Option PyData := match a with
  | .list xs => l.bind fun l => h.bind fun h => s.bind fun s => if s ≠ some 0 ∧ xs.length ≤ sizeLine then some (.list (slD xs l h s)) else none
  | _ => none
theorem ev_slice (v lo hi st q p) : evalE Φ (n + 1) K ρ rd (.Subscript v (.Slice lo hi st q) p) = (evalE Φ n K ρ true v).bind fun a => slcD a (partE Φ n K ρ lo) (partE Φ n K ρ hi) (partE Φ n K ρ st) := by
  rw [evalE]; congr 1
theorem slc_upto (t : List (String × Int)) (b : Nat) (hb : b ≤ t.length) (h : t.length ≤ 16777216) : slcD (encL t) (some none) (some (some (b : Int))) (some none) = some (encL (t.take b)) := by
  simp only [slcD, encL, Option.bind_some, slD_upto _ b (show b ≤ (t.map enc).length by rw [List.length_map]; exact hb), List.length_map, szl, h, ne_eq, reduceCtorEq, not_false_iff, and_self, if_true, List.map_take]
theorem slc_run (t : List (String × Int)) (a b : Nat) (hb : b ≤ t.length) (hab : a ≤ b) (h : t.length ≤ 16777216) : slcD (encL t) (some (some (a : Int))) (some (some (b : Int))) (some none) = some (encL ((t.take b).drop a)) := by
  simp only [slcD, encL, Option.bind_some, slD_run _ a b (show b ≤ (t.map enc).length by rw [List.length_map]; exact hb) hab, List.length_map, szl, h, ne_eq, reduceCtorEq, not_false_iff, and_self, if_true, List.map_drop, List.map_take, List.drop_take]
theorem slc_all (t : List (String × Int)) (h : t.length ≤ 16777216) : slcD (encL t) (some none) (some none) (some none) = some (encL t) := by
  simp only [slcD, encL, Option.bind_some, slD_all, List.length_map, szl, h, ne_eq, reduceCtorEq, not_false_iff, and_self, if_true]
theorem slc_from (t : List (String × Int)) (a : Nat) (ha : a ≤ t.length) (h : t.length ≤ 16777216) : slcD (encL t) (some (some (a : Int))) (some none) (some none) = some (encL (t.drop a)) := by
  simp only [slcD, encL, Option.bind_some, slD_from _ a (show a ≤ (t.map enc).length by rw [List.length_map]; exact ha), List.length_map, szl, h, ne_eq, reduceCtorEq, not_false_iff, and_self, if_true, List.map_drop]
def isiD (d : PyData) : Option PyData := if isBoolD d then some (.bool true) else none
def callB (ev : Bool → Expr → Option PyData) (Φ : Fns) (K : Kd) (g : Str) (args : List Expr) : Option Bi → Option PyData
  | some .isi => match args with
    | [e, t] => if isBoolName K t then (ev true e).bind isiD else none
    | _ => none
  | some b => (mapO (ev true) args).bind fun ds => biD b ds
  | none => match Φ g with
    | some (fl, F) => (mapF ev fl args).bind fun ds => F ds
    | none => none
theorem ev_call (g q args p) : evalE Φ (n + 1) K ρ rd (.Call (.Name g q) args [] p) = if K g == some .globalImplicit && !(g == Str.ofString "__debug__") then callB (evalE Φ n K ρ) Φ K g args (biOf g) else none := by
  unfold evalE
  show (if _ then _ else _) = _
  congr 1
theorem callB_isi (ev : Bool → Expr → Option PyData) (g e t) : callB ev Φ K g [e, t] (some .isi) = if isBoolName K t then (ev true e).bind isiD else none := by rw [callB]
theorem callB_len (ev : Bool → Expr → Option PyData) (g args) : callB ev Φ K g args (some .len) = (mapO (ev true) args).bind fun ds => biD .len ds := by rw [callB]; intro h; cases h
theorem callB_abs (ev : Bool → Expr → Option PyData) (g args) : callB ev Φ K g args (some .abs) = (mapO (ev true) args).bind fun ds => biD .abs ds := by rw [callB]; intro h; cases h
theorem callB_sum (ev : Bool → Expr → Option PyData) (g args) : callB ev Φ K g args (some .sum) = (mapO (ev true) args).bind fun ds => biD .sum ds := by rw [callB]; intro h; cases h
theorem callB_fn (ev : Bool → Expr → Option PyData) (g args fl F) (h : Φ g = some (fl, F)) : callB ev Φ K g args none = (mapF ev fl args).bind fun ds => F ds := by rw [callB, h]
theorem ev_lc (elt tgt iter ifs sc p) (asy : Int) : evalE Φ (n + 1) K ρ rd (.ListComp elt [⟨tgt, iter, ifs, asy⟩] sc p) = if asy == 0 && compSc sc K && tgtC sc tgt then
          (itemsE Φ n K ρ true iter).bind fun items => (compGo (compB sc tgt (capt sc ρ) (testsB (testE Φ n (fun x => (relN sc.names K).lookup x)) ifs) (elB (evalE Φ n (fun x => (relN sc.names K).lookup x)) elt)) items).map PyData.list
        else none := by rw [evalE]
theorem pt_none : partE Φ (n + 1) K ρ none = some none := by rw [partE]
theorem pt_some (e) : partE Φ (n + 1) K ρ (some e) = (evalE Φ n K ρ true e).bind asPart := by rw [partE]
def cmT (op : CmpOp) (d : PyData) : Option Bool := if isBoolD d then match op with
          | .Is => some true
          | .IsNot => some false
          | _ => none
        else none
def cmB (ev : Bool → Expr → Option PyData) (K : Kd) (l : Expr) (op : CmpOp) (r : Expr) : Option Expr → Option Bool
  | some e => if isBoolName K r then (ev true e).bind (cmT op) else none
  | none => (ev true l).bind fun a => (ev true r).bind fun b => cmpD op a b
theorem cm_step (l op r) : cmpE Φ (n + 1) K ρ l op r = if behindInMarks op r then none else cmB (evalE Φ n K ρ) K l op r (typeArg? K l) := by
  unfold cmpE
  congr 1
theorem cmB_none (ev : Bool → Expr → Option PyData) (l op r) : cmB ev K l op r none = (ev true l).bind fun a => (ev true r).bind fun b => cmpD op a b := by rw [cmB]
theorem cmB_some (ev : Bool → Expr → Option PyData) (l op r e) : cmB ev K l op r (some e) = if isBoolName K r then (ev true e).bind (cmT op) else none := by rw [cmB]
def itB (ev : Bool → Expr → Option PyData) (rd : Bool) (e : Expr) : Option (List Expr) → Option (List PyData)
  | some args => (mapO (ev true) args).bind rangeD
  | none => (ev rd e).bind itemsD
theorem it_step (e) : itemsE Φ (n + 1) K ρ rd e = itB (evalE Φ n K ρ) rd e (rangeArgs? K e) := by
  rw [itemsE]
  unfold itB
  cases rangeArgs? K e <;> rfl
theorem itB_none (ev : Bool → Expr → Option PyData) (e) : itB ev rd e none = (ev rd e).bind itemsD := by rw [itB]
theorem itB_some (ev : Bool → Expr → Option PyData) (e args) : itB ev rd e (some args) = (mapO (ev true) args).bind rangeD := by rw [itB]
theorem te_not (x p) : testE Φ (n + 1) K ρ (.UnaryOp .Not x p) = (testE Φ n K ρ x).map (!·) := by rw [testE]
theorem te_bool (op vs p) : testE Φ (n + 1) K ρ (.BoolOp op vs p) = allGo (testE Φ n K ρ) op vs := by rw [testE]
theorem te_cmp (l op r p) : testE Φ (n + 1) K ρ (.Compare l [op] [r] p) = cmpE Φ n K ρ l op r := by rw [testE]
theorem te_name (x p) : testE Φ (n + 1) K ρ (.Name x p) = (evalE Φ n K ρ true (.Name x p)).bind asBool := by rw [testE] <;> simp
theorem te_call (f a k p) : testE Φ (n + 1) K ρ (.Call f a k p) = (evalE Φ n K ρ true (.Call f a k p)).bind asBool := by rw [testE] <;> simp
theorem te_const (c k p) : testE Φ (n + 1) K ρ (.Constant c k p) = (evalE Φ n K ρ true (.Constant c k p)).bind asBool := by rw [testE] <;> simp
theorem te_sub (v i p) : testE Φ (n + 1) K ρ (.Subscript v i p) = (evalE Φ n K ρ true (.Subscript v i p)).bind asBool := by rw [testE] <;> simp
theorem ex_pass (p) : execS Φ wf (n + 1) K ρ (.Pass p) = some (.next, ρ) := by rw [execS]
theorem ex_cont (p) : execS Φ wf (n + 1) K ρ (.Continue p) = some (.cont, ρ) := by rw [execS]
theorem ex_ret (e p) : execS Φ wf (n + 1) K ρ (.Return (some e) p) = (evalE Φ n K (thaw ρ) false e).map fun d => (.ret d, ρ) := by rw [execS]
theorem ex_if (t b o p) : execS Φ wf (n + 1) K ρ (.If t b o p) = (testE Φ n K ρ t).bind fun c => if c then seqGo (execS Φ wf n K) ρ b else seqGo (execS Φ wf n K) ρ o := by rw [execS]
theorem ex_assign (x q v p) : execS Φ wf (n + 1) K ρ (.Assign [.Name x q] v p) = if K x == some .local || K x == some .cell then
          (evalE Φ n K ρ false v).map fun d => (.next, setR ρ x ⟨frM x v d, d⟩) else none := by rw [execS]
def appB (ρ : Rho) (x : Str) (v : Option PyData) : Option Bd → Option (Fl × Rho)
  | some ⟨.own, .list xs⟩ => v.bind fun d => if xs.length < sizeLine then some (.next, setR ρ x ⟨.own, .list (xs ++ [d])⟩) else none
  | _ => none
theorem ex_app (x q attr apos e cpos p) : execS Φ wf (n + 1) K ρ (.Expr (.Call (.Attribute (.Name x q) attr apos) [e] [] cpos) p) = if attr == Str.ofString "append" && apos.endLine == cpos.line && !(x == Str.ofString "__debug__") then
              appB ρ x (evalE Φ n K ρ false e) (ρ.lookup x) else none := by
  rw [execS]
  congr 1
theorem appB_own (xs : List PyData) (x : Str) (v : Option PyData) : appB ρ x v (some ⟨.own, .list xs⟩) = v.bind fun d => if xs.length < sizeLine then some (.next, setR ρ x ⟨.own, .list (xs ++ [d])⟩) else none := by rw [appB]
end steps

theorem seq_nil (f : Rho → Stmt → Option (Fl × Rho)) (ρ : Rho) : seqGo f ρ [] = some (.next, ρ) := rfl
theorem seq_next {f : Rho → Stmt → Option (Fl × Rho)} {ρ ρ1 : Rho} {st : Stmt} {r : List Stmt} (h : f ρ st = some (.next, ρ1)) : seqGo f ρ (st :: r) = seqGo f ρ1 r := by simp only [seqGo, h, Option.bind_some]
theorem seq_ret {f : Rho → Stmt → Option (Fl × Rho)} {ρ ρ1 : Rho} {st : Stmt} {r : List Stmt} {d : PyData} (h : f ρ st = some (.ret d, ρ1)) : seqGo f ρ (st :: r) = some (.ret d, ρ1) := by simp only [seqGo, h, Option.bind_some]
theorem exec_for {Φ : Fns} {wf n : Nat} {K : Kd} {ρ : Rho} {tgt iter : Expr} {body : List Stmt} {pos : Pos} {items : List PyData} {r : Fl × Rho} (ht : tgtT K tgt = true) (hi : itemsE Φ n K ρ false iter = some items)
    (hf : forGo (fun ρ d => (bindT K tgt d ρ).bind (runB (execS Φ wf n K) body)) ρ items = some r) : execS Φ wf (n + 1) K ρ (.For tgt iter body [] pos) = some r := by
  simp only [execS, ht, if_true, hi, Option.bind_some]; exact hf
theorem exec_while {Φ : Fns} {wf n : Nat} {K : Kd} {ρ : Rho} {t : Expr} {body : List Stmt} {pos : Pos} {r : Fl × Rho}
    (hf : whileGo (testB (testE Φ n K) t) (runB (execS Φ wf n K) body) wf ρ = some r) : execS Φ wf (n + 1) K ρ (.While t body [] pos) = some r := by
  simp only [execS]; exact hf
theorem exec_if_true {Φ : Fns} {wf n : Nat} {K : Kd} {ρ : Rho} {t : Expr} {b o : List Stmt} {pos : Pos} {r : Fl × Rho} (ht : testE Φ n K ρ t = some true) (h : seqGo (execS Φ wf n K) ρ b = some r) : execS Φ wf (n + 1) K ρ (.If t b o pos) = some r := by
  simp only [execS, ht, Option.bind_some, if_true]; exact h
theorem exec_if_false {Φ : Fns} {wf n : Nat} {K : Kd} {ρ : Rho} {t : Expr} {b o : List Stmt} {pos : Pos} {r : Fl × Rho} (ht : testE Φ n K ρ t = some false) (h : seqGo (execS Φ wf n K) ρ o = some r) : execS Φ wf (n + 1) K ρ (.If t b o pos) = some r := by
  simp only [execS, ht, Option.bind_some, Bool.false_eq_true, if_false]; exact h
theorem ret_of {x : Option (Fl × Rho)} {d : PyData} {ρ : Rho} (h : x = some (.ret d, ρ)) : x.bind retOf = some d := by rw [h]; rfl

/-- a for that goes through its items, turn by turn -/
theorem forGo_run {α σ : Type} (F : Rho → PyData → Option (Fl × Rho)) (en : α → PyData) (step : σ → α → Except PyData σ) (ρ1 : σ → α → Rho) (Inv : σ → Prop)
    (h : ∀ s x y, Inv s → (∀ s', step s y = .ok s' → Inv s' ∧ F (ρ1 s x) (en y) = some (.next, ρ1 s' y)) ∧ (∀ d, step s y = .error d → ∃ ρ', F (ρ1 s x) (en y) = some (.ret d, ρ'))) :
    ∀ (l : List α) (s : σ) (x : α), Inv s → (∀ s', l.foldlM step s = .ok s' → Inv s' ∧ ∃ y, forGo F (ρ1 s x) (l.map en) = some (.next, ρ1 s' y)) ∧ (∀ d, l.foldlM step s = .error d → ∃ ρ', forGo F (ρ1 s x) (l.map en) = some (.ret d, ρ'))
  | [], s, x, hi => ⟨fun s' e => by cases e; exact ⟨hi, x, rfl⟩, fun d e => by cases e⟩
  | y :: l, s, x, hi => by
    obtain ⟨h1, h2⟩ := h s x y hi
    cases hs : step s y with
    | ok s1 =>
      obtain ⟨hi1, hF⟩ := h1 s1 hs
      obtain ⟨r1, r2⟩ := forGo_run F en step ρ1 Inv h l s1 y hi1
      simp only [List.foldlM_cons, hs, List.map_cons, forGo, hF, Option.bind_some]
      exact ⟨r1, r2⟩
    | error d =>
      obtain ⟨ρ', hF⟩ := h2 d hs
      simp only [List.foldlM_cons, hs, List.map_cons, forGo, hF, Option.bind_some]
      refine ⟨fun s' e => (by cases e), fun d' e => ?_⟩
      cases e
      exact ⟨ρ', rfl⟩

/-- a for at the head of a suite whose value is asked: its turns fold a state -/
theorem for_turns {α σ : Type} {Φ : Fns} {wf n : Nat} {K : Kd} {tgt : Expr} {body : List Stmt} (en : α → PyData) (step : σ → α → Except PyData σ) (ρ1 : σ → α → Rho) (Inv : Nat → σ → Prop) (N : Nat)
    (h1 : ∀ s x y, bindT K tgt (en y) (ρ1 s x) = some (ρ1 s y))
    (hb : ∀ i s y, i < N → Inv i s → (∀ s', step s y = .ok s' → Inv (i + 1) s' ∧ runB (execS Φ wf n K) body (ρ1 s y) = some (.next, ρ1 s' y)) ∧ (∀ d, step s y = .error d → ∃ ρ', runB (execS Φ wf n K) body (ρ1 s y) = some (.ret d, ρ'))) :
    ∀ (l : List α) (i : Nat) (s : σ) (x : α), i + l.length ≤ N → Inv i s →
      (∀ s', l.foldlM step s = .ok s' → Inv (i + l.length) s' ∧ ∃ y, forGo (fun ρ d => (bindT K tgt d ρ).bind (runB (execS Φ wf n K) body)) (ρ1 s x) (l.map en) = some (.next, ρ1 s' y)) ∧
      (∀ d, l.foldlM step s = .error d → ∃ ρ', forGo (fun ρ d => (bindT K tgt d ρ).bind (runB (execS Φ wf n K) body)) (ρ1 s x) (l.map en) = some (.ret d, ρ'))
  | [], i, s, x, _, hi => ⟨fun s' e => by cases e; exact ⟨hi, x, rfl⟩, fun d e => by cases e⟩
  | y :: l, i, s, x, hN, hi => by
    simp only [List.length_cons] at hN
    obtain ⟨g1, g2⟩ := hb i s y (by omega) hi
    cases hs : step s y with
    | ok s1 =>
      obtain ⟨hi1, hF⟩ := g1 s1 hs
      obtain ⟨r1, r2⟩ := for_turns en step ρ1 Inv N h1 hb l (i + 1) s1 y (by omega) hi1
      simp only [List.foldlM_cons, hs, List.map_cons, forGo, h1, hF, Option.bind_some, List.length_cons]
      rw [show i + (l.length + 1) = i + 1 + l.length by omega]
      exact ⟨r1, r2⟩
    | error d =>
      obtain ⟨ρ', hF⟩ := g2 d hs
      simp only [List.foldlM_cons, hs, List.map_cons, forGo, h1, hF, Option.bind_some]
      refine ⟨fun s' e => (by cases e), fun d' e => ?_⟩
      cases e
      exact ⟨ρ', rfl⟩
theorem for_seq {α σ : Type} {Φ : Fns} {wf n : Nat} {K : Kd} {ρ0 : Rho} {tgt iter : Expr} {body rest : List Stmt} {pos : Pos} {res : PyData} (en : α → PyData) (step : σ → α → Except PyData σ) (ρ1 : σ → α → Rho) (Inv : Nat → σ → Prop) (l : List α) (s0 : σ)
    (ht : tgtT K tgt = true) (hi : itemsE Φ n K ρ0 false iter = some (l.map en)) (h0 : ∀ y, bindT K tgt (en y) ρ0 = some (ρ1 s0 y)) (h1 : ∀ s x y, bindT K tgt (en y) (ρ1 s x) = some (ρ1 s y))
    (hI : Inv 0 s0)
    (hb : ∀ i s y, i < l.length → Inv i s → (∀ s', step s y = .ok s' → Inv (i + 1) s' ∧ runB (execS Φ wf n K) body (ρ1 s y) = some (.next, ρ1 s' y)) ∧ (∀ d, step s y = .error d → ∃ ρ', runB (execS Φ wf n K) body (ρ1 s y) = some (.ret d, ρ')))
    (hnil : l = [] → (seqGo (execS Φ wf (n + 1) K) ρ0 rest).bind retOf = some res)
    (hend : ∀ s' y, l.foldlM step s0 = .ok s' → Inv l.length s' → (seqGo (execS Φ wf (n + 1) K) (ρ1 s' y) rest).bind retOf = some res)
    (herr : ∀ d, l.foldlM step s0 = .error d → d = res) :
    (seqGo (execS Φ wf (n + 1) K) ρ0 (.For tgt iter body [] pos :: rest)).bind retOf = some res := by
  cases l with
  | nil =>
    rw [seq_next (exec_for ht hi rfl)]
    exact hnil rfl
  | cons y l =>
    have key : forGo (fun ρ d => (bindT K tgt d ρ).bind (runB (execS Φ wf n K) body)) ρ0 ((y :: l).map en) = forGo (fun ρ d => (bindT K tgt d ρ).bind (runB (execS Φ wf n K) body)) (ρ1 s0 y) ((y :: l).map en) := by
      simp only [List.map_cons, forGo, h0, h1]
    obtain ⟨r1, r2⟩ := for_turns (Φ := Φ) (wf := wf) (n := n) (K := K) (tgt := tgt) (body := body) en step ρ1 Inv (y :: l).length h1 hb (y :: l) 0 s0 y (by omega) hI
    cases hf : (y :: l).foldlM step s0 with
    | ok s' =>
      obtain ⟨hi', z, hz⟩ := r1 s' hf
      rw [Nat.zero_add] at hi'
      rw [seq_next (exec_for ht hi (key.trans hz))]
      exact hend s' z hf hi'
    | error d =>
      obtain ⟨ρ', hz⟩ := r2 d hf
      rw [seq_ret (exec_for ht hi (key.trans hz)), ← herr d hf]
      rfl

/-- a while that counts a number down to where its test fails -/
theorem while_down {T : Rho → Option Bool} {F : Rho → Option (Fl × Rho)} (ρ : Nat → Int → Rho) (g : Nat → Int → Int) (sc : Nat → Int → Nat) (sw : Nat → Int → Int) (L : Nat)
    (c0 : ∀ w, sc 0 w = 0) (w0 : ∀ w, sw 0 w = w) (cs : ∀ s w, sc (s + 1) w = if 0 < w then sc s (g s w) else s + 1) (ws : ∀ s w, sw (s + 1) w = if 0 < w then sw s (g s w) else w)
    (ht : ∀ s w, T (ρ s w) = some (decide (0 < w) && decide (0 < (s : Int)))) (hf : ∀ s w, s < L → F (ρ (s + 1) w) = some (.next, ρ s (g s w))) :
    ∀ (s : Nat) (w : Int) (k : Nat), s ≤ L → s < k → whileGo T F k (ρ s w) = some (.next, ρ (sc s w) (sw s w))
  | _, _, 0, _, h => absurd h (Nat.not_lt_zero _)
  | 0, w, k + 1, _, _ => by simp [whileGo, ht, c0, w0]
  | s + 1, w, k + 1, hL, hk => by
    rw [whileGo, ht, cs, ws]
    have : (0 : Int) < ((s + 1 : Nat) : Int) := by omega
    by_cases hw : 0 < w
    · simp only [hw, this, decide_true, Bool.and_self, Option.bind_some, if_true, hf s w (by omega)]
      exact while_down ρ g sc sw L c0 w0 cs ws ht hf s (g s w) k (by omega) (by omega)
    · simp only [hw, decide_false, Bool.false_and, Option.bind_some, Bool.false_eq_true, if_false]

theorem foldlM_ok {σ α : Type} (f : σ → α → σ) : ∀ (l : List α) (s : σ), l.foldlM (fun s x => (Except.ok (f s x) : Except PyData σ)) s = .ok (l.foldl f s)
  | [], _ => rfl
  | x :: l, s => by rw [List.foldlM_cons, List.foldl_cons]; exact foldlM_ok f l (f s x)
/-- a for whose turns never leave it -/
theorem for_pure {α σ : Type} {Φ : Fns} {wf n : Nat} {K : Kd} {ρ0 : Rho} {tgt iter : Expr} {body : List Stmt} {pos : Pos} (en : α → PyData) (step : σ → α → σ) (ρ1 : σ → α → Rho) (Inv : Nat → σ → Prop) (l : List α) (s0 : σ)
    (ht : tgtT K tgt = true) (hi : itemsE Φ n K ρ0 false iter = some (l.map en)) (h0 : ∀ y, bindT K tgt (en y) ρ0 = some (ρ1 s0 y)) (h1 : ∀ s x y, bindT K tgt (en y) (ρ1 s x) = some (ρ1 s y))
    (hI : Inv 0 s0) (hb : ∀ i s y, i < l.length → Inv i s → Inv (i + 1) (step s y) ∧ runB (execS Φ wf n K) body (ρ1 s y) = some (.next, ρ1 (step s y) y))
    (hne : l ≠ [] ∨ ∃ x, ρ0 = ρ1 s0 x) : Inv l.length (l.foldl step s0) ∧ ∃ y, execS Φ wf (n + 1) K ρ0 (.For tgt iter body [] pos) = some (.next, ρ1 (l.foldl step s0) y) := by
  have run := for_turns (Φ := Φ) (wf := wf) (n := n) (K := K) (tgt := tgt) (body := body) en (fun s x => .ok (step s x)) ρ1 Inv l.length h1 (fun i s y hi' hs => by
    refine ⟨fun s' e => ?_, fun d e => by cases e⟩
    cases e
    exact hb i s y hi' hs)
  cases l with
  | nil =>
    rcases hne with h | ⟨x, h⟩
    · exact absurd rfl h
    · refine ⟨hI, x, exec_for ht hi ?_⟩
      rw [h]; rfl
  | cons y l =>
    have key : forGo (fun ρ d => (bindT K tgt d ρ).bind (runB (execS Φ wf n K) body)) ρ0 ((y :: l).map en) = forGo (fun ρ d => (bindT K tgt d ρ).bind (runB (execS Φ wf n K) body)) (ρ1 s0 y) ((y :: l).map en) := by
      simp only [List.map_cons, forGo, h0, h1]
    obtain ⟨hi', z, hz⟩ := (run (y :: l) 0 s0 y (by omega) hI).1 _ (foldlM_ok step (y :: l) s0)
    rw [Nat.zero_add] at hi'
    exact ⟨hi', z, exec_for ht hi (key.trans hz)⟩
theorem for_pure_seq {α σ : Type} {Φ : Fns} {wf n : Nat} {K : Kd} {ρ0 : Rho} {tgt iter : Expr} {body rest : List Stmt} {pos : Pos} {res : PyData} (en : α → PyData) (step : σ → α → σ) (ρ1 : σ → α → Rho) (Inv : Nat → σ → Prop) (l : List α) (s0 : σ)
    (ht : tgtT K tgt = true) (hi : itemsE Φ n K ρ0 false iter = some (l.map en)) (h0 : ∀ y, bindT K tgt (en y) ρ0 = some (ρ1 s0 y)) (h1 : ∀ s x y, bindT K tgt (en y) (ρ1 s x) = some (ρ1 s y))
    (hI : Inv 0 s0) (hb : ∀ i s y, i < l.length → Inv i s → Inv (i + 1) (step s y) ∧ runB (execS Φ wf n K) body (ρ1 s y) = some (.next, ρ1 (step s y) y))
    (hne : l ≠ [] ∨ ∃ x, ρ0 = ρ1 s0 x) (hk : ∀ y, Inv l.length (l.foldl step s0) → (seqGo (execS Φ wf (n + 1) K) (ρ1 (l.foldl step s0) y) rest).bind retOf = some res) :
    (seqGo (execS Φ wf (n + 1) K) ρ0 (.For tgt iter body [] pos :: rest)).bind retOf = some res := by
  obtain ⟨hi', y, hy⟩ := for_pure (pos := pos) en step ρ1 Inv l s0 ht hi h0 h1 hI hb hne
  rw [seq_next hy]
  exact hk y hi'
theorem fold1 (x : String × Int) : PyData.list [enc x] = encL [x] := rfl
theorem fold2 (x y : String × Int) : PyData.list [enc x, enc y] = encL [x, y] := rfl
theorem fold3 (x y z : String × Int) : PyData.list [enc x, enc y, enc z] = encL [x, y, z] := rfl
theorem idx2_0 (x y : PyData) : idxD (.list [x, y]) (.int 0) = some x := rfl
theorem idx2_1 (x y : PyData) : idxD (.list [x, y]) (.int 1) = some y := rfl

def recAt (p : Program) (i : Nat) : DefRec := match p.main.body[i]? with
  | some (.FunctionDef name a b _ _ _ sc _ _ pos) => ⟨name, a, b, sc, pos⟩
  | _ => ⟨Str.empty, ⟨[], [], none, [], [], none, []⟩, [], default, default⟩
theorem defOk_of (r : DefRec) (fl : List Bool) (hfl : fl.length = r.params.args.length) (hk : r.scope.kind = .function ∧ r.scope.isCoroutine = false ∧ r.scope.isGenerator = false)
    (hb : ∀ pm cd doc (args : List Value), args.length = r.params.args.length → bindArgs (docDef r.name r.params r.body r.scope pm cd doc) ⟨args, []⟩ = pure ((r.params.args.map (·.arg)).zip args))
    (hn : (r.params.args.map (·.arg)).Nodup) (hpar : ∀ x ∈ r.params.args.map (·.arg), r.scope.names.lookup x = some .local ∨ r.scope.names.lookup x = some .cell) (hfree : ∀ p ∈ r.scope.names, p.2 ≠ .free) : DefOk (defOf fl r) := by
  refine ⟨fun pm cd doc args h => hb pm cd doc args (by simpa [Def.names, defOf] using h), hk.1, hk.2.1, hk.2.2, by simp [defOf, Def.names, hfl], hn, hpar, fun x hx => ?_⟩
  exact hfree _ (mem_of_lookup hx) rfl
theorem tab_at {D : List Def} {wf n k : Nat} {f : Str} {d : Def} (h : D.find? (fun d => d.name == f) = some d) : tabF D wf n (k + 1) f = some (d.fl, callD (tabF D wf n k) wf n d) := by
  simp only [tabF, h, Option.map_some]
theorem frm_own {x : Str} (v : Expr) (d : PyData) (h : ownN x = true) : frM x v d = isFresh v d := by rw [frM, if_pos h]
theorem frm_val {x : Str} (v : Expr) (d : PyData) (h : ownN x = false) : frM x v d = .val := by rw [frM, h]; rfl
theorem ownN_lit (x : String) : ownN (Str.ofString x) = ["built", "met", "out", "s", "work", "names", "held", "renaming", "same", "todo", "types"].contains x := by
  simp only [ownN, List.contains_cons, List.contains_nil, ofString_beq]
theorem fr1 (a b p t) : isFresh (.BinOp a .Add b p) (encL t) = .own := by rw [encL, isFresh]
theorem fr2 (a p t) : isFresh (.List a p) (encL t) = .own := by rw [encL, isFresh]
/-! comprehensions -/
theorem compGo_eq {α : Type} {f : PyData → Option (Option PyData)} (en : α → PyData) (h : α → Option PyData) : ∀ (l : List α), (∀ x ∈ l, f (en x) = some (h x)) → compGo f (l.map en) = some (l.filterMap h)
  | [], _ => rfl
  | x :: l, hx => by
    simp only [List.map_cons, compGo, hx x (by simp), Option.bind_some, compGo_eq en h l fun y hy => hx y (by simp [hy]), List.filterMap_cons]
    cases h x <;> rfl
theorem compGo_map {α : Type} {f : PyData → Option (Option PyData)} (en : α → PyData) (h : α → PyData) (l : List α) (hx : ∀ x ∈ l, f (en x) = some (some (h x))) : compGo f (l.map en) = some (l.map h) := by
  rw [compGo_eq en (fun x => some (h x)) l hx, List.filterMap_eq_map']
theorem nka : (NameKind.local == NameKind.free) = false := rfl
theorem nkb : (NameKind.free == NameKind.free) = true := rfl
theorem nkc : (NameKind.globalImplicit == NameKind.free) = false := rfl
theorem nkd : (NameKind.cell == NameKind.free) = false := rfl
theorem slD_clip (xs : List PyData) (a b : Nat) (hab : a ≤ b) : slD xs (some a) (some b) none = (xs.drop a).take (b - a) := by
  have e : sliceBounds (some (a : Int)) (some (b : Int)) none xs.length = (((min a xs.length : Nat) : Int), ((min b xs.length : Nat) : Int), 1) := by
    simp only [sliceBounds, Option.getD_none]
    have h1 : ¬ ((a : Int) < 0) := by omega
    have h2 : ¬ ((b : Int) < 0) := by omega
    simp only [h1, h2, if_false, show (1 : Int) > 0 by decide, if_true]
    congr 1
    · omega
    · congr 1; omega
  unfold slD
  rw [e]
  simp only [sliceRange_one, pickL]
  by_cases h : a ≤ xs.length
  · rw [Nat.min_eq_left h]
    by_cases h2 : b ≤ xs.length
    · rw [Nat.min_eq_left h2]
    · rw [Nat.min_eq_right (by omega), List.take_of_length_le (by simp), List.take_of_length_le (by simp; omega)]
  · rw [List.drop_of_length_le (show xs.length ≤ min a xs.length by omega), List.drop_of_length_le (show xs.length ≤ a by omega)]
    simp
theorem bi3 (xs : List PyData) : biD .sum [.list xs] = (intsOf xs).bind fun l => some (.int l.sum) := rfl
theorem intsOf_map : ∀ (l : List Int), intsOf (l.map PyData.int) = some l
  | [] => rfl
  | x :: l => by rw [List.map_cons, intsOf, intsOf_map l]; rfl
theorem eqv_listnil (xs : List PyData) : PyData.eqv (.list xs) (.list []) = xs.isEmpty := by cases xs <;> simp [PyData.eqv, PyData.eqvAll]
theorem dep_ints (n : Nat) (l : List Int) : dep (n + 1) (.list (l.map .int)) = true := by
  rw [dep, List.all_eq_true]; intro d hd; obtain ⟨x, _, rfl⟩ := List.mem_map.mp hd; exact dep_int n x

theorem cm9 (a b : PyData) : cmpD .In a b = inD a b := rfl
theorem cm10 (a b : PyData) : cmpD .NotIn a b = (inD a b).map (!·) := rfl
theorem eqv_enc' (x : String × Int) (k : String) (n : Int) : PyData.eqv (.tuple [.str (Str.ofString k), .int n]) (enc x) = decide (x = (k, n)) := by
  rw [show PyData.tuple [.str (Str.ofString k), .int n] = enc (k, n) from rfl, show enc x = .tuple [.str (Str.ofString x.1), .int x.2] from rfl, eqv_enc]
  rw [Bool.eq_iff_iff, decide_eq_true_eq, decide_eq_true_eq]
  exact eq_comm
theorem in2 (x : String × Int) (k1 k2 : String) (n1 n2 : Int) : inD (enc x) (.list [.tuple [.str (Str.ofString k1), .int n1], .tuple [.str (Str.ofString k2), .int n2]]) = some (decide (x = (k1, n1) ∨ x = (k2, n2))) := by
  simp only [inD, dep_enc, List.all_cons, List.all_nil, dep_tup, Bool.and_self, if_true, List.any_cons, List.any_nil, eqv_enc', Bool.or_false, Bool.decide_or]

theorem itemsL (xs : List PyData) : itemsD (.list xs) = if xs.length ≤ sizeLine then some xs else none := rfl
theorem items_encL (t : List (String × Int)) (h : t.length ≤ 16777216) : itemsD (encL t) = some (t.map enc) := by
  rw [encL, itemsL, if_pos (by rw [szl, List.length_map]; exact h)]
end Mine
open PySem PySem.W PyProof.Rows
set_option Elab.async false
set_option maxRecDepth 100000
set_option maxHeartbeats 8000000
namespace Mine
open_top hd for PySem.Challenge.rw_k13_0001
end Mine
set_option autoImplicit false
set_option maxRecDepth 100000
set_option linter.unusedSimpArgs false
namespace Mine
open PySem PySem.Spec PySem.Calls PyProof.Rows PySem.W

abbrev pw := PySem.Challenge.pw_k13_0001

-- opens a call of the i-th def
local macro_rules | `(tactic| ktr_unf) => `(tactic| (
  unfold callD
  simp only [defOf, recAt, pw, PySem.Challenge.pw_k13_0001, List.getElem?_cons_succ, List.getElem?_cons_zero, Def.names, entry, List.map_cons, List.map_nil, List.length_cons, List.length_nil, Nat.reduceAdd, if_true, List.zip_cons_cons, List.zip_nil_left, List.zip_nil_right, Bool.false_eq_true, if_false]))
-- runs it
local macro_rules | `(tactic| ktr_rel) => `(tactic| (
  simp only [seqGo, ev_const, ev_name, ev_tuple, ev_list, ev_bin, ev_un, ev_cmp, ev_bool, ev_ife, ev_sub_c, ev_sub_n, ev_sub_b, ev_sub_u, ev_sub_k, ev_sub_s, ev_slice, ev_call, callB_isi, callB_len, callB_abs, callB_sum, pt_none, pt_some, cm_step, cmB_none, cmB_some, it_step, itB_none, itB_some, te_not, te_bool, te_cmp, te_name, te_call, te_const, te_sub, ex_pass, ex_cont, ex_ret, ex_if, ex_assign, ex_app, appB_own, isiD, cmT, nameD, typeArg?, behindInMarks, isBoolName, isGlob, rangeArgs?, mapO, mapF, allGo, boolGo, biOf, bi1, bi2, bi3, cm1, cm2, cm3, cm4, cm5, cm6, cm7, cm8, cm9, cm10, constD, bn1, bn2, bn3, bn4, bn5, unD, bo1, bo2, szl, asBool, asPart, thaw, setR, bindT, retOf, forGo, isFresh, frM, ownN_lit, List.contains_cons, List.contains_nil, tgtT, itemsL, rangeD, isBoolD,
    List.lookup_cons, List.lookup_nil, ofString_beq, String.reduceBEq, beq_self_eq_true, strOk_ofString, md1, md2, md3, md4, md5, md6, nk1, nk2, nk3, nk4, nk5, nk6, nk7, nk8, nk9, nk10, nk11, nk12, nk13, nk14, bnd, Option.bind_none, mpd, Option.map_none, Bool.true_and, Bool.and_true, Bool.false_and, Bool.and_false, Bool.or_true, Bool.true_or, Bool.false_or, Bool.or_false, Bool.not_true, Bool.not_false, if_true, if_false, Bool.false_eq_true, reduceCtorEq, List.map_cons, List.map_nil, List.length_map, List.length_cons, List.length_nil, List.cons_append, List.nil_append, Nat.reduceLeDiff, Nat.reduceAdd, Int.reduceLT, and_self, true_and, and_true, Int.reduceAdd, dep_enc, dep_tup, dep_str, dep_int, dep_bool, dep_encL, dep_nilL, eqv_enc, eqv_str, eqv_int, eqv_bool, eqv_encL, idx_enc0, idx_enc1, Bool.and_self, Prod.mk.injEq, String.reduceEq, false_and, decide_false, decide_true, Int.reduceLE, ge_iff_le, gt_iff_lt, Int.reduceEq]))

def cell (ns : List Int) (i : Int) : Int := ns.getD i.toNat 0
theorem run_cell (Φ : Fns) (wf : Nat) (ns : List Int) (i : Int) (hn : ns.length ≤ 63) (h0 : 0 ≤ i) :
    callD Φ wf 60 (defOf [false, false] (recAt pw 4)) [.list (ns.map .int), .int i] = some (.int (cell ns i)) := by
  ktr_unf
  ktr_rel
  have h1 : ns.length ≤ 16777216 := by omega
  simp only [h1, if_true, bnd]
  ktr_rel
  by_cases h2 : i < (ns.length : Int)
  · have h3 : inFit i = true := by unfold inFit; simp only [Bool.and_eq_true, decide_eq_true_eq]; omega
    have h4 : seqIndex? i ns.length = some i.toNat := by
      unfold seqIndex?
      simp only [show ¬ i < 0 by omega, if_false]
      rw [if_pos (by simp only [Bool.and_eq_true, decide_eq_true_eq]; omega)]
    have h5 : i.toNat < ns.length := by omega
    simp only [idxL, List.length_map, h2, decide_true, if_true, h3, h4, retOf, Option.bind_some, List.getElem?_map, List.getElem?_eq_getElem h5, Option.map_some, cell, List.getD_eq_getElem?_getD, Option.getD_some]
  · have h5 : ns.length ≤ i.toNat := by omega
    simp only [h2, decide_false, retOf, Bool.false_eq_true, if_false, Option.bind_some, cell, List.getD_eq_getElem?_getD, List.getElem?_eq_none h5, Option.getD_none]
theorem fmod_cases2 (c : Int) : c.fmod 2 = 0 ∨ c.fmod 2 = 1 := by
  have h1 := Int.fmod_nonneg_of_pos c (by decide : (0:Int) < 2)
  have h2 := Int.fmod_lt_of_pos c (by decide : (0:Int) < 2)
  omega
theorem fmod_cases3 (c : Int) : c.fmod 3 = 0 ∨ c.fmod 3 = 1 ∨ c.fmod 3 = 2 := by
  have h1 := Int.fmod_nonneg_of_pos c (by decide : (0:Int) < 3)
  have h2 := Int.fmod_lt_of_pos c (by decide : (0:Int) < 3)
  omega
theorem fmod_cases4 (c : Int) : c.fmod 4 = 0 ∨ c.fmod 4 = 1 ∨ c.fmod 4 = 2 ∨ c.fmod 4 = 3 := by
  have h1 := Int.fmod_nonneg_of_pos c (by decide : (0:Int) < 4)
  have h2 := Int.fmod_lt_of_pos c (by decide : (0:Int) < 4)
  omega
theorem fmod_cases5 (c : Int) : c.fmod 5 = 0 ∨ c.fmod 5 = 1 ∨ c.fmod 5 = 2 ∨ c.fmod 5 = 3 ∨ c.fmod 5 = 4 := by
  have h1 := Int.fmod_nonneg_of_pos c (by decide : (0:Int) < 5)
  have h2 := Int.fmod_lt_of_pos c (by decide : (0:Int) < 5)
  omega
theorem fmod_cases6 (c : Int) : c.fmod 6 = 0 ∨ c.fmod 6 = 1 ∨ c.fmod 6 = 2 ∨ c.fmod 6 = 3 ∨ c.fmod 6 = 4 ∨ c.fmod 6 = 5 := by
  have h1 := Int.fmod_nonneg_of_pos c (by decide : (0:Int) < 6)
  have h2 := Int.fmod_lt_of_pos c (by decide : (0:Int) < 6)
  omega
theorem fmod_cases8 (c : Int) : c.fmod 8 = 0 ∨ c.fmod 8 = 1 ∨ c.fmod 8 = 2 ∨ c.fmod 8 = 3 ∨ c.fmod 8 = 4 ∨ c.fmod 8 = 5 ∨ c.fmod 8 = 6 ∨ c.fmod 8 = 7 := by
  have h1 := Int.fmod_nonneg_of_pos c (by decide : (0:Int) < 8)
  have h2 := Int.fmod_lt_of_pos c (by decide : (0:Int) < 8)
  omega
def strsD (l : List String) : PyData := .list (l.map fun x => .str (Str.ofString x))
def names8 : List String := ["int", "bool", "fun", "pair", "var", "var", "list", ""]
theorem run_names (Φ : Fns) (wf : Nat) : callD Φ wf 60 (defOf [] (recAt pw 3)) [] = some (strsD names8) := by
  ktr_unf
  ktr_rel
  rfl
def leafI (a : Int) : String × Int := if a.fmod 4 = 0 then ("int", 0) else if a.fmod 4 = 1 then ("bool", 0) else if a.fmod 4 = 2 then ("var", 0) else ("var", if a.fdiv 4 < 0 then -(a.fdiv 4) else a.fdiv 4)
theorem run_leaf (Φ : Fns) (wf : Nat) (c : Int) : callD Φ wf 60 (defOf [false] (recAt pw 5)) [.int c] = some (enc (leafI c)) := by
  ktr_unf
  ktr_rel
  rcases fmod_cases4 c with h | h | h | h <;> simp only [h, leafI, enc] <;> rfl
def anyN (a : Int) : String := names8.getD (a.fmod 8).toNat ""
def anyV (b : Int) : Int := [0, 0, -1, 1, b.fdiv 5].getD (b.fmod 5).toNat 0
def anyI (a b : Int) : String × Int := (anyN a, anyV b)
theorem idx_names (a : Int) : idxD (strsD names8) (.int (a.fmod 8)) = some (.str (Str.ofString (anyN a))) := by
  unfold anyN
  rcases fmod_cases8 a with h | h | h | h | h | h | h | h <;> rw [h] <;> rfl
theorem idx_any (b : Int) : idxD (.list [.int 0, .int 0, .int (-1), .int 1, .int (b.fdiv 5)]) (.int (b.fmod 5)) = some (.int (anyV b)) := by
  unfold anyV
  rcases fmod_cases5 b with h | h | h | h | h <;> rw [h] <;> rfl
theorem run_any (Φ : Fns) (wf : Nat) (Fn : List PyData → Option PyData) (hn : Φ (Str.ofString "_law_names") = some ([], Fn)) (hF : Fn [] = some (strsD names8)) (a b : Int) : callD Φ wf 60 (defOf [false, false] (recAt pw 6)) [.int a, .int b] = some (enc (anyI a b)) := by
  ktr_unf
  ktr_rel
  simp only [callB_fn Φ _ _ _ _ _ _ hn]
  ktr_rel
  rw [hF]
  ktr_rel
  rw [idx_names, idx_any]
  ktr_rel
  rfl
def stepI (x : String × Int) : Int := if x = ("fun", 0) ∨ x = ("pair", 0) then -1 else if x = ("int", 0) ∨ x = ("bool", 0) then 1 else if x.1 = "var" ∧ x.2 ≥ 0 then 1 else -100
theorem run_step (Φ : Fns) (wf : Nat) (x : String × Int) : callD Φ wf 60 (defOf [false] (recAt pw 7)) [enc x] = some (.int (stepI x)) := by
  ktr_unf
  ktr_rel
  rw [in2]
  unfold stepI
  by_cases h1 : x = ("fun", 0) ∨ x = ("pair", 0)
  · simp only [h1, decide_true, if_true]; ktr_rel
  · simp only [h1, decide_false, if_false]
    ktr_rel
    rw [in2]
    by_cases h2 : x = ("int", 0) ∨ x = ("bool", 0)
    · simp only [h2, decide_true, if_true]; ktr_rel
    · simp only [h2, decide_false, if_false]
      ktr_rel
      by_cases h3 : x.1 = "var"
      · by_cases h4 : 0 ≤ x.2
        · simp only [h3, h4, decide_true, if_true, beq_self_eq_true]; ktr_rel
        · simp only [h3, h4, decide_false, if_false, beq_self_eq_true]; ktr_rel
      · simp only [h3, beq_eq_false_iff_ne.mpr h3]; ktr_rel

/-! type_ok -/
def tyStep (found : Int) (x : String × Int) : Except PyData Int :=
  if x = ("fun", 0) ∨ x = ("pair", 0) then (if found < 2 then .error (.bool false) else .ok (found - 1))
  else if x = ("int", 0) ∨ x = ("bool", 0) then .ok (found + 1)
  else if x.1 = "var" ∧ x.2 ≥ 0 then .ok (found + 1)
  else .error (.bool false)
def typeOk (t : List (String × Int)) : Bool := match t.foldlM tyStep 0 with | .ok n => decide (n = 1) | .error _ => false
theorem tyStep_cases (s : Int) (x : String × Int) : ((x = ("fun", 0) ∨ x = ("pair", 0)) ∧ s < 2 ∧ tyStep s x = .error (.bool false)) ∨ ((x = ("fun", 0) ∨ x = ("pair", 0)) ∧ ¬ s < 2 ∧ tyStep s x = .ok (s - 1)) ∨
    ((x = ("int", 0) ∨ x = ("bool", 0)) ∧ tyStep s x = .ok (s + 1)) ∨ ((∃ n, x = ("var", n) ∧ 0 ≤ n) ∧ tyStep s x = .ok (s + 1)) ∨
    (x ≠ ("fun", 0) ∧ x ≠ ("pair", 0) ∧ x ≠ ("int", 0) ∧ x ≠ ("bool", 0) ∧ ¬ (x.1 = "var" ∧ x.2 ≥ 0) ∧ tyStep s x = .error (.bool false)) := by
  unfold tyStep
  by_cases h1 : x = ("fun", 0) ∨ x = ("pair", 0)
  · by_cases h2 : s < 2
    · left; simp [h1, h2]
    · right; left; simp [h1, h2]
  · by_cases h3 : x = ("int", 0) ∨ x = ("bool", 0)
    · right; right; left; simp [h1, h3]
    · by_cases h4 : x.1 = "var" ∧ x.2 ≥ 0
      · right; right; right; left
        refine ⟨⟨x.2, by obtain ⟨a, b⟩ := x; simp only at h4; rw [h4.1], h4.2⟩, by simp [h1, h3, h4]⟩
      · right; right; right; right
        simp only [not_or] at h1 h3
        refine ⟨h1.1, h1.2, h3.1, h3.2, h4, ?_⟩
        simp [h1, h3, h4]
theorem run_type_ok (Φ : Fns) (wf : Nat) (t : List (String × Int)) (ht : t.length ≤ 1000) : callD Φ wf 60 (defOf [false] (recAt pw 1)) [encL t] = some (.bool (typeOk t)) := by
  ktr_unf
  generalize hT : encL t = T
  have h1 : t.length ≤ 16777216 := by omega
  rw [seq_next (ρ1 := [(Str.ofString "t", ⟨.val, T⟩), (Str.ofString "found", ⟨.val, .int 0⟩)]) (by ktr_rel)]
  refine for_seq enc tyStep (fun s x => [(Str.ofString "t", ⟨.val, T⟩), (Str.ofString "found", ⟨.val, .int s⟩), (Str.ofString "item", ⟨.val, enc x⟩)]) (fun _ _ => True) t 0 (by ktr_rel) ?_ (fun y => by ktr_rel) (fun s x y => by ktr_rel) trivial ?_ ?_ ?_ ?_
  · ktr_rel
    rw [← hT, items_encL t h1]
  · intro i s y _ _
    unfold runB
    rcases tyStep_cases s y with ⟨hy, hs, e⟩ | ⟨hy, hs, e⟩ | ⟨hy, e⟩ | ⟨⟨n, hy, hn⟩, e⟩ | ⟨n1, n2, n3, n4, n5, e⟩
    · rw [e]
      refine ⟨fun _ h => (by cases h), fun d h => ⟨[(Str.ofString "t", ⟨.val, T⟩), (Str.ofString "found", ⟨.val, .int s⟩), (Str.ofString "item", ⟨.val, enc y⟩)], ?_⟩⟩
      cases h
      rcases hy with rfl | rfl <;> ktr_rel <;> simp only [hs, decide_true] <;> ktr_rel
    · rw [e]
      refine ⟨fun s' h => ⟨trivial, ?_⟩, fun d h => (by cases h)⟩
      cases h
      rcases hy with rfl | rfl <;> ktr_rel <;> simp only [hs, decide_false] <;> ktr_rel
    · rw [e]
      refine ⟨fun s' h => ⟨trivial, ?_⟩, fun d h => (by cases h)⟩
      cases h
      rcases hy with rfl | rfl <;> ktr_rel
    · rw [e]
      refine ⟨fun s' h => ⟨trivial, ?_⟩, fun d h => (by cases h)⟩
      cases h
      subst hy
      ktr_rel
      simp only [hn, decide_true]
      ktr_rel
    · rw [e]
      refine ⟨fun _ h => (by cases h), fun d h => ⟨[(Str.ofString "t", ⟨.val, T⟩), (Str.ofString "found", ⟨.val, .int s⟩), (Str.ofString "item", ⟨.val, enc y⟩)], ?_⟩⟩
      cases h
      ktr_rel
      simp only [n1, n2, n3, n4, decide_false]
      ktr_rel
      by_cases h5 : y.1 = "var"
      · have h6 : ¬ 0 ≤ y.2 := fun h => n5 ⟨h5, h⟩
        simp only [h5, beq_self_eq_true, h6, decide_false]
        ktr_rel
      · simp only [beq_eq_false_iff_ne.mpr h5]
        ktr_rel
  · intro hl
    subst hl
    ktr_rel
    rfl
  · intro s' y hf _
    ktr_rel
    simp only [typeOk, hf]
  · intro d hf
    have : d = .bool false := foldlM_err (P := fun d => d = .bool false) tyStep (fun s x d h => by
      rcases tyStep_cases s x with ⟨_, _, e⟩ | ⟨_, _, e⟩ | ⟨_, e⟩ | ⟨_, e⟩ | ⟨_, _, _, _, _, e⟩ <;> rw [e] at h <;> cases h <;> rfl) t 0 d hf
    simp only [this, typeOk, hf]


end Mine
set_option autoImplicit false
set_option maxRecDepth 100000
set_option linter.unusedSimpArgs false
namespace Mine
open PySem PySem.Spec PySem.Calls PyProof.Rows PySem.W

-- opens a call of the i-th def
local macro_rules | `(tactic| ktr_unf) => `(tactic| (
  unfold callD
  simp only [defOf, recAt, pw, PySem.Challenge.pw_k13_0001, List.getElem?_cons_succ, List.getElem?_cons_zero, Def.names, entry, List.map_cons, List.map_nil, List.length_cons, List.length_nil, Nat.reduceAdd, if_true, List.zip_cons_cons, List.zip_nil_left, List.zip_nil_right, Bool.false_eq_true, if_false]))
-- runs it
local macro_rules | `(tactic| ktr_rel) => `(tactic| (
  simp only [seqGo, ev_const, ev_name, ev_tuple, ev_list, ev_bin, ev_un, ev_cmp, ev_bool, ev_ife, ev_sub_c, ev_sub_n, ev_sub_b, ev_sub_u, ev_sub_k, ev_sub_s, ev_slice, ev_call, callB_isi, callB_len, callB_abs, callB_sum, pt_none, pt_some, cm_step, cmB_none, cmB_some, it_step, itB_none, itB_some, te_not, te_bool, te_cmp, te_name, te_call, te_const, te_sub, ex_pass, ex_cont, ex_ret, ex_if, ex_assign, ex_app, appB_own, isiD, cmT, nameD, typeArg?, behindInMarks, isBoolName, isGlob, rangeArgs?, mapO, mapF, allGo, boolGo, biOf, bi1, bi2, bi3, cm1, cm2, cm3, cm4, cm5, cm6, cm7, cm8, cm9, cm10, constD, bn1, bn2, bn3, bn4, bn5, unD, bo1, bo2, szl, asBool, asPart, thaw, setR, bindT, retOf, forGo, isFresh, frM, ownN_lit, List.contains_cons, List.contains_nil, tgtT, itemsL, rangeD, isBoolD,
    List.lookup_cons, List.lookup_nil, ofString_beq, String.reduceBEq, beq_self_eq_true, strOk_ofString, md1, md2, md3, md4, md5, md6, nk1, nk2, nk3, nk4, nk5, nk6, nk7, nk8, nk9, nk10, nk11, nk12, nk13, nk14, bnd, Option.bind_none, mpd, Option.map_none, Bool.true_and, Bool.and_true, Bool.false_and, Bool.and_false, Bool.or_true, Bool.true_or, Bool.false_or, Bool.or_false, Bool.not_true, Bool.not_false, if_true, if_false, Bool.false_eq_true, reduceCtorEq, List.map_cons, List.map_nil, List.length_map, List.length_cons, List.length_nil, List.cons_append, List.nil_append, Nat.reduceLeDiff, Nat.reduceAdd, Int.reduceLT, and_self, true_and, and_true, Int.reduceAdd, dep_enc, dep_tup, dep_str, dep_int, dep_bool, dep_encL, dep_nilL, eqv_enc, eqv_str, eqv_int, eqv_bool, eqv_encL, idx_enc0, idx_enc1, Bool.and_self, Prod.mk.injEq, String.reduceEq, false_and, decide_false, decide_true, Int.reduceLE, ge_iff_le, gt_iff_lt, Int.reduceEq]))

theorem filt_map : ∀ l : List Int, l.filterMap (fun h : Int => if h < 1 then some (PyData.int h) else none) = (l.filter fun h => decide (h < 1)).map .int
  | [] => rfl
  | x :: l => by
    rw [List.filterMap_cons, filt_map l, List.filter_cons]
    by_cases h : x < 1 <;> simp [h]
def heights (l : List Int) : List Int := (List.range l.length).map fun i => (l.take (i + 1)).sum
def due (t : List (String × Int)) : Bool := ((heights (t.map stepI)).filter fun h => decide (h < 1)).isEmpty && decide ((t.map stepI).sum = 1)
theorem run_due (Φ : Fns) (wf : Nat) (Fs : List PyData → Option PyData) (hs : Φ (Str.ofString "_law_step") = some ([false], Fs)) (hF : ∀ x : String × Int, Fs [enc x] = some (.int (stepI x))) (t : List (String × Int)) (ht : t.length ≤ 100) :
    callD Φ wf 60 (defOf [false] (recAt pw 8)) [encL t] = some (.bool (due t)) := by
  ktr_unf
  have h1 : t.length ≤ 16777216 := by omega
  rw [seq_next (ρ1 := [(Str.ofString "t", ⟨.val, encL t⟩), (Str.ofString "steps", ⟨.val, .list ((t.map stepI).map .int)⟩)]) (by
    ktr_rel
    rw [ev_lc, if_pos (by kernel_rfl)]
    ktr_rel
    rw [items_encL t h1, bnd, compGo_map enc (fun x => .int (stepI x)) t (fun x _ => by
      simp only [compB, bindC, testsB, elB, capt, relN, List.filter_cons, List.filter_nil, List.map_cons, List.map_nil, nka, nkb, nkc, nkd]
      ktr_rel
      simp only [callB_fn Φ _ _ _ _ _ _ hs]
      ktr_rel
      rw [hF]
      ktr_rel)]
    ktr_rel
    simp only [List.map_map]
    rfl)]
  rw [seq_next (ρ1 := [(Str.ofString "t", ⟨.val, encL t⟩), (Str.ofString "steps", ⟨.val, .list ((t.map stepI).map .int)⟩), (Str.ofString "heights", ⟨.val, .list ((heights (t.map stepI)).map .int)⟩)]) (by
    ktr_rel
    rw [ev_lc, if_pos (by kernel_rfl)]
    ktr_rel
    have e1 : smallI (t.length : Int) = true := by unfold smallI; simp only [Bool.and_eq_true, decide_eq_true_eq]; omega
    simp only [h1, if_true, bnd]
    ktr_rel
    simp only [e1, if_true, bnd, rangeL, Int.sub_zero, Int.toNat_natCast]
    rw [compGo_map (fun i : Nat => PyData.int (0 + i)) (fun i => .int (((t.map stepI).take (i + 1)).sum)) (List.range t.length) (fun i hi => by
      have hi' := List.mem_range.mp hi
      simp only [compB, bindC, testsB, elB, capt, relN, List.filter_cons, List.filter_nil, List.map_cons, List.map_nil, nka, nkb, nkc, nkd]
      ktr_rel
      rw [show (0 : Int) + (i : Int) + 1 = ((i + 1 : Nat) : Int) by omega]
      simp only [slcD, bnd]
      rw [slD_upto _ _ (by simp; omega), if_pos ⟨by simp, by simpa [szl] using h1⟩]
      ktr_rel
      rw [← List.map_take, intsOf_map]
      ktr_rel)]
    ktr_rel
    simp only [heights, List.map_map, List.length_map]
    rfl)]
  have hlen : ((heights (t.map stepI)).map PyData.int).length ≤ 16777216 := by simp only [heights, List.length_map, List.length_range]; exact h1
  have hb : ∀ ρ1 : Rho, True := fun _ => trivial
  by_cases hb : ((heights (t.map stepI)).filter fun h => decide (h < 1)).isEmpty = true
  · rw [seq_next (ρ1 := [(Str.ofString "t", ⟨.val, encL t⟩), (Str.ofString "steps", ⟨.val, .list ((t.map stepI).map .int)⟩), (Str.ofString "heights", ⟨.val, .list ((heights (t.map stepI)).map .int)⟩)]) (by
      ktr_rel
      rw [ev_lc, if_pos (by kernel_rfl)]
      ktr_rel
      rw [List.length_map] at hlen
      simp only [hlen, if_true, bnd]
      rw [compGo_eq PyData.int (fun h : Int => if h < 1 then some (.int h) else none) _ (fun h _ => by
        simp only [compB, bindC, testsB, elB, capt, relN, List.filter_cons, List.filter_nil, List.map_cons, List.map_nil, nka, nkb, nkc, nkd]
        ktr_rel
        by_cases h3 : h < 1
        · simp only [h3, decide_true, if_true]; ktr_rel
        · simp only [h3, decide_false, if_false]; ktr_rel), filt_map]
      ktr_rel
      rw [dep_ints, eqv_listnil, List.isEmpty_map, hb]
      ktr_rel)]
    ktr_rel
    rw [intsOf_map]
    ktr_rel
    rw [due, hb, Bool.true_and]
  · rw [seq_ret (ρ1 := [(Str.ofString "t", ⟨.val, encL t⟩), (Str.ofString "steps", ⟨.val, .list ((t.map stepI).map .int)⟩), (Str.ofString "heights", ⟨.val, .list ((heights (t.map stepI)).map .int)⟩)]) (d := .bool false) (by
      ktr_rel
      rw [ev_lc, if_pos (by kernel_rfl)]
      ktr_rel
      rw [List.length_map] at hlen
      simp only [hlen, if_true, bnd]
      rw [compGo_eq PyData.int (fun h : Int => if h < 1 then some (.int h) else none) _ (fun h _ => by
        simp only [compB, bindC, testsB, elB, capt, relN, List.filter_cons, List.filter_nil, List.map_cons, List.map_nil, nka, nkb, nkc, nkd]
        ktr_rel
        by_cases h3 : h < 1
        · simp only [h3, decide_true, if_true]; ktr_rel
        · simp only [h3, decide_false, if_false]; ktr_rel), filt_map]
      ktr_rel
      rw [Bool.not_eq_true] at hb
      rw [dep_ints, eqv_listnil, List.isEmpty_map, hb]
      ktr_rel)]
    rw [Bool.not_eq_true] at hb
    rw [due, hb]
    rfl
end Mine
set_option autoImplicit false
set_option maxRecDepth 100000
set_option linter.unusedSimpArgs false
namespace Mine
open PySem PySem.Spec PySem.Calls PyProof.Rows PySem.W

-- opens a call of the i-th def
local macro_rules | `(tactic| ktr_unf) => `(tactic| (
  unfold callD
  simp only [defOf, recAt, pw, PySem.Challenge.pw_k13_0001, List.getElem?_cons_succ, List.getElem?_cons_zero, Def.names, entry, List.map_cons, List.map_nil, List.length_cons, List.length_nil, Nat.reduceAdd, if_true, List.zip_cons_cons, List.zip_nil_left, List.zip_nil_right, Bool.false_eq_true, if_false]))
-- runs it
local macro_rules | `(tactic| ktr_rel) => `(tactic| (
  simp only [seqGo, ev_const, ev_name, ev_tuple, ev_list, ev_bin, ev_un, ev_cmp, ev_bool, ev_ife, ev_sub_c, ev_sub_n, ev_sub_b, ev_sub_u, ev_sub_k, ev_sub_s, ev_slice, ev_call, callB_isi, callB_len, callB_abs, callB_sum, pt_none, pt_some, cm_step, cmB_none, cmB_some, it_step, itB_none, itB_some, te_not, te_bool, te_cmp, te_name, te_call, te_const, te_sub, ex_pass, ex_cont, ex_ret, ex_if, ex_assign, ex_app, appB_own, isiD, cmT, nameD, typeArg?, behindInMarks, isBoolName, isGlob, rangeArgs?, mapO, mapF, allGo, boolGo, biOf, bi1, bi2, bi3, cm1, cm2, cm3, cm4, cm5, cm6, cm7, cm8, cm9, cm10, constD, bn1, bn2, bn3, bn4, bn5, unD, bo1, bo2, szl, asBool, asPart, thaw, setR, bindT, retOf, forGo, isFresh, frM, ownN_lit, List.contains_cons, List.contains_nil, tgtT, itemsL, rangeD, isBoolD,
    List.lookup_cons, List.lookup_nil, ofString_beq, String.reduceBEq, beq_self_eq_true, strOk_ofString, md1, md2, md3, md4, md5, md6, nk1, nk2, nk3, nk4, nk5, nk6, nk7, nk8, nk9, nk10, nk11, nk12, nk13, nk14, bnd, Option.bind_none, mpd, Option.map_none, Bool.true_and, Bool.and_true, Bool.false_and, Bool.and_false, Bool.or_true, Bool.true_or, Bool.false_or, Bool.or_false, Bool.not_true, Bool.not_false, if_true, if_false, Bool.false_eq_true, reduceCtorEq, List.map_cons, List.map_nil, List.length_map, List.length_cons, List.length_nil, List.cons_append, List.nil_append, Nat.reduceLeDiff, Nat.reduceAdd, Int.reduceLT, and_self, true_and, and_true, Int.reduceAdd, dep_enc, dep_tup, dep_str, dep_int, dep_bool, dep_encL, dep_nilL, eqv_enc, eqv_str, eqv_int, eqv_bool, eqv_encL, idx_enc0, idx_enc1, Bool.and_self, Prod.mk.injEq, String.reduceEq, false_and, decide_false, decide_true, Int.reduceLE, ge_iff_le, gt_iff_lt, Int.reduceEq]))

def makerI (c : Int) : String × Int := if c.fmod 2 = 0 then ("fun", 0) else ("pair", 0)
theorem idx_maker (c : Int) : idxD (.list [.tuple [.str (Str.ofString "fun"), .int 0], .tuple [.str (Str.ofString "pair"), .int 0]]) (.int (c.fmod 2)) = some (enc (makerI c)) := by
  unfold makerI
  rcases fmod_cases2 c with h | h <;> rw [h] <;> rfl
abbrev LS := List (String × Int) × Option Int
def grow (t : List (String × Int)) (c : Int) : List (String × Int) :=
  if c.fmod 3 = 0 then t ++ [leafI (c.fdiv 6), makerI c] else if c.fmod 3 = 1 then [leafI (c.fdiv 6)] ++ t ++ [makerI c] else t ++ t ++ [makerI c]
theorem idx_grow (t : List (String × Int)) (c : Int) : idxD (.list [encL (t ++ [leafI (c.fdiv 6), makerI c]), encL ([leafI (c.fdiv 6)] ++ t ++ [makerI c]), encL (t ++ t ++ [makerI c])]) (.int (c.fmod 3)) = some (encL (grow t c)) := by
  unfold grow
  rcases fmod_cases3 c with h | h | h <;> rw [h] <;> rfl
def gStep (ns : List Int) (s : LS) (i : Nat) : LS := (grow s.1 (cell ns (3 + (0 + i))), some (cell ns (3 + (0 + i))))
def t0 (ns : List Int) : List (String × Int) := [leafI (cell ns 2)]
def t1 (ns : List Int) : LS := (List.range ((cell ns 1).fmod 4).toNat).foldl (gStep ns) (t0 ns, none)
def newT (ns : List Int) (t : List (String × Int)) (p : Nat) (odd : String × Int) : List (String × Int) :=
  if (cell ns 0).fmod 6 = 1 then t.take p ++ [odd] ++ t.drop (p + 1) else if (cell ns 0).fmod 6 = 2 then t.take p ++ [odd] ++ t.drop p else if (cell ns 0).fmod 6 = 3 then t.take p ++ t.drop (p + 1)
  else if (cell ns 0).fmod 6 = 4 then t.take p ++ [t.getD (t.length - 1) ("", 0)] ++ (t.take (t.length - 1)).drop p else if (cell ns 0).fmod 6 = 5 then ((ns.drop 1).take 7).map fun c => anyI c (c.fdiv 8) else t
theorem newT_len (ns : List Int) (t : List (String × Int)) (p : Nat) (odd : String × Int) (h : t.length ≤ 40) : (newT ns t p odd).length ≤ 100 := by
  unfold newT
  repeat' split
  all_goals first | omega | (simp; omega)
theorem slc_ints (ns : List Int) (h : ns.length ≤ 16777216) : slcD (.list (ns.map .int)) (some (some 1)) (some (some 8)) (some none) = some (.list (((ns.drop 1).take 7).map .int)) := by
  have := slD_clip (ns.map .int) 1 8 (by omega)
  simp only [slcD, Option.bind_some]
  rw [if_pos ⟨by simp, by simpa [szl] using h⟩]
  rw [show (some 1 : Option Int) = some ((1 : Nat) : Int) from rfl, show (some 8 : Option Int) = some ((8 : Nat) : Int) from rfl, this]
  simp [List.map_take, List.map_drop]
def rhoL (ns : List Int) (s : LS) (i : PyData) : Rho :=
  [(Str.ofString "script", ⟨.val, .list (ns.map .int)⟩), (Str.ofString "t", ⟨.val, encL s.1⟩), (Str.ofString "i", ⟨.val, i⟩)] ++ (match s.2 with | none => [] | some c => [(Str.ofString "c", ⟨.val, .int c⟩), (Str.ofString "maker", ⟨.val, enc (makerI c)⟩), (Str.ofString "leaf", ⟨.val, enc (leafI (c.fdiv 6))⟩)])
theorem run_law (Φ : Fns) (wf : Nat) (Fc Fl Fa Fo Fd : List PyData → Option PyData) (hc : Φ (Str.ofString "_law_cell") = some ([false, false], Fc)) (hl : Φ (Str.ofString "_law_leaf") = some ([false], Fl)) (ha : Φ (Str.ofString "_law_any") = some ([false, false], Fa)) (hto : Φ (Str.ofString "type_ok") = some ([false], Fo)) (hdu : Φ (Str.ofString "_law_due") = some ([false], Fd))
    (ns : List Int) (hns : ns.length ≤ 63) (hFc : ∀ i : Int, 0 ≤ i → Fc [.list (ns.map .int), .int i] = some (.int (cell ns i))) (hFl : ∀ c : Int, Fl [.int c] = some (enc (leafI c))) (hFa : ∀ a b : Int, Fa [.int a, .int b] = some (enc (anyI a b)))
    (hFo : ∀ t : List (String × Int), t.length ≤ 100 → Fo [encL t] = some (.bool (typeOk t))) (hFd : ∀ t : List (String × Int), t.length ≤ 100 → Fd [encL t] = some (.bool (due t))) (hres : ∀ t : List (String × Int), t.length ≤ 100 → typeOk t = due t) :
    callD Φ wf 60 (defOf [false] (recAt pw 9)) [.list (ns.map .int)] = some (.bool true) := by
  ktr_unf
  have hc0 := hFc 0 (by decide)
  have hc1 := hFc 1 (by decide)
  have hc2 := hFc 2 (by decide)
  have hc6 := hFc 6 (by decide)
  have hc7 := hFc 7 (by decide)
  have hc8 := hFc 8 (by decide)
  rw [seq_next (ρ1 := [(Str.ofString "script", ⟨.val, .list (ns.map .int)⟩), (Str.ofString "t", ⟨.val, encL (t0 ns)⟩)]) (by
    ktr_rel
    simp only [callB_fn Φ _ _ _ _ _ _ hl]
    ktr_rel
    simp only [callB_fn Φ _ _ _ _ _ _ hc]
    ktr_rel
    rw [hc2]
    ktr_rel
    rw [hFl]
    ktr_rel
    rfl)]
  have hm0 := Int.fmod_nonneg_of_pos (cell ns 1) (by decide : (0:Int) < 4)
  have hm4 := Int.fmod_lt_of_pos (cell ns 1) (by decide : (0:Int) < 4)
  have fin : ∀ t : List (String × Int), 1 ≤ t.length → t.length ≤ 40 → ∀ odd, odd = anyI (cell ns 7) (cell ns 8) → ∃ pn : Nat, (cell ns 6).fmod t.length = (pn : Int) ∧ pn < t.length := by
    intro t h1 h2 odd _
    have a := Int.fmod_nonneg_of_pos (cell ns 6) (show (0 : Int) < t.length by omega)
    have b := Int.fmod_lt_of_pos (cell ns 6) (show (0 : Int) < t.length by omega)
    exact ⟨((cell ns 6).fmod t.length).toNat, by omega, by omega⟩
  by_cases hz : (cell ns 1).fmod 4 = 0
  · rw [seq_next (exec_for (items := []) (by ktr_rel) (by
      ktr_rel
      simp only [callB_fn Φ _ _ _ _ _ _ hc]
      ktr_rel
      rw [hc1]
      ktr_rel
      rw [hz]
      rfl) rfl)]
    obtain ⟨pn, hpn, hlt0⟩ := fin (t0 ns) (by simp [t0]) (by simp [t0]) _ rfl
    have hlen : (t0 ns).length ≤ 40 := by simp [t0]
    have hlen1 : 1 ≤ (t0 ns).length := by simp [t0]
    generalize t0 ns = t at *
    generalize hodd : anyI (cell ns 7) (cell ns 8) = odd at *
    have h1 : t.length ≤ 16777216 := by omega
    have hlt := newT_len ns t pn odd hlen
    clear fin
    rw [seq_next (ρ1 := [(Str.ofString "script", ⟨.val, .list (ns.map .int)⟩), (Str.ofString "t", ⟨.val, encL (t)⟩), (Str.ofString "way", ⟨.val, .int ((cell ns 0).fmod 6)⟩)]) (by
      ktr_rel
      simp only [callB_fn Φ _ _ _ _ _ _ hc]
      ktr_rel
      rw [hc0]
      ktr_rel)]
    rw [seq_next (ρ1 := [(Str.ofString "script", ⟨.val, .list (ns.map .int)⟩), (Str.ofString "t", ⟨.val, encL (t)⟩), (Str.ofString "way", ⟨.val, .int ((cell ns 0).fmod 6)⟩), (Str.ofString "p", ⟨.val, .int (pn : Nat)⟩)]) (by
      ktr_rel
      simp only [callB_fn Φ _ _ _ _ _ _ hc]
      ktr_rel
      rw [hc6, len_encL t h1]
      ktr_rel
      rw [if_pos ⟨by omega, by omega⟩]
      ktr_rel
      rw [hpn])]
    rw [seq_next (ρ1 := [(Str.ofString "script", ⟨.val, .list (ns.map .int)⟩), (Str.ofString "t", ⟨.val, encL (t)⟩), (Str.ofString "way", ⟨.val, .int ((cell ns 0).fmod 6)⟩), (Str.ofString "p", ⟨.val, .int (pn : Nat)⟩), (Str.ofString "odd", ⟨.val, enc odd⟩)]) (by
      ktr_rel
      simp only [callB_fn Φ _ _ _ _ _ _ ha]
      ktr_rel
      simp only [callB_fn Φ _ _ _ _ _ _ hc]
      ktr_rel
      rw [hc7, hc8]
      ktr_rel
      rw [hFa, hodd]
      ktr_rel)]
    rw [seq_next (ρ1 := [(Str.ofString "script", ⟨.val, .list (ns.map .int)⟩), (Str.ofString "t", ⟨.val, encL (newT ns t pn odd)⟩), (Str.ofString "way", ⟨.val, .int ((cell ns 0).fmod 6)⟩), (Str.ofString "p", ⟨.val, .int (pn : Nat)⟩), (Str.ofString "odd", ⟨.val, enc odd⟩)]) (by
      ktr_rel
      rcases fmod_cases6 (cell ns 0) with h | h | h | h | h | h
      · simp only [newT, h, Int.reduceEq, decide_true, decide_false, if_true, if_false]; try ktr_rel
      · simp only [newT, h, Int.reduceEq, decide_true, decide_false, if_true, if_false]; try ktr_rel
        rw [slc_upto t pn (by omega) h1, show (pn : Int) + 1 = ((pn + 1 : Nat) : Int) by omega, slc_from t (pn + 1) (by omega) h1]; try ktr_rel
        rw [fold1, add_encL _ _ (by simp; omega)]; try ktr_rel
        rw [add_encL _ _ (by simp; omega)]; try ktr_rel
      · simp only [newT, h, Int.reduceEq, decide_true, decide_false, if_true, if_false]; try ktr_rel
        rw [slc_upto t pn (by omega) h1, slc_from t pn (by omega) h1]; try ktr_rel
        rw [fold1, add_encL _ _ (by simp; omega)]; try ktr_rel
        rw [add_encL _ _ (by simp; omega)]; try ktr_rel
      · simp only [newT, h, Int.reduceEq, decide_true, decide_false, if_true, if_false]; try ktr_rel
        rw [slc_upto t pn (by omega) h1, show (pn : Int) + 1 = ((pn + 1 : Nat) : Int) by omega, slc_from t (pn + 1) (by omega) h1]; try ktr_rel
        rw [add_encL _ _ (by simp; omega)]; try ktr_rel
      · simp only [newT, h, Int.reduceEq, decide_true, decide_false, if_true, if_false]; try ktr_rel
        rw [len_encL t h1]; try ktr_rel
        rw [slc_upto t pn (by omega) h1, show (t.length : Int) - 1 = ((t.length - 1 : Nat) : Int) by omega, slc_run t pn (t.length - 1) (by omega) (by omega) h1, idx_encL t _ (by omega) h1]; try ktr_rel
        rw [fold1, add_encL _ _ (by simp; omega)]; try ktr_rel
        rw [add_encL _ _ (by simp; omega)]; try ktr_rel
        rw [show t.getD (t.length - 1) ("", 0) = t[t.length - 1] by simp [List.getD_eq_getElem?_getD, show t.length - 1 < t.length by omega]]
      · simp only [newT, h, Int.reduceEq, decide_true, decide_false, if_true, if_false]; try ktr_rel
        rw [ev_lc, if_pos (by kernel_rfl)]
        ktr_rel
        rw [slc_ints ns (by omega)]
        ktr_rel
        rw [if_pos (by simp; omega), bnd, compGo_map PyData.int (fun c => enc (anyI c (c.fdiv 8))) ((ns.drop 1).take 7) (fun c _ => by
          simp only [compB, bindC, testsB, elB, capt, relN, List.filter_cons, List.filter_nil, List.map_cons, List.map_nil, nka, nkb, nkc, nkd]
          ktr_rel
          simp only [callB_fn Φ _ _ _ _ _ _ ha]
          ktr_rel
          rw [hFa]
          ktr_rel)]
        ktr_rel
        simp only [encL, List.map_map]
        rfl)]
    rw [seq_next (ρ1 := [(Str.ofString "script", ⟨.val, .list (ns.map .int)⟩), (Str.ofString "t", ⟨.val, encL (newT ns t pn odd)⟩), (Str.ofString "way", ⟨.val, .int ((cell ns 0).fmod 6)⟩), (Str.ofString "p", ⟨.val, .int (pn : Nat)⟩), (Str.ofString "odd", ⟨.val, enc odd⟩), (Str.ofString "kept", ⟨.val, encL (newT ns t pn odd)⟩)]) (by
      ktr_rel
      rw [slc_all _ (by omega)]
      ktr_rel)]
    rw [seq_next (ρ1 := [(Str.ofString "script", ⟨.val, .list (ns.map .int)⟩), (Str.ofString "t", ⟨.val, encL (newT ns t pn odd)⟩), (Str.ofString "way", ⟨.val, .int ((cell ns 0).fmod 6)⟩), (Str.ofString "p", ⟨.val, .int (pn : Nat)⟩), (Str.ofString "odd", ⟨.val, enc odd⟩), (Str.ofString "kept", ⟨.val, encL (newT ns t pn odd)⟩), (Str.ofString "got", ⟨.val, .bool (typeOk (newT ns t pn odd))⟩)]) (by
      ktr_rel
      simp only [callB_fn Φ _ _ _ _ _ _ hto]
      ktr_rel
      rw [hFo _ hlt]
      ktr_rel)]
    rw [seq_next (ρ1 := [(Str.ofString "script", ⟨.val, .list (ns.map .int)⟩), (Str.ofString "t", ⟨.val, encL (newT ns t pn odd)⟩), (Str.ofString "way", ⟨.val, .int ((cell ns 0).fmod 6)⟩), (Str.ofString "p", ⟨.val, .int (pn : Nat)⟩), (Str.ofString "odd", ⟨.val, enc odd⟩), (Str.ofString "kept", ⟨.val, encL (newT ns t pn odd)⟩), (Str.ofString "got", ⟨.val, .bool (typeOk (newT ns t pn odd))⟩)]) (by
      ktr_rel)]
    rw [seq_next (ρ1 := [(Str.ofString "script", ⟨.val, .list (ns.map .int)⟩), (Str.ofString "t", ⟨.val, encL (newT ns t pn odd)⟩), (Str.ofString "way", ⟨.val, .int ((cell ns 0).fmod 6)⟩), (Str.ofString "p", ⟨.val, .int (pn : Nat)⟩), (Str.ofString "odd", ⟨.val, enc odd⟩), (Str.ofString "kept", ⟨.val, encL (newT ns t pn odd)⟩), (Str.ofString "got", ⟨.val, .bool (typeOk (newT ns t pn odd))⟩)]) (by
      ktr_rel
      simp only [callB_fn Φ _ _ _ _ _ _ hdu]
      ktr_rel
      rw [hFd _ hlt, hres _ hlt]
      ktr_rel)]
    rw [seq_next (ρ1 := [(Str.ofString "script", ⟨.val, .list (ns.map .int)⟩), (Str.ofString "t", ⟨.val, encL (newT ns t pn odd)⟩), (Str.ofString "way", ⟨.val, .int ((cell ns 0).fmod 6)⟩), (Str.ofString "p", ⟨.val, .int (pn : Nat)⟩), (Str.ofString "odd", ⟨.val, enc odd⟩), (Str.ofString "kept", ⟨.val, encL (newT ns t pn odd)⟩), (Str.ofString "got", ⟨.val, .bool (typeOk (newT ns t pn odd))⟩)]) (by
      ktr_rel)]
    ktr_rel
  · refine for_pure_seq (fun k : Nat => PyData.int (0 + k)) (gStep ns) (fun s k => rhoL ns s (.int (0 + k))) (fun i s => 1 ≤ s.1.length ∧ s.1.length + 1 ≤ 2 ^ (i + 1) ∧ (0 < i → s.2 ≠ none)) (List.range ((cell ns 1).fmod 4).toNat) (t0 ns, none) (by ktr_rel) ?qb ?qc ?qd ⟨by simp [t0], by simp [t0], by simp⟩ ?qf (.inl (by intro h; have := congrArg List.length h; simp at this; omega)) ?qg
    case qb =>
      ktr_rel
      simp only [callB_fn Φ _ _ _ _ _ _ hc]
      ktr_rel
      rw [hc1]
      ktr_rel
      have e1 : smallI ((cell ns 1).fmod 4) = true := by unfold smallI; simp only [Bool.and_eq_true, decide_eq_true_eq]; omega
      simp only [e1, if_true, rangeL, Int.sub_zero]
    case qc => intro y; simp only [rhoL]; ktr_rel
    case qd =>
      intro s x y
      obtain ⟨b, o⟩ := s
      cases o <;> simp only [rhoL] <;> ktr_rel
    case qf =>
      intro i s k hi ⟨hs1, hs2, _⟩
      rw [List.length_range] at hi
      obtain ⟨t, o⟩ := s
      simp only at hs1 hs2
      have hp : 2 ^ (i + 1 + 1) = 2 * 2 ^ (i + 1) := by rw [Nat.pow_succ]; omega
      refine ⟨⟨?_, ?_, by simp [gStep]⟩, ?_⟩
      · simp only [gStep, grow]; repeat' split
        all_goals first | (simp; done) | (simp; omega)
      · simp only [gStep, grow]; repeat' split
        all_goals (simp; omega)
      · unfold runB
        have hi3 : i < 3 := by omega
        have hb : 2 ^ (i + 1) ≤ 8 := by
          match i, hi3 with
          | 0, _ => decide
          | 1, _ => decide
          | 2, _ => decide
        have hk : 0 ≤ (3 : Int) + (0 + k) := by omega
        have hck := hFc _ hk
        generalize hcc : cell ns (3 + (0 + (k : Int))) = c at hck
        have gs : gStep ns (t, o) k = (grow t c, some c) := by simp only [gStep, hcc]
        rw [gs]
        cases o with
        | none =>
          simp only [rhoL]
          rw [seq_next (ρ1 := [(Str.ofString "script", ⟨.val, .list (ns.map .int)⟩), (Str.ofString "t", ⟨.val, encL t⟩), (Str.ofString "i", ⟨.val, .int (0 + (k : Nat))⟩), (Str.ofString "c", ⟨.val, .int c⟩)]) (by
            ktr_rel
            simp only [callB_fn Φ _ _ _ _ _ _ hc]
            ktr_rel
            rw [hck]
            ktr_rel)]
          rw [seq_next (ρ1 := [(Str.ofString "script", ⟨.val, .list (ns.map .int)⟩), (Str.ofString "t", ⟨.val, encL t⟩), (Str.ofString "i", ⟨.val, .int (0 + (k : Nat))⟩), (Str.ofString "c", ⟨.val, .int c⟩), (Str.ofString "maker", ⟨.val, enc (makerI c)⟩)]) (by
            ktr_rel
            rw [idx_maker]
            ktr_rel)]
          rw [seq_next (ρ1 := [(Str.ofString "script", ⟨.val, .list (ns.map .int)⟩), (Str.ofString "t", ⟨.val, encL t⟩), (Str.ofString "i", ⟨.val, .int (0 + (k : Nat))⟩), (Str.ofString "c", ⟨.val, .int c⟩), (Str.ofString "maker", ⟨.val, enc (makerI c)⟩), (Str.ofString "leaf", ⟨.val, enc (leafI (c.fdiv 6))⟩)]) (by
            ktr_rel
            simp only [callB_fn Φ _ _ _ _ _ _ hl]
            ktr_rel
            rw [hFl]
            ktr_rel)]
          ktr_rel
          rw [fold2, fold1, fold1, add_encL t _ (by simp; omega), add_encL _ t (by simp; omega), add_encL t t (by omega)]
          ktr_rel
          rw [show leafI (c.fdiv 6) :: t = [leafI (c.fdiv 6)] ++ t from rfl, add_encL _ [makerI c] (by simp; omega), add_encL _ [makerI c] (by simp; omega)]
          ktr_rel
          rw [show leafI (c.fdiv 6) :: (t ++ [makerI c]) = [leafI (c.fdiv 6)] ++ t ++ [makerI c] from rfl, idx_grow]
          ktr_rel
        | some d =>
          simp only [rhoL]
          rw [seq_next (ρ1 := [(Str.ofString "script", ⟨.val, .list (ns.map .int)⟩), (Str.ofString "t", ⟨.val, encL t⟩), (Str.ofString "i", ⟨.val, .int (0 + (k : Nat))⟩), (Str.ofString "c", ⟨.val, .int c⟩), (Str.ofString "maker", ⟨.val, enc (makerI d)⟩), (Str.ofString "leaf", ⟨.val, enc (leafI (d.fdiv 6))⟩)]) (by
            ktr_rel
            simp only [callB_fn Φ _ _ _ _ _ _ hc]
            ktr_rel
            rw [hck]
            ktr_rel)]
          rw [seq_next (ρ1 := [(Str.ofString "script", ⟨.val, .list (ns.map .int)⟩), (Str.ofString "t", ⟨.val, encL t⟩), (Str.ofString "i", ⟨.val, .int (0 + (k : Nat))⟩), (Str.ofString "c", ⟨.val, .int c⟩), (Str.ofString "maker", ⟨.val, enc (makerI c)⟩), (Str.ofString "leaf", ⟨.val, enc (leafI (d.fdiv 6))⟩)]) (by
            ktr_rel
            rw [idx_maker]
            ktr_rel)]
          rw [seq_next (ρ1 := [(Str.ofString "script", ⟨.val, .list (ns.map .int)⟩), (Str.ofString "t", ⟨.val, encL t⟩), (Str.ofString "i", ⟨.val, .int (0 + (k : Nat))⟩), (Str.ofString "c", ⟨.val, .int c⟩), (Str.ofString "maker", ⟨.val, enc (makerI c)⟩), (Str.ofString "leaf", ⟨.val, enc (leafI (c.fdiv 6))⟩)]) (by
            ktr_rel
            simp only [callB_fn Φ _ _ _ _ _ _ hl]
            ktr_rel
            rw [hFl]
            ktr_rel)]
          ktr_rel
          rw [fold2, fold1, fold1, add_encL t _ (by simp; omega), add_encL _ t (by simp; omega), add_encL t t (by omega)]
          ktr_rel
          rw [show leafI (c.fdiv 6) :: t = [leafI (c.fdiv 6)] ++ t from rfl, add_encL _ [makerI c] (by simp; omega), add_encL _ [makerI c] (by simp; omega)]
          ktr_rel
          rw [show leafI (c.fdiv 6) :: (t ++ [makerI c]) = [leafI (c.fdiv 6)] ++ t ++ [makerI c] from rfl, idx_grow]
          ktr_rel
    case qg =>
      intro i ⟨hs1, hs2, hs3⟩
      rw [List.length_range] at hs2 hs3
      show (seqGo _ (rhoL ns (t1 ns) _) _).bind retOf = _
      have hs1 : 1 ≤ (t1 ns).1.length := hs1
      have hs2 : (t1 ns).1.length + 1 ≤ 2 ^ (((cell ns 1).fmod 4).toNat + 1) := hs2
      have hs3 : (t1 ns).2 ≠ none := hs3 (by omega)
      generalize t1 ns = s at hs1 hs2 hs3 ⊢
      obtain ⟨t, o⟩ := s
      cases o with
      | none => exact absurd rfl hs3
      | some c =>
        simp only at hs1 hs2
        have hb : 2 ^ (((cell ns 1).fmod 4).toNat + 1) ≤ 2 ^ 4 := Nat.pow_le_pow_right (by decide) (by omega)
        have hlen : t.length ≤ 40 := by omega
        obtain ⟨pn, hpn, hlt0⟩ := fin t hs1 hlen _ rfl
        generalize hodd : anyI (cell ns 7) (cell ns 8) = odd at *
        have h1 : t.length ≤ 16777216 := by omega
        have hlt := newT_len ns t pn odd hlen
        clear fin
        simp only [rhoL]
        rw [seq_next (ρ1 := [(Str.ofString "script", ⟨.val, .list (ns.map .int)⟩), (Str.ofString "t", ⟨.val, encL (t)⟩), (Str.ofString "i", ⟨.val, .int (0 + (i : Nat))⟩), (Str.ofString "c", ⟨.val, .int c⟩), (Str.ofString "maker", ⟨.val, enc (makerI c)⟩), (Str.ofString "leaf", ⟨.val, enc (leafI (c.fdiv 6))⟩), (Str.ofString "way", ⟨.val, .int ((cell ns 0).fmod 6)⟩)]) (by
          ktr_rel
          simp only [callB_fn Φ _ _ _ _ _ _ hc]
          ktr_rel
          rw [hc0]
          ktr_rel)]
        rw [seq_next (ρ1 := [(Str.ofString "script", ⟨.val, .list (ns.map .int)⟩), (Str.ofString "t", ⟨.val, encL (t)⟩), (Str.ofString "i", ⟨.val, .int (0 + (i : Nat))⟩), (Str.ofString "c", ⟨.val, .int c⟩), (Str.ofString "maker", ⟨.val, enc (makerI c)⟩), (Str.ofString "leaf", ⟨.val, enc (leafI (c.fdiv 6))⟩), (Str.ofString "way", ⟨.val, .int ((cell ns 0).fmod 6)⟩), (Str.ofString "p", ⟨.val, .int (pn : Nat)⟩)]) (by
          ktr_rel
          simp only [callB_fn Φ _ _ _ _ _ _ hc]
          ktr_rel
          rw [hc6, len_encL t h1]
          ktr_rel
          rw [if_pos ⟨by omega, by omega⟩]
          ktr_rel
          rw [hpn])]
        rw [seq_next (ρ1 := [(Str.ofString "script", ⟨.val, .list (ns.map .int)⟩), (Str.ofString "t", ⟨.val, encL (t)⟩), (Str.ofString "i", ⟨.val, .int (0 + (i : Nat))⟩), (Str.ofString "c", ⟨.val, .int c⟩), (Str.ofString "maker", ⟨.val, enc (makerI c)⟩), (Str.ofString "leaf", ⟨.val, enc (leafI (c.fdiv 6))⟩), (Str.ofString "way", ⟨.val, .int ((cell ns 0).fmod 6)⟩), (Str.ofString "p", ⟨.val, .int (pn : Nat)⟩), (Str.ofString "odd", ⟨.val, enc odd⟩)]) (by
          ktr_rel
          simp only [callB_fn Φ _ _ _ _ _ _ ha]
          ktr_rel
          simp only [callB_fn Φ _ _ _ _ _ _ hc]
          ktr_rel
          rw [hc7, hc8]
          ktr_rel
          rw [hFa, hodd]
          ktr_rel)]
        rw [seq_next (ρ1 := [(Str.ofString "script", ⟨.val, .list (ns.map .int)⟩), (Str.ofString "t", ⟨.val, encL (newT ns t pn odd)⟩), (Str.ofString "i", ⟨.val, .int (0 + (i : Nat))⟩), (Str.ofString "c", ⟨.val, .int c⟩), (Str.ofString "maker", ⟨.val, enc (makerI c)⟩), (Str.ofString "leaf", ⟨.val, enc (leafI (c.fdiv 6))⟩), (Str.ofString "way", ⟨.val, .int ((cell ns 0).fmod 6)⟩), (Str.ofString "p", ⟨.val, .int (pn : Nat)⟩), (Str.ofString "odd", ⟨.val, enc odd⟩)]) (by
          ktr_rel
          rcases fmod_cases6 (cell ns 0) with h | h | h | h | h | h
          · simp only [newT, h, Int.reduceEq, decide_true, decide_false, if_true, if_false]; try ktr_rel
          · simp only [newT, h, Int.reduceEq, decide_true, decide_false, if_true, if_false]; try ktr_rel
            rw [slc_upto t pn (by omega) h1, show (pn : Int) + 1 = ((pn + 1 : Nat) : Int) by omega, slc_from t (pn + 1) (by omega) h1]; try ktr_rel
            rw [fold1, add_encL _ _ (by simp; omega)]; try ktr_rel
            rw [add_encL _ _ (by simp; omega)]; try ktr_rel
          · simp only [newT, h, Int.reduceEq, decide_true, decide_false, if_true, if_false]; try ktr_rel
            rw [slc_upto t pn (by omega) h1, slc_from t pn (by omega) h1]; try ktr_rel
            rw [fold1, add_encL _ _ (by simp; omega)]; try ktr_rel
            rw [add_encL _ _ (by simp; omega)]; try ktr_rel
          · simp only [newT, h, Int.reduceEq, decide_true, decide_false, if_true, if_false]; try ktr_rel
            rw [slc_upto t pn (by omega) h1, show (pn : Int) + 1 = ((pn + 1 : Nat) : Int) by omega, slc_from t (pn + 1) (by omega) h1]; try ktr_rel
            rw [add_encL _ _ (by simp; omega)]; try ktr_rel
          · simp only [newT, h, Int.reduceEq, decide_true, decide_false, if_true, if_false]; try ktr_rel
            rw [len_encL t h1]; try ktr_rel
            rw [slc_upto t pn (by omega) h1, show (t.length : Int) - 1 = ((t.length - 1 : Nat) : Int) by omega, slc_run t pn (t.length - 1) (by omega) (by omega) h1, idx_encL t _ (by omega) h1]; try ktr_rel
            rw [fold1, add_encL _ _ (by simp; omega)]; try ktr_rel
            rw [add_encL _ _ (by simp; omega)]; try ktr_rel
            rw [show t.getD (t.length - 1) ("", 0) = t[t.length - 1] by simp [List.getD_eq_getElem?_getD, show t.length - 1 < t.length by omega]]
          · simp only [newT, h, Int.reduceEq, decide_true, decide_false, if_true, if_false]; try ktr_rel
            rw [ev_lc, if_pos (by kernel_rfl)]
            ktr_rel
            rw [slc_ints ns (by omega)]
            ktr_rel
            rw [if_pos (by simp; omega), bnd, compGo_map PyData.int (fun c => enc (anyI c (c.fdiv 8))) ((ns.drop 1).take 7) (fun c _ => by
              simp only [compB, bindC, testsB, elB, capt, relN, List.filter_cons, List.filter_nil, List.map_cons, List.map_nil, nka, nkb, nkc, nkd]
              ktr_rel
              simp only [callB_fn Φ _ _ _ _ _ _ ha]
              ktr_rel
              rw [hFa]
              ktr_rel)]
            ktr_rel
            simp only [encL, List.map_map]
            rfl)]
        rw [seq_next (ρ1 := [(Str.ofString "script", ⟨.val, .list (ns.map .int)⟩), (Str.ofString "t", ⟨.val, encL (newT ns t pn odd)⟩), (Str.ofString "i", ⟨.val, .int (0 + (i : Nat))⟩), (Str.ofString "c", ⟨.val, .int c⟩), (Str.ofString "maker", ⟨.val, enc (makerI c)⟩), (Str.ofString "leaf", ⟨.val, enc (leafI (c.fdiv 6))⟩), (Str.ofString "way", ⟨.val, .int ((cell ns 0).fmod 6)⟩), (Str.ofString "p", ⟨.val, .int (pn : Nat)⟩), (Str.ofString "odd", ⟨.val, enc odd⟩), (Str.ofString "kept", ⟨.val, encL (newT ns t pn odd)⟩)]) (by
          ktr_rel
          rw [slc_all _ (by omega)]
          ktr_rel)]
        rw [seq_next (ρ1 := [(Str.ofString "script", ⟨.val, .list (ns.map .int)⟩), (Str.ofString "t", ⟨.val, encL (newT ns t pn odd)⟩), (Str.ofString "i", ⟨.val, .int (0 + (i : Nat))⟩), (Str.ofString "c", ⟨.val, .int c⟩), (Str.ofString "maker", ⟨.val, enc (makerI c)⟩), (Str.ofString "leaf", ⟨.val, enc (leafI (c.fdiv 6))⟩), (Str.ofString "way", ⟨.val, .int ((cell ns 0).fmod 6)⟩), (Str.ofString "p", ⟨.val, .int (pn : Nat)⟩), (Str.ofString "odd", ⟨.val, enc odd⟩), (Str.ofString "kept", ⟨.val, encL (newT ns t pn odd)⟩), (Str.ofString "got", ⟨.val, .bool (typeOk (newT ns t pn odd))⟩)]) (by
          ktr_rel
          simp only [callB_fn Φ _ _ _ _ _ _ hto]
          ktr_rel
          rw [hFo _ hlt]
          ktr_rel)]
        rw [seq_next (ρ1 := [(Str.ofString "script", ⟨.val, .list (ns.map .int)⟩), (Str.ofString "t", ⟨.val, encL (newT ns t pn odd)⟩), (Str.ofString "i", ⟨.val, .int (0 + (i : Nat))⟩), (Str.ofString "c", ⟨.val, .int c⟩), (Str.ofString "maker", ⟨.val, enc (makerI c)⟩), (Str.ofString "leaf", ⟨.val, enc (leafI (c.fdiv 6))⟩), (Str.ofString "way", ⟨.val, .int ((cell ns 0).fmod 6)⟩), (Str.ofString "p", ⟨.val, .int (pn : Nat)⟩), (Str.ofString "odd", ⟨.val, enc odd⟩), (Str.ofString "kept", ⟨.val, encL (newT ns t pn odd)⟩), (Str.ofString "got", ⟨.val, .bool (typeOk (newT ns t pn odd))⟩)]) (by
          ktr_rel)]
        rw [seq_next (ρ1 := [(Str.ofString "script", ⟨.val, .list (ns.map .int)⟩), (Str.ofString "t", ⟨.val, encL (newT ns t pn odd)⟩), (Str.ofString "i", ⟨.val, .int (0 + (i : Nat))⟩), (Str.ofString "c", ⟨.val, .int c⟩), (Str.ofString "maker", ⟨.val, enc (makerI c)⟩), (Str.ofString "leaf", ⟨.val, enc (leafI (c.fdiv 6))⟩), (Str.ofString "way", ⟨.val, .int ((cell ns 0).fmod 6)⟩), (Str.ofString "p", ⟨.val, .int (pn : Nat)⟩), (Str.ofString "odd", ⟨.val, enc odd⟩), (Str.ofString "kept", ⟨.val, encL (newT ns t pn odd)⟩), (Str.ofString "got", ⟨.val, .bool (typeOk (newT ns t pn odd))⟩)]) (by
          ktr_rel
          simp only [callB_fn Φ _ _ _ _ _ _ hdu]
          ktr_rel
          rw [hFd _ hlt, hres _ hlt]
          ktr_rel)]
        rw [seq_next (ρ1 := [(Str.ofString "script", ⟨.val, .list (ns.map .int)⟩), (Str.ofString "t", ⟨.val, encL (newT ns t pn odd)⟩), (Str.ofString "i", ⟨.val, .int (0 + (i : Nat))⟩), (Str.ofString "c", ⟨.val, .int c⟩), (Str.ofString "maker", ⟨.val, enc (makerI c)⟩), (Str.ofString "leaf", ⟨.val, enc (leafI (c.fdiv 6))⟩), (Str.ofString "way", ⟨.val, .int ((cell ns 0).fmod 6)⟩), (Str.ofString "p", ⟨.val, .int (pn : Nat)⟩), (Str.ofString "odd", ⟨.val, enc odd⟩), (Str.ofString "kept", ⟨.val, encL (newT ns t pn odd)⟩), (Str.ofString "got", ⟨.val, .bool (typeOk (newT ns t pn odd))⟩)]) (by
          ktr_rel)]
        ktr_rel
end Mine
set_option autoImplicit false
set_option maxRecDepth 100000
set_option linter.unusedVariables false
namespace Mine
open PySem PySem.Spec PySem.Calls PyProof.Rows PySem.W

/-! ## the plain law -/
def badT (n : Int) : List (String × Int) → Bool
  | [] => false
  | x :: l => decide (n + stepI x < 1) || badT (n + stepI x) l
theorem run_bad : ∀ (l : List (String × Int)) (n : Int), 0 ≤ n → n + l.length ≤ 100 → l.foldlM tyStep n = if badT n l then .error (.bool false) else .ok (n + (l.map stepI).sum)
  | [], n, _, _ => by simp [badT]; rfl
  | x :: l, n, h0, h1 => by
    rw [List.length_cons] at h1
    rw [List.foldlM_cons]
    rcases tyStep_cases n x with ⟨hy, hs, e⟩ | ⟨hy, hs, e⟩ | ⟨hy, e⟩ | ⟨⟨m, hy, hn⟩, e⟩ | ⟨n1, n2, n3, n4, n5, e⟩
    · have : stepI x = -1 := by rw [stepI, if_pos hy]
      have h2 : badT n (x :: l) = true := by rw [badT, this, decide_eq_true (by omega)]; rfl
      rw [e, h2]; rfl
    · have : stepI x = -1 := by rw [stepI, if_pos hy]
      have h2 : badT n (x :: l) = badT (n - 1) l := by rw [badT, this, decide_eq_false (by omega)]; rfl
      rw [e, h2, List.map_cons, List.sum_cons, this]
      show l.foldlM tyStep (n - 1) = _
      rw [run_bad l (n - 1) (by omega) (by omega), show n - 1 + (l.map stepI).sum = n + (-1 + (l.map stepI).sum) by omega]
    · have : stepI x = 1 := by rcases hy with rfl | rfl <;> rfl
      have h2 : badT n (x :: l) = badT (n + 1) l := by rw [badT, this, decide_eq_false (by omega)]; rfl
      rw [e, h2, List.map_cons, List.sum_cons, this]
      show l.foldlM tyStep (n + 1) = _
      rw [run_bad l (n + 1) (by omega) (by omega), show n + 1 + (l.map stepI).sum = n + (1 + (l.map stepI).sum) by omega]
    · have : stepI x = 1 := by subst hy; simp [stepI, hn]
      have h2 : badT n (x :: l) = badT (n + 1) l := by rw [badT, this, decide_eq_false (by omega)]; rfl
      rw [e, h2, List.map_cons, List.sum_cons, this]
      show l.foldlM tyStep (n + 1) = _
      rw [run_bad l (n + 1) (by omega) (by omega), show n + 1 + (l.map stepI).sum = n + (1 + (l.map stepI).sum) by omega]
    · have : stepI x = -100 := by
        rw [stepI, if_neg (by rintro (h | h); exact n1 h; exact n2 h), if_neg (by rintro (h | h); exact n3 h; exact n4 h), if_neg n5]
      have h2 : badT n (x :: l) = true := by rw [badT, this, decide_eq_true (by omega)]; rfl
      rw [e, h2]; rfl
theorem bad_heights : ∀ (l : List (String × Int)) (n : Int), badT n l = (List.range l.length).any fun i => decide (n + ((l.map stepI).take (i + 1)).sum < 1)
  | [], n => rfl
  | x :: l, n => by
    rw [badT, bad_heights l, List.length_cons, List.range_succ_eq_map, List.any_cons, List.any_map]
    simp only [List.map_cons, List.take_succ_cons, List.take_zero, List.sum_cons, List.sum_nil, Int.add_zero, Function.comp_def, Int.add_assoc]
theorem any_filter (p : Int → Bool) : ∀ l : List Int, (l.filter p).isEmpty = !(l.any p)
  | [] => rfl
  | x :: l => by
    rw [List.filter_cons, List.any_cons]
    cases h : p x
    · simpa using any_filter p l
    · rfl
theorem typeOk_due (t : List (String × Int)) (h : t.length ≤ 100) : typeOk t = due t := by
  unfold typeOk due
  rw [run_bad t 0 (by omega) (by omega), any_filter]
  have e : (heights (t.map stepI)).any (fun h => decide (h < 1)) = badT 0 t := by
    rw [bad_heights, heights, List.any_map, List.length_map]
    simp only [Function.comp_def, Int.zero_add]
  rw [e, Int.zero_add]
  cases badT 0 t <;> simp

def recs01 : List DefRec := [1, 3, 4, 5, 6, 7, 8, 9].map (recAt pw)
def fl1 (r : DefRec) : List Bool := r.params.args.map fun _ => false
def defs01 : List Def := recs01.map fun r => defOf (fl1 r) r
theorem recs_ok : recsOf hd.view_39 = recs01 := by kernel_rfl
theorem f1 : defs01.find? (fun d => d.name == Str.ofString "type_ok") = some (defOf [false] (recAt pw 1)) := by kernel_rfl
theorem f3 : defs01.find? (fun d => d.name == Str.ofString "_law_names") = some (defOf [] (recAt pw 3)) := by kernel_rfl
theorem f4 : defs01.find? (fun d => d.name == Str.ofString "_law_cell") = some (defOf [false, false] (recAt pw 4)) := by kernel_rfl
theorem f5 : defs01.find? (fun d => d.name == Str.ofString "_law_leaf") = some (defOf [false] (recAt pw 5)) := by kernel_rfl
theorem f6 : defs01.find? (fun d => d.name == Str.ofString "_law_any") = some (defOf [false, false] (recAt pw 6)) := by kernel_rfl
theorem f7 : defs01.find? (fun d => d.name == Str.ofString "_law_step") = some (defOf [false] (recAt pw 7)) := by kernel_rfl
theorem f8 : defs01.find? (fun d => d.name == Str.ofString "_law_due") = some (defOf [false] (recAt pw 8)) := by kernel_rfl
theorem pure01 (ns : List Int) (hn : ns.length ≤ 63) : callD (tabF defs01 100 60 6) 100 60 (defOf [false] (recAt pw 9)) [.list (ns.map .int)] = some (.bool true) :=
  run_law _ _ _ _ _ _ _ (tab_at f4) (tab_at f5) (tab_at f6) (tab_at f1) (tab_at f8) ns hn (fun i hi => run_cell _ _ ns i hn hi) (fun c => run_leaf _ _ c) (fun a b => run_any _ _ _ (tab_at f3) (run_names _ _) a b)
    (fun t ht => run_type_ok _ _ t (by omega)) (fun t ht => run_due _ _ _ (tab_at f7) (fun x => run_step _ _ x) t ht) typeOk_due
theorem defs_ok : ∀ r ∈ recs01, DefOk (defOf (fl1 r) r) := by
  intro r hr
  simp only [recs01, List.map_cons, List.map_nil, List.mem_cons, List.not_mem_nil, or_false] at hr
  rcases hr with rfl | rfl | rfl | rfl | rfl | rfl | rfl | rfl
  all_goals refine defOk_of _ _ (by kernel_rfl) ⟨rfl, rfl, rfl⟩ ?_ (by decide +kernel) (by decide +kernel) (by decide +kernel)
  all_goals intro pm cd doc args h
  all_goals first
    | (match args, h with | [], _ => rfl)
    | (match args, h with | [a], _ => rfl)
    | (match args, h with | [a, b], _ => rfl)
theorem all01 : PySem.Challenge.rw_k13_0001.Holds := hd (by
  k_fill
  intro w s₀ s₁ mg mb G Y fa o pm cd doc dV kV ho hd' hcd hD hmg hg args vals as hpre hlay hrd hwl hlo
  refine Ground.open G ?_
  intro T B D TE TW
  have hmg' : mg (Str.ofString "law") = some (.ref fa) := hmg
  clear hd' hcd hD hmg
  wrow_args hpre hlay hrd hwl hlo
  rename_i ns _ _ _ _ _ _ _ l vs _ hl _ _ _ hi _ hlen _
  refine law_call T recs_ok (by decide +kernel) (fl := fl1) defs_ok (law := recAt pw 9) (by simp [recs01]) (by kernel_rfl) hmg' hl hi (k := 6) (wf := 100) (n := 60) (by decide) (pure01 ns (by omega)) fun v s' g q => law_end ?_ ?_ hg g q
  · intro cls; rfl
  · exact postW_of rfl (w_eq_bool (w_res rfl) w_lit) rfl)
end Mine
theorem PySem.Challenge.cw_k13_0001_holds : PySem.Challenge.rw_k13_0001.Holds := by
  exact Mine.all01
