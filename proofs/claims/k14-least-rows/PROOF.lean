import PyProof.Rows.All
import Wide.All
import OpenK.AllK
import Wide.FinOn
import KE.DataEq
import HandS.ForMost
import HandS.Wide
import HandS.Gcd
import HandS.Conv
import HandS.Walk
import HandS.Deep
import HandS.Style
import HandS.IsInst
import HandS.Defaults
import HandS.TupAny
import PyProof.StrOps2
import HandS.Flow
import HandS.Text
import HandS.Iter
import HandS.Comp
import HandS.HeadHook2
import HandS.Head2
import HandS.Head3
import HandS.HeadEnd
import PySem.Challenge.RW_twicedial_k14_rows_in_least_form
set_option Elab.async false
set_option linter.all false
set_option maxRecDepth 100000
set_option Elab.async false
set_option maxRecDepth 100000
/-! Tw1: the pure evaluator over the text's own trees. -/
namespace TW
open PySem

/-- fz: never changed from here on; own: one slot's own; lent: the caller's; lf: lent, then frozen -/
inductive Tg where
  | fz | own | lent | lf
structure Sl where
  t : Tg
  d : PyData
abbrev PEnv := List (Option Sl)
structure Exn where
  cls : Str
  fs : List (Str × PyData)
inductive R (α : Type) where
  | ok (a : α) (ρ : PEnv)
  | ex (e : Exn) (ρ : PEnv)
  | no
def R.bind {α β : Type} : R α → (α → PEnv → R β) → R β
  | .ok a ρ, f => f a ρ
  | .ex e ρ, _ => .ex e ρ
  | .no, _ => .no
/-- what a call gives back: the value, whether it is new, the lent slots -/
inductive CR where
  | ok (d : PyData) (fr : Bool) (back : List Sl)
  | ex (e : Exn) (back : List Sl)
  | no
/-- what a statement gives -/
inductive SR where
  | nx (ρ : PEnv)
  | rt (d : PyData) (fr : Bool) (ρ : PEnv)
  | bk (ρ : PEnv)
  | ct (ρ : PEnv)
  | ex (e : Exn) (ρ : PEnv)
  | no
abbrev VR := PyData × Bool
structure Ctx where
  N : List Str
  sc : Scope
  mu : List Str
  glo : Str → Option PyData
  blt : Str → Bool
  fns : Str → Option (List Bool)
  call : Str → List Sl → CR
  gcd : Bool
  own : Str → Bool
structure Ev where
  ev : Expr → PEnv → R VR
  ts : Expr → PEnv → R Bool
  st : Stmt → PEnv → SR

/-! ### values -/
def isCt : PyData → Bool
  | .list _ => true
  | .dict _ => true
  | _ => false
def isDc : PyData → Bool
  | .dict _ => true
  | _ => false
def truP : PyData → Option Bool
  | .none => some false
  | .bool b => some b
  | .int i => some (i != 0)
  | .str x => if x.length ≤ sizeLine then some (x.length != 0) else none
  | .list xs => some (!xs.isEmpty)
  | .tuple xs => some (!xs.isEmpty)
  | .dict kvs => some (!kvs.isEmpty)
def smallI (i : Int) : Bool := decide (-18446744073709551616 < i) && decide (i < 18446744073709551616)
def mulOk (i j : Int) : Bool := smallI i || (smallI j || decide (i.natAbs.log2 + j.natAbs.log2 + 2 ≤ 134217728))
def divOk (j : Int) : Bool := decide (j ≠ 0) && decide (j.natAbs.log2 < 9000)
def powOk (i j : Int) : Bool := decide (0 ≤ j) && decide (j ≤ 1000000) && decide (i.natAbs < 18446744073709551616)
def repS (x : Str) (n : Nat) : Str := ⟨(List.replicate n x.cps.toList).flatten.toArray⟩
def binP : Operator → PyData → PyData → Option PyData
  | .Add, .int i, .int j => some (.int (i + j))
  | .Add, .str x, .str y => if x.length + y.length ≤ sizeLine then some (.str (x ++ y)) else none
  | .Add, .list x, .list y => if x.length + y.length ≤ sizeLine then some (.list (x ++ y)) else none
  | .Add, .tuple x, .tuple y => if x.length + y.length ≤ sizeLine then some (.tuple (x ++ y)) else none
  | .Sub, .int i, .int j => some (.int (i - j))
  | .Mult, .int i, .int j => if mulOk i j then some (.int (i * j)) else none
  | .Mult, .str x, .int j => if smallI (2 * j) && decide (x.length * j.toNat ≤ sizeLine) then some (.str (repS x j.toNat)) else none
  | .FloorDiv, .int i, .int j => if divOk j then some (.int (i.fdiv j)) else none
  | .Mod, .int i, .int j => if j ≠ 0 then some (.int (i.fmod j)) else none
  | .Pow, .int i, .int j => if powOk i j then some (.int (i ^ j.toNat)) else none
  | _, _, _ => none
mutual
def dep : PyData → Nat
  | .list xs => depA xs + 1
  | .tuple xs => depA xs + 1
  | _ => 0
def depA : List PyData → Nat
  | [] => 0
  | x :: xs => max (dep x) (depA xs)
end
def eqOk (d e : PyData) : Bool := d.plain && e.plain && (decide (d.depth ≤ 60) || decide (e.depth ≤ 60))
def isNo : PyData → Bool
  | .none => true
  | _ => false
def cmpP : CmpOp → PyData → PyData → Option Bool
  | .Lt, .int i, .int j => some (decide (i < j))
  | .LtE, .int i, .int j => some (decide (i ≤ j))
  | .Gt, .int i, .int j => some (decide (j < i))
  | .GtE, .int i, .int j => some (decide (j ≤ i))
  | .Lt, .str x, .str y => some (decide (x.cps.toList < y.cps.toList))
  | .Eq, .int i, .int j => some (decide (i = j))
  | .NotEq, .int i, .int j => some (!decide (i = j))
  | .Eq, .str i, .str j => some (decide (i = j))
  | .NotEq, .str i, .str j => some (!decide (i = j))
  | .Eq, .bool i, .bool j => some (decide (i = j))
  | .NotEq, .bool i, .bool j => some (!decide (i = j))
  | .Is, d, .none => some (isNo d)
  | .IsNot, d, .none => some (!isNo d)
  | .Eq, d, e => if eqOk d e then some (PyData.eqv d e) else none
  | .NotEq, d, e => if eqOk d e then some (!PyData.eqv d e) else none
  | .In, d, .list es => if eqOk d (.list es) then some (es.any fun z => PyData.eqv z d) else none
  | .NotIn, d, .list es => if eqOk d (.list es) then some (!es.any fun z => PyData.eqv z d) else none
  | .In, d, .tuple es => if eqOk d (.tuple es) then some (es.any fun z => PyData.eqv z d) else none
  | .NotIn, d, .tuple es => if eqOk d (.tuple es) then some (!es.any fun z => PyData.eqv z d) else none
  | .In, .str x, .str y => some (!(Builtin.Str.occurrences y x 0 y.length 1).isEmpty)
  | .NotIn, .str x, .str y => some (!(!(Builtin.Str.occurrences y x 0 y.length 1).isEmpty))
  | _, _, _ => none
def unP : UnaryOp → PyData → Option PyData
  | .USub, .int i => some (.int (-i))
  | _, _ => none
def keyP : PyData → Option L2.Key
  | .int i => some (.inl i)
  | .str x => some (.inr x)
  | _ => none
def isKey (k : L2.Key) (d : PyData) : Bool := match k, d with
  | .inl i, .int j => decide (i = j)
  | .inr x, .str y => decide (x = y)
  | _, _ => false
def getK (k : L2.Key) : List (PyData × PyData) → Option PyData
  | [] => none
  | (d, v) :: r => if isKey k d then some v else getK k r
def keyD : L2.Key → PyData
  | .inl i => .int i
  | .inr x => .str x
def putK (k : L2.Key) (v : PyData) (kvs : List (PyData × PyData)) : List (PyData × PyData) :=
  if kvs.any (fun q => isKey k q.1) then kvs.map (fun q => if isKey k q.1 then (q.1, v) else q) else kvs ++ [(keyD k, v)]
def mrg : List (PyData × PyData) → List (PyData × PyData) → Option (List (PyData × PyData))
  | [], acc => some acc
  | (d, v) :: r, acc => match keyP d with
    | some k => mrg r (putK k v acc)
    | none => none
def idxP : PyData → PyData → Option PyData
  | .list xs, .int i => L2.atI xs i
  | .tuple xs, .int i => L2.atI xs i
  | .str z, .int i => if z.length ≤ sizeLine then (L2.atI z.cps.toList i).map fun c => .str ⟨#[c]⟩ else none
  | .dict kvs, d => match keyP d with
    | some k => getK k kvs
    | none => none
  | _, _ => none
def cutL {α : Type} (xs : List α) (lo hi : Option Int) : List α := (xs.drop (HT.sIx xs.length 0 lo)).take (HT.sIx xs.length xs.length hi - HT.sIx xs.length 0 lo)
def slcP : PyData → Option Int → Option Int → Option PyData
  | .list xs, lo, hi => some (.list (cutL xs lo hi))
  | .tuple xs, lo, hi => some (.tuple (cutL xs lo hi))
  | .str z, lo, hi => if z.length ≤ sizeLine then some (.str ⟨(cutL z.cps.toList lo hi).toArray⟩) else none
  | _, _, _ => none
def intsP : List PyData → Option (List Int)
  | [] => some []
  | .int i :: r => (intsP r).map (i :: ·)
  | _ :: _ => none
def strsP : List PyData → Option (List Str)
  | [] => some []
  | .str i :: r => (strsP r).map (i :: ·)
  | _ :: _ => none
def minL : List Int → Option Int
  | [] => none
  | x :: r => some (r.foldl (fun a b => if b < a then b else a) x)
def maxL : List Int → Option Int
  | [] => none
  | x :: r => some (r.foldl (fun a b => if a < b then b else a) x)
/-- built-ins of one argument -/
def bi1P (f : Str) (d : PyData) : Option VR :=
  if f = "len" then (match d with
    | .list xs => some (.int xs.length, false)
    | .tuple xs => some (.int xs.length, false)
    | .str z => if z.length ≤ sizeLine then some (.int z.length, false) else none
    | _ => none)
  else if f = "int" then (match d with
    | .int i => some (.int i, false)
    | .bool b => some (.int (if b then 1 else 0), false)
    | .str x => if x.length ≤ 640 then (PySem.intText? x).map fun i => (.int i, false) else none
    | _ => none)
  else if f = "tuple" then (match d with
    | .list xs => some (.tuple xs, false)
    | .tuple xs => some (.tuple xs, false)
    | _ => none)
  else if f = "list" then (match d with
    | .list xs => some (.list xs, true)
    | .tuple xs => some (.list xs, true)
    | _ => none)
  else if f = "str" then (match d with
    | .int i => if i.natAbs.log2 < 1920 then some (.str (toString i), false) else none
    | _ => none)
  else if f = "abs" then (match d with
    | .int i => some (.int (if i < 0 then -i else i), false)
    | _ => none)
  else if f = "sum" then (match d with
    | .list xs => (intsP xs).map fun ns => (.int ns.sum, false)
    | _ => none)
  else if f = "max" then (match d with
    | .list xs => (intsP xs).bind fun ns => (maxL ns).map fun m => (.int m, false)
    | _ => none)
  else if f = "min" then (match d with
    | .list xs => (intsP xs).bind fun ns => (minL ns).map fun m => (.int m, false)
    | _ => none)
  else none
def bi2P (f : Str) (d e : PyData) : Option VR :=
  if f = "max" then (match d, e with
    | .int i, .int j => some (.int (if j > i then j else i), false)
    | _, _ => none)
  else if f = "min" then (match d, e with
    | .int i, .int j => some (.int (if j < i then j else i), false)
    | _, _ => none)
  else if f = "gcd" then (match d, e with
    | .int i, .int j => some (.int ((Nat.gcd i.natAbs j.natAbs : Nat) : Int), false)
    | _, _ => none)
  else none
/-- isinstance(x, T), T a built-in class by its name -/
def tyP : PyData → String
  | .none => "NoneType"
  | .bool _ => "bool"
  | .int _ => "int"
  | .str _ => "str"
  | .list _ => "list"
  | .tuple _ => "tuple"
  | .dict _ => "dict"
def isiP (d : PyData) (T : Str) : Option Bool :=
  if T = "int" then some (match d with | .int _ => true | .bool _ => true | _ => false)
  else if T = "bool" then some (match d with | .bool _ => true | _ => false)
  else if T = "tuple" then some (match d with | .tuple _ => true | _ => false)
  else if T = "str" then some (match d with | .str _ => true | _ => false)
  else if T = "list" then some (match d with | .list _ => true | _ => false)
  else none
/-- methods without effect, of one argument -/
def joinLen (z : Str) (xs : List Str) : Nat := (xs.map fun x => x.length).sum + z.length * xs.length
def mt1P (m : Str) (o d : PyData) : Option PyData :=
  if m = "join" then (match o, d with
    | .str z, .list xs => (strsP xs).bind fun ys => if joinLen z ys ≤ 16777216 then some (.str (Str.join z ys)) else none
    | .str z, .tuple xs => (strsP xs).bind fun ys => if joinLen z ys ≤ 16777216 then some (.str (Str.join z ys)) else none
    | _, _ => none)
  else none

/-! ### names, slots -/
def isLoc (sc : Scope) (x : Str) : Bool := match sc.names.lookup x with
  | some .local => true
  | some .cell => true
  | some .free => true
  | _ => false
def isSto (C : Ctx) (x : Str) : Bool := match C.sc.names.lookup x with
  | some .local => true
  | some .cell => C.own x
  | _ => false
def isGlo (sc : Scope) (x : Str) : Bool := match sc.names.lookup x with
  | some .globalImplicit => true
  | _ => false
def okNm (x : Str) : Bool := decide ((x == ("__debug__" : Str)) = false) && decide ((x == ("__classdict__" : Str)) = false) && decide (x ≠ "__name__")
def ixN (N : List Str) (x : Str) : Option Nat := N.findIdx? fun y => decide (y = x)
/-- the slot of a local name -/
def slotOf (C : Ctx) (x : Str) : Option Nat := if isLoc C.sc x && okNm x then ixN C.N x else none
/-- a name read to be kept: what it holds is frozen -/
def rdName (C : Ctx) (x : Str) (ρ : PEnv) : R VR :=
  match slotOf C x with
  | some i => (match ρ[i]? with
    | some (some ⟨.fz, d⟩) => .ok (d, false) ρ
    | some (some ⟨.lf, d⟩) => .ok (d, false) ρ
    | some (some ⟨.own, .list xs⟩) => .ok (.list xs, false) (ρ.set i (some ⟨.fz, .list xs⟩))
    | some (some ⟨.lent, .list xs⟩) => .ok (.list xs, false) (ρ.set i (some ⟨.lf, .list xs⟩))
    | _ => .no)
  | none => if isGlo C.sc x && okNm x then (match C.glo x with
    | some d => .ok (d, false) ρ
    | none => .no) else .no
/-- a name read in passing -/
def pkName (C : Ctx) (x : Str) (ρ : PEnv) : Option PyData :=
  match slotOf C x with
  | some i => (match ρ[i]? with
    | some (some s) => some s.d
    | _ => none)
  | none => if isGlo C.sc x && okNm x then C.glo x else none
def ofO {α : Type} (o : Option α) (ρ : PEnv) : R α := match o with
  | some a => .ok a ρ
  | none => .no
/-- an operand that is only looked at -/
def pkE (C : Ctx) (E : Ev) (e : Expr) (ρ : PEnv) : R PyData := match e with
  | .Name x _ => ofO (pkName C x ρ) ρ
  | e => (E.ev e ρ).bind fun v ρ' => .ok v.1 ρ'
/-- two operands, from the left; a name's content is looked up behind both -/
def pk2 (C : Ctx) (E : Ev) (a b : Expr) (ρ : PEnv) : R (PyData × PyData) := match a with
  | .Name x _ => (ofO (pkName C x ρ) ρ).bind fun _ ρ0 => (pkE C E b ρ0).bind fun y ρ1 => (ofO (pkName C x ρ1) ρ1).bind fun z ρ2 => .ok (z, y) ρ2
  | a => (E.ev a ρ).bind fun x ρ1 => (pkE C E b ρ1).bind fun y ρ2 => .ok (x.1, y) ρ2

def kd : PyData → Nat
  | .none => 0
  | .bool _ => 1
  | .int _ => 2
  | .str _ => 3
  | .list _ => 4
  | .tuple _ => 5
  | .dict _ => 6
/-- a method's receiver and argument: the receiver's kind stays -/
def pk2m (C : Ctx) (E : Ev) (a b : Expr) (ρ : PEnv) : R (PyData × PyData) := match a with
  | .Name x _ => (ofO (pkName C x ρ) ρ).bind fun w ρ0 => (pkE C E b ρ0).bind fun y ρ1 => (ofO (pkName C x ρ1) ρ1).bind fun z ρ2 => if kd w = kd z then .ok (z, y) ρ2 else .no
  | a => (E.ev a ρ).bind fun x ρ1 => (pkE C E b ρ1).bind fun y ρ2 => .ok (x.1, y) ρ2
def isBlt (C : Ctx) (x : Str) : Bool := isGlo C.sc x && okNm x && C.blt x
def starred : Expr → Bool
  | .Starred .. => true
  | _ => false
def nmOf : Expr → Option Str
  | .Name x _ => some x
  | _ => none
/-- is the argument a local name -/
def lnOf (C : Ctx) (e : Expr) : Option (Str × Nat) := match e with
  | .Name x _ => (slotOf C x).map fun i => (x, i)
  | _ => none
/-- first pass over a call's arguments: the local names are left for behind -/
def args1 (C : Ctx) (E : Ev) : List Expr → PEnv → R (List (Option VR))
  | [], ρ => .ok [] ρ
  | e :: es, ρ => if starred e then .no else match lnOf C e with
    | some (x, _) => (ofO (pkName C x ρ) ρ).bind fun _ ρ0 => (args1 C E es ρ0).bind fun vs ρ' => .ok (none :: vs) ρ'
    | none => (E.ev e ρ).bind fun v ρ1 => (args1 C E es ρ1).bind fun vs ρ2 => .ok (some v :: vs) ρ2
/-- second pass: m tells whether the def changes the parameter. The slots lent are emptied; their places come back in order -/
def args2 (C : Ctx) : List Expr → List (Option VR) → List Bool → PEnv → R (List Sl × List (Nat × Bool))
  | [], [], _, ρ => .ok ([], []) ρ
  | e :: es, v :: vs, ms, ρ =>
    let m := ms.headD false
    match v with
    | some (d, fr) => if fr && m then (args2 C es vs ms.tail ρ).bind fun r ρ' => .ok (⟨.own, d⟩ :: r.1, r.2) ρ'
      else if isDc d then .no else (args2 C es vs ms.tail ρ).bind fun r ρ' => .ok (⟨.fz, d⟩ :: r.1, r.2) ρ'
    | none => match lnOf C e with
      | none => .no
      | some (_, i) => match ρ[i]? with
        | some (some ⟨.fz, d⟩) => (args2 C es vs ms.tail ρ).bind fun r ρ' => .ok (⟨.fz, d⟩ :: r.1, r.2) ρ'
        | some (some ⟨.lf, d⟩) => (args2 C es vs ms.tail ρ).bind fun r ρ' => .ok (⟨.fz, d⟩ :: r.1, r.2) ρ'
        | some (some ⟨.own, d⟩) => if m then (args2 C es vs ms.tail (ρ.set i none)).bind fun r ρ' => .ok (⟨.lent, d⟩ :: r.1, (i, true) :: r.2) ρ'
          else (match d with
            | .list xs => (args2 C es vs ms.tail (ρ.set i (some ⟨.fz, .list xs⟩))).bind fun r ρ' => .ok (⟨.fz, .list xs⟩ :: r.1, r.2) ρ'
            | _ => .no)
        | some (some ⟨.lent, d⟩) => if m then (args2 C es vs ms.tail (ρ.set i none)).bind fun r ρ' => .ok (⟨.lent, d⟩ :: r.1, (i, false) :: r.2) ρ'
          else (match d with
            | .list xs => (args2 C es vs ms.tail (ρ.set i (some ⟨.lf, .list xs⟩))).bind fun r ρ' => .ok (⟨.fz, .list xs⟩ :: r.1, r.2) ρ'
            | _ => .no)
        | _ => .no
  | _, _, _, _ => .no
/-- the lent slots come back -/
def giveBack : List (Nat × Bool) → List Sl → PEnv → Option PEnv
  | [], [], ρ => some ρ
  | (i, o) :: is, s :: ss, ρ => (match s.t with
    | .lent => giveBack is ss (ρ.set i (some ⟨if o then .own else .lent, s.d⟩))
    | .lf => giveBack is ss (ρ.set i (some ⟨if o then .fz else .lf, s.d⟩))
    | _ => none)
  | _, _, _ => none
def callP (C : Ctx) (E : Ev) (f : Str) (ms : List Bool) (es : List Expr) (ρ : PEnv) : R VR :=
  (args1 C E es ρ).bind fun vs ρ1 => (args2 C es vs ms ρ1).bind fun r ρ2 => match C.call f r.1 with
    | .ok d fr back => (match giveBack r.2 back ρ2 with
      | some ρ3 => .ok (d, fr) ρ3
      | none => .no)
    | .ex e back => (match giveBack r.2 back ρ2 with
      | some ρ3 => .ex e ρ3
      | none => .no)
    | .no => .no

/-- a value that is kept: no dict -/
def kpE (E : Ev) (e : Expr) (ρ : PEnv) : R PyData := (E.ev e ρ).bind fun v ρ' => match v.1 with
  | .dict _ => .no
  | d => .ok d ρ'
/-- a display's items: all kept -/
def items (E : Ev) : List Expr → PEnv → R (List PyData)
  | [], ρ => .ok [] ρ
  | e :: es, ρ => if starred e then .no else (kpE E e ρ).bind fun v ρ1 => (items E es ρ1).bind fun vs ρ2 => .ok (v :: vs) ρ2
def partP (C : Ctx) (E : Ev) : Option Expr → PEnv → R (Option Int)
  | none, ρ => .ok none ρ
  | some e, ρ => (E.ev e ρ).bind fun v ρ' => match v.1 with
    | .int i => .ok (some i) ρ'
    | _ => .no
/-- a slice's parts -/
def sl3 (C : Ctx) (E : Ev) (a : Expr) (lo hi : Option Expr) (ρ : PEnv) : R (PyData × Option Int × Option Int) := match a with
  | .Name x _ => (ofO (pkName C x ρ) ρ).bind fun _ ρ0 => (partP C E lo ρ0).bind fun l ρ1 => (partP C E hi ρ1).bind fun h ρ2 => (ofO (pkName C x ρ2) ρ2).bind fun z ρ3 => .ok (z, l, h) ρ3
  | a => (E.ev a ρ).bind fun x ρ1 => (partP C E lo ρ1).bind fun l ρ2 => (partP C E hi ρ2).bind fun h ρ3 => .ok (x.1, l, h) ρ3

/-! ### targets -/
def setSl (C : Ctx) (x : Str) (s : Sl) (ρ : PEnv) : Option PEnv :=
  if isSto C x && okNm x then (match ixN C.N x with
    | some i => (match ρ[i]? with
      | some (some ⟨.lent, _⟩) => none
      | some (some ⟨.lf, _⟩) => none
      | some _ => some (ρ.set i (some s))
      | none => none)
    | none => none)
  else none
def setNames (C : Ctx) : List Expr → List PyData → PEnv → Option PEnv
  | [], [], ρ => some ρ
  | .Name x _ :: ts, d :: ds, ρ => (setSl C x ⟨.fz, d⟩ ρ).bind fun ρ' => setNames C ts ds ρ'
  | _, _, _ => none
/-- a loop's target -/
def setTg (C : Ctx) (t : Expr) (d : PyData) (ρ : PEnv) : Option PEnv := match t, d with
  | .Name x _, d => setSl C x ⟨.fz, d⟩ ρ
  | .Tuple ts _ _, .tuple ds => setNames C ts ds ρ
  | _, _ => none

/-! ### what is walked -/
def rngL (a b : Int) : List PyData := (List.range (b - a).toNat).map fun i => .int (a + (i : Nat))
def rngOk (a b : Int) : Bool := decide (-4611686018427387904 ≤ a) && decide (a < 4611686018427387904) && decide (-4611686018427387904 ≤ b) && decide (b < 4611686018427387904)
def isTupT : Expr → Bool
  | .Tuple .. => true
  | _ => false
def itD : PyData → Option (List PyData)
  | .list xs => some xs
  | .tuple xs => some xs
  | .str z => some (z.cps.toList.map fun c => .str ⟨#[c]⟩)
  | _ => none
/-- of any kind, by its value -/
def iterV (E : Ev) (e : Expr) (ρ : PEnv) : R (List PyData) := (E.ev e ρ).bind fun v ρ' => ofO (itD v.1) ρ'
/-- the items of a for's or comprehension's iterable -/
def iterP (C : Ctx) (E : Ev) (e : Expr) (ρ : PEnv) : R (List PyData) := match e with
  | .Call (.Name f _) [a] [] _ =>
    if f = "range" && isBlt C f && !starred a then (E.ev a ρ).bind fun v ρ' => match v.1 with
      | .int n => if rngOk 0 n then .ok (rngL 0 n) ρ' else .no
      | _ => .no
    else iterV E e ρ
  | .Call (.Name f _) [a, b] [] _ =>
    if f = "range" && isBlt C f && !starred a && !starred b then (E.ev a ρ).bind fun v ρ1 => (E.ev b ρ1).bind fun u ρ2 => match v.1, u.1 with
      | .int i, .int j => if rngOk i j then .ok (rngL i j) ρ2 else .no
      | _, _ => .no
    else iterV E e ρ
  | e => iterV E e ρ

/-! ### comprehensions -/
def relS (scope sc : Scope) : Scope :=
  { scope with names := scope.names.map fun (n, k) => if (k == NameKind.free && sc.kind == .function && sc.names.lookup n == some .cell) then (n, .cell) else (n, k) }
/-- the names of a comprehension's block with their slots -/
def ownOf (N : List Str) (scope : Scope) : List (Str × Nat) := scope.names.filterMap fun y => match y.2 with
  | .local => (ixN N y.1).map fun i => (y.1, i)
  | .cell => (ixN N y.1).map fun i => (y.1, i)
  | _ => none
def wipeP (ρ : PEnv) : List Nat → PEnv
  | [] => ρ
  | v :: vs => (wipeP ρ vs).set v none
/-- are the hidden slots empty or frozen -/
def hidOk (ρ : PEnv) (vs : List Nat) : Bool := vs.all fun v => match ρ[v]? with
  | some none => true
  | some (some ⟨.fz, _⟩) => true
  | _ => false
/-- the hidden slots come back -/
def unhide (ρ0 : PEnv) (vs : List Nat) (ρ : PEnv) : PEnv := match vs with
  | [] => ρ
  | v :: vs => (unhide ρ0 vs ρ).set v ((ρ0[v]?).getD none)
def compGo (C : Ctx) (E : Ev) (tg : Expr) (ifs : List Expr) (el : Expr) (vs : List Nat) : List PyData → List PyData → PEnv → R (List PyData)
  | [], acc, ρ => .ok acc ρ
  | x :: xs, acc, ρ => match setTg C tg x (wipeP ρ vs) with
    | none => .no
    | some ρ1 => (match ifs with
      | [] => R.ok true ρ1
      | [c] => E.ts c ρ1
      | _ => R.no).bind fun b ρ2 => if b then (kpE E el ρ2).bind fun v ρ3 => if acc.length < sizeLine then compGo C E tg ifs el vs xs (acc ++ [v]) (wipeP ρ3 vs) else .no
        else compGo C E tg ifs el vs xs acc (wipeP ρ2 vs)
/-! ### the steps -/
def constP : Const → Option PyData
  | .none => some .none
  | .bool b => some (.bool b)
  | .int i => some (.int i)
  | .str x => some (.str x)
  | _ => none
def isNameOf (C : Ctx) (e : Expr) : Bool := match e with
  | .Name x _ => (slotOf C x).isSome
  | _ => false
def noSlice : Expr → Bool
  | .Slice _ _ none _ => false
  | _ => true
def noSet : Expr → Bool
  | .Set .. => false
  | _ => true
def noSuper : Expr → Bool
  | .Call .. => false
  | _ => true
def okAsg : Expr → Bool
  | .SetComp .. => false
  | .DictComp .. => false
  | _ => true
def noComp : Expr → Bool
  | .ListComp .. => false
  | .SetComp .. => false
  | .DictComp .. => false
  | _ => true
def boolV (E : Ev) (op : BoolOp) : List Expr → PEnv → R VR
  | [], _ => .no
  | [x], ρ => E.ev x ρ
  | x :: y :: r, ρ => (E.ev x ρ).bind fun v ρ' => match v.1 with
    | .bool b => (match op, b with
      | .And, true => boolV E op (y :: r) ρ'
      | .And, false => .ok (.bool false, false) ρ'
      | .Or, false => boolV E op (y :: r) ρ'
      | .Or, true => .ok (.bool true, false) ρ')
    | _ => .no
def allT (E : Ev) (op : BoolOp) : List Expr → PEnv → R Bool
  | [], _ => .no
  | [x], ρ => E.ts x ρ
  | x :: y :: r, ρ => (E.ts x ρ).bind fun b ρ' => match op, b with
      | .And, true => allT E op (y :: r) ρ'
      | .And, false => .ok false ρ'
      | .Or, false => allT E op (y :: r) ρ'
      | .Or, true => .ok true ρ'
def cmp1 (C : Ctx) (E : Ev) (l : Expr) (op : CmpOp) (r : Expr) (ρ : PEnv) : R Bool :=
  if noSet r then (pk2 C E l r ρ).bind fun p ρ' => ofO (cmpP op p.1 p.2) ρ' else .no
def cmp2 (C : Ctx) (E : Ev) (l : Expr) (op op' : CmpOp) (b c : Expr) (ρ : PEnv) : R Bool :=
  if noSet b && noSet c then (E.ev l ρ).bind fun x ρ1 => (E.ev b ρ1).bind fun y ρ2 => (ofO (cmpP op x.1 y.1) ρ2).bind fun k ρ3 =>
    if k then (E.ev c ρ3).bind fun z ρ4 => ofO (cmpP op' y.1 z.1) ρ4 else .ok false ρ3
  else .no
def dispP (C : Ctx) (E : Ev) : List (Option Expr) → List Expr → PEnv → R (List (PyData × PyData))
  | [], [], ρ => .ok [] ρ
  | some k :: ks, v :: vs, ρ => (kpE E k ρ).bind fun x ρ1 => (kpE E v ρ1).bind fun y ρ2 => (dispP C E ks vs ρ2).bind fun r ρ3 => .ok ((x, y) :: r) ρ3
  | _, _, _ => .no
/-- within a comprehension's block -/
def inBlk (C : Ctx) (scope : Scope) : Ctx := { C with sc := relS scope C.sc, own := fun x => scope.names.lookup x == some .cell }
def evStep (E : Ctx → Ev) (C : Ctx) (e : Expr) (ρ : PEnv) : R VR := match e with
  | .Name x _ => rdName C x ρ
  | .Constant c _ _ => (ofO (constP c) ρ).bind fun d ρ' => .ok (d, false) ρ'
  | .BinOp a op b _ => (pk2 C (E C) a b ρ).bind fun p ρ' => (ofO (binP op p.1 p.2) ρ').bind fun d ρ'' => .ok (d, isCt d) ρ''
  | .UnaryOp .Not a _ => (pkE C (E C) a ρ).bind fun d ρ' => (ofO (truP d) ρ').bind fun b ρ'' => .ok (.bool (!b), false) ρ''
  | .UnaryOp op a _ => ((E C).ev a ρ).bind fun v ρ' => (ofO (unP op v.1) ρ').bind fun d ρ'' => .ok (d, false) ρ''
  | .BoolOp op vs _ => boolV (E C) op vs ρ
  | .Compare l [op] [r] _ => (cmp1 C (E C) l op r ρ).bind fun b ρ' => .ok (.bool b, false) ρ'
  | .Compare l [op, op'] [b, c] _ => (cmp2 C (E C) l op op' b c ρ).bind fun b ρ' => .ok (.bool b, false) ρ'
  | .IfExp t a b _ => ((E C).ts t ρ).bind fun k ρ' => if k then (E C).ev a ρ' else (E C).ev b ρ'
  | .Tuple es _ _ => (items (E C) es ρ).bind fun ds ρ' => if ds.length ≤ sizeLine then .ok (.tuple ds, false) ρ' else .no
  | .List es _ => (items (E C) es ρ).bind fun ds ρ' => if ds.length ≤ sizeLine then .ok (.list ds, true) ρ' else .no
  | .Dict ks vs _ => if ks.length ≤ 15 then (dispP C (E C) ks vs ρ).bind fun r ρ' => (ofO (mrg r []) ρ').bind fun z ρ'' => .ok (.dict z, true) ρ'' else .no
  | .Subscript a (.Slice lo hi none _) _ => (sl3 C (E C) a lo hi ρ).bind fun p ρ' => (ofO (slcP p.1 p.2.1 p.2.2) ρ').bind fun d ρ'' => .ok (d, isCt d) ρ''
  | .Subscript a b _ => if noSlice b then (pk2 C (E C) a b ρ).bind fun p ρ' => (ofO (idxP p.1 p.2) ρ').bind fun d ρ'' => .ok (d, false) ρ'' else .no
  | .Call (.Name f _) args [] _ =>
    if isGlo C.sc f && okNm f then (match C.fns f with
      | some ms => callP C (E C) f ms args ρ
      | none => (match args with
        | [a] => if C.blt f && !starred a then (pkE C (E C) a ρ).bind fun d ρ' => ofO (bi1P f d) ρ' else .no
        | [a, b] => if starred a || starred b then .no
          else if f = "isinstance" then (if C.blt f then (match b with
            | .Name T _ => if isBlt C T then (pkE C (E C) a ρ).bind fun d ρ' => (ofO (isiP d T) ρ').bind fun k ρ'' => .ok (.bool k, false) ρ'' else .no
            | _ => .no) else .no)
          else if (if f = "gcd" then C.gcd else C.blt f) then (pk2 C (E C) a b ρ).bind fun p ρ' => ofO (bi2P f p.1 p.2) ρ' else .no
        | _ => .no))
    else .no
  | .Call (.Attribute o m apos) [a] [] pos => if (apos.endLine == pos.line) && !starred a && noSuper o then (pk2m C (E C) o a ρ).bind fun p ρ' => (ofO (mt1P m p.1 p.2) ρ').bind fun d ρ'' => .ok (d, false) ρ'' else .no
  | .ListComp el [⟨tg, it, ifs, 0⟩] scope _ =>
    if L2.blkC C.N C.sc scope (ownOf C.N scope) && noSet it then (iterP C (E C) it ρ).bind fun xs ρ1 =>
      if hidOk ρ1 ((ownOf C.N scope).map (·.2)) then
        (compGo (inBlk C scope) (E (inBlk C scope)) tg ifs el ((ownOf C.N scope).map (·.2)) xs [] (wipeP ρ1 ((ownOf C.N scope).map (·.2)))).bind fun ds ρ2 =>
          .ok (.list ds, true) (unhide ρ1 ((ownOf C.N scope).map (·.2)) ρ2)
      else .no
    else .no
  | _ => .no
def tsStep (E : Ctx → Ev) (C : Ctx) (e : Expr) (ρ : PEnv) : R Bool := match e with
  | .UnaryOp .Not x _ => ((E C).ts x ρ).bind fun b ρ' => .ok (!b) ρ'
  | .BoolOp op vs _ => allT (E C) op vs ρ
  | .IfExp .. => .no
  | .Compare l [op] [r] _ => cmp1 C (E C) l op r ρ
  | .Compare l [op, op'] [b, c] _ => cmp2 C (E C) l op op' b c ρ
  | .Compare .. => .no
  | e => (pkE C (E C) e ρ).bind fun d ρ' => ofO (truP d) ρ'

/-! ### statements -/
def blk (E : Ev) : List Stmt → PEnv → SR
  | [], ρ => .nx ρ
  | s :: r, ρ => match E.st s ρ with
    | .nx ρ' => blk E r ρ'
    | .rt d f ρ' => .rt d f ρ'
    | .bk ρ' => .bk ρ'
    | .ct ρ' => .ct ρ'
    | .ex e ρ' => .ex e ρ'
    | .no => .no
def R.toS {α : Type} : R α → (α → PEnv → SR) → SR
  | .ok a ρ, f => f a ρ
  | .ex e ρ, _ => .ex e ρ
  | .no, _ => .no
def nxO : Option PEnv → SR
  | some ρ => .nx ρ
  | none => .no
/-- the loops' bound -/
def WF : Nat := 1000000
def whileP (E : Ev) (t : Expr) (body : List Stmt) : Nat → PEnv → SR
  | 0, _ => .no
  | W + 1, ρ => (E.ts t ρ).toS fun b ρ1 => if b then (match blk E body ρ1 with
      | .nx ρ2 => whileP E t body W ρ2
      | .ct ρ2 => whileP E t body W ρ2
      | .bk ρ2 => .nx ρ2
      | .rt d f ρ2 => .rt d f ρ2
      | .ex e ρ2 => .ex e ρ2
      | .no => .no) else .nx ρ1
def forP (C : Ctx) (E : Ev) (tg : Expr) (body : List Stmt) : List PyData → PEnv → SR
  | [], ρ => .nx ρ
  | x :: xs, ρ => match setTg C tg x ρ with
    | none => .no
    | some ρ1 => (match blk E body ρ1 with
      | .nx ρ2 => forP C E tg body xs ρ2
      | .ct ρ2 => forP C E tg body xs ρ2
      | .bk ρ2 => .nx ρ2
      | .rt d f ρ2 => .rt d f ρ2
      | .ex e ρ2 => .ex e ρ2
      | .no => .no)
def ctName (C : Ctx) (x : Str) (d : PyData) (fr : Bool) : Option Sl := if fr && C.mu.any (fun y => decide (y = x)) then some ⟨.own, d⟩ else if isDc d then none else some ⟨.fz, d⟩
/-- an own or lent slot -/
def mutSl (C : Ctx) (x : Str) (ρ : PEnv) : Option (Nat × Tg × PyData) := match slotOf C x with
  | some i => (match ρ[i]? with
    | some (some ⟨.own, d⟩) => some (i, .own, d)
    | some (some ⟨.lent, d⟩) => some (i, .lent, d)
    | _ => none)
  | none => none
/-- x.m(..), the list or dict in x's slot changed -/
def isLs : PyData → Bool
  | .list _ => true
  | _ => false
def mutP (C : Ctx) (E : Ev) (x m : Str) (args : List Expr) (ρ : PEnv) : SR :=
  if m = "append" then (match args with
    | [a] => if starred a then .no else (match mutSl C x ρ with
      | some (_, _, d) => if isLs d then (kpE E a ρ).toS fun v ρ1 => (match mutSl C x ρ1 with
        | some (i, t, .list xs) => if xs.length < sizeLine then .nx (ρ1.set i (some ⟨t, .list (xs ++ [v])⟩)) else .no
        | _ => .no) else .no
      | none => .no)
    | _ => .no)
  else .no
def isMut (C : Ctx) (e : Expr) : Option (Str × Str × List Expr × Pos × Pos) := match e with
  | .Call (.Attribute (.Name x _) m apos) args [] pos => if (isLoc C.sc x) && (decide (m = "append")) then some (x, m, args, apos, pos) else none
  | _ => none
def isFnK (sc : Scope) : Bool := match sc.kind with
  | .function => true
  | _ => false
def swNm (sc : Scope) (l : Nat) : Expr → Option Str
  | .Name id pos => if sc.names.lookup id == some .local && pos.line == l then some id else none
  | _ => none
def swNs (sc : Scope) (ts : List Expr) : List Str := ts.filterMap (swNm sc ((ts.head?.map (·.pos.line)).getD 0))
/-- which stores go from the right -/
def swP (sc : Scope) (ts vs : List Expr) : Option (Option (List Str)) :=
  if !isFnK sc then none else
  if !(ts.length == 2 || ts.length == 3) || vs.length != ts.length then some none else
  if vs.any starred then some none else
  if (swNs sc ts).length != ts.length || (swNs sc ts).eraseDups.length != (swNs sc ts).length then some none else
  if vs.all (foldedForSure 8) then some none else
  if vs.all (constantsAlone 8) then none else
  some (some (swNs sc ts))
def isLc (sc : Scope) (x : Str) : Bool := match sc.names.lookup x with
  | some .local => true
  | _ => false
/-- items of a parallel assignment, each as its name keeps it -/
def parI (C : Ctx) (E : Ev) : List Str → List Expr → PEnv → R (List Sl)
  | [], [], ρ => .ok [] ρ
  | x :: xs, e :: es, ρ => if starred e then .no else (E.ev e ρ).bind fun v ρ1 => (ofO (ctName C x v.1 v.2) ρ1).bind fun s ρ2 => (parI C E xs es ρ2).bind fun r ρ3 => .ok (s :: r) ρ3
  | _, _, _ => .no
def setSls (C : Ctx) : List Str → List Sl → PEnv → Option PEnv
  | [], [], ρ => some ρ
  | x :: xs, s :: ss, ρ => (setSl C x s ρ).bind fun ρ' => setSls C xs ss ρ'
  | _, _, _ => none
/-- a, b = e, f with plain local names: stored from the right -/
def parP (C : Ctx) (E : Ev) (ns : List Str) (ts vs : List Expr) (ρ : PEnv) : SR := match ts, vs with
  | [.Name x px, .Name y py], [a, b] => if isLc C.sc x && isLc C.sc y && decide (x ≠ y) && decide (ns = [x, y]) then (parI C E [x, y] [a, b] ρ).toS fun ss ρ' => nxO (setSls C [x, y] ss ρ') else .no
  | [.Name x px, .Name y py, .Name z pz], [a, b, c] => if isLc C.sc x && isLc C.sc y && isLc C.sc z && decide (x ≠ y) && decide (x ≠ z) && decide (y ≠ z) && decide (ns = [x, y, z]) then (parI C E [x, y, z] [a, b, c] ρ).toS fun ss ρ' => nxO (setSls C [x, y, z] ss ρ') else .no
  | _, _ => .no
def augP : Operator → PyData → PyData → Option PyData
  | .Add, .int i, .int j => some (.int (i + j))
  | .Sub, .int i, .int j => some (.int (i - j))
  | .Mult, .int i, .int j => if mulOk i j then some (.int (i * j)) else none
  | .FloorDiv, .int i, .int j => if divOk j then some (.int (i.fdiv j)) else none
  | .Add, .str x, .str y => if x.length + y.length ≤ sizeLine then some (.str (x ++ y)) else none
  | _, _, _ => none
/-- a value's parts into names -/
def unpk (C : Ctx) (ts : List Expr) (v : PyData) (ρ : PEnv) : SR := match v with
  | .tuple ds => nxO (setNames C ts ds ρ)
  | _ => .no
/-- a list's or dict's item set -/
def setIt (t : Tg) (d k v : PyData) : Option Sl := match d with
  | .list xs => (match k with
    | .int n => (L2.ixN xs.length n).map fun l => ⟨t, .list (xs.set l v)⟩
    | _ => none)
  | .dict kvs => (keyP k).bind fun key => if kvs.length < sizeLine then some ⟨t, .dict (putK key v kvs)⟩ else none
  | _ => none
def stStep (E : Ctx → Ev) (C : Ctx) (s : Stmt) (ρ : PEnv) : SR := match s with
  | .Pass _ => .nx ρ
  | .Break _ => .bk ρ
  | .Continue _ => .ct ρ
  | .Expr (.Constant (.str _) _ _) _ => .nx ρ
  | .Expr e _ => if noComp e then (match isMut C e with
      | some (x, m, args, apos, pos) => if apos.endLine == pos.line then mutP C (E C) x m args ρ else .no
      | none => ((E C).ev e ρ).toS fun _ ρ' => .nx ρ') else .no
  | .Return none _ => .rt .none false ρ
  | .Return (some e) _ => (match e with
      | .Name x _ => (match mutSl C x ρ with
        | some (i, .own, d) => .rt d true (ρ.set i none)
        | _ => ((E C).ev e ρ).toS fun v ρ' => .rt v.1 v.2 ρ')
      | e => ((E C).ev e ρ).toS fun v ρ' => .rt v.1 v.2 ρ')
  | .If t a b _ => ((E C).ts t ρ).toS fun k ρ' => if k then blk (E C) a ρ' else blk (E C) b ρ'
  | .Assign [.Name x _] e _ => if okAsg e then ((E C).ev e ρ).toS fun v ρ' => nxO ((ctName C x v.1 v.2).bind fun s => setSl C x s ρ') else .no
  | .Assign [.Subscript (.Name x _) i _] e _ => if noSlice i && noComp e then (kpE (E C) e ρ).toS fun v ρ1 => (match mutSl C x ρ1 with
      | some _ => (kpE (E C) i ρ1).toS fun k ρ2 => (match mutSl C x ρ2 with
        | some (j, t, d) => (match setIt t d k v with
          | some s => .nx (ρ2.set j (some s))
          | none => .no)
        | none => .no)
      | none => .no) else .no
  | .Assign [.Tuple ts _ _] (.Tuple vs vk vp) _ => (match swP C.sc ts vs with
      | some (some ns) => parP C (E C) ns ts vs ρ
      | some none => ((E C).ev (.Tuple vs vk vp) ρ).toS fun v ρ' => unpk C ts v.1 ρ'
      | none => .no)
  | .Assign [.Tuple ts _ _] e _ => if noComp e then ((E C).ev e ρ).toS fun v ρ' => unpk C ts v.1 ρ' else .no
  | .AugAssign (.Name x _) op e _ => (match slotOf C x with
      | some _ => (ofO (pkName C x ρ) ρ).toS fun _ ρ0 => ((E C).ev e ρ0).toS fun v ρ1 => (ofO (pkName C x ρ1) ρ1).toS fun u ρ2 => (match augP op u v.1 with
        | some d => nxO (setSl C x ⟨.fz, d⟩ ρ2)
        | none => .no)
      | none => .no)
  | .While t body [] _ => whileP (E C) t body WF ρ
  | .For tg it body [] _ => if noSet it then (iterP C (E C) it ρ).toS fun xs ρ' => forP C (E C) tg body xs ρ' else .no
  | _ => .no
def bot : Ev := ⟨fun _ _ => .no, fun _ _ => .no, fun _ _ => .no⟩
def evN : Nat → Ctx → Ev
  | 0, _ => bot
  | n + 1, C => ⟨evStep (evN n) C, tsStep (evN n) C, stStep (evN n) C⟩

/-! ### defs -/
structure Def where
  name : Str
  ps : List Str
  N : List Str
  mu : List Str
  pm : List Bool
  args : Arguments
  body : List Stmt
  sc : Scope
structure Prog where
  defs : List Def
  glo : List (Str × PyData)
  blt : List Str
  gcd : Bool
def findD (ds : List Def) (f : Str) : Option Def := ds.find? fun d => decide (d.name = f)
def ctxOf (G : Prog) (d : Def) (call : Str → List Sl → CR) : Ctx :=
  { N := d.N, sc := d.sc, mu := d.mu, glo := fun x => G.glo.lookup x, blt := fun x => G.blt.any fun y => decide (y = x), fns := fun f => (findD G.defs f).map (·.pm), call := call, gcd := G.gcd, own := fun _ => true }
def startP (d : Def) (args : List Sl) : PEnv := args.map some ++ List.replicate (d.N.length - args.length) none
def backP : List Sl → PEnv → Option (List Sl)
  | [], _ => some []
  | a :: as, ρ => match ρ with
    | [] => none
    | x :: r => (match a.t with
      | .lent => (match x with
        | some ⟨.lent, d⟩ => (backP as r).map (⟨.lent, d⟩ :: ·)
        | some ⟨.lf, .list d⟩ => (backP as r).map (⟨.lf, .list d⟩ :: ·)
        | _ => none)
      | _ => backP as r)
def FU : Nat := 60
def runD (G : Prog) (call : Str → List Sl → CR) (d : Def) (args : List Sl) : CR :=
  if args.length = d.ps.length then match blk (evN FU (ctxOf G d call)) d.body (startP d args) with
    | .nx ρ => (match backP args ρ with
      | some b => .ok .none false b
      | none => .no)
    | .rt v fr ρ => (match backP args ρ with
      | some b => .ok v fr b
      | none => .no)
    | .ex e ρ => (match backP args ρ with
      | some b => .ex e b
      | none => .no)
    | _ => .no
  else .no
def callK (G : Prog) : Nat → Str → List Sl → CR
  | 0, _, _ => .no
  | k + 1, f, args => match findD G.defs f with
    | some d => runD G (callK G k) d args
    | none => .no
end TW

set_option Elab.async false
set_option maxRecDepth 100000
set_option maxHeartbeats 1000000
/-! Tw2: what stands in the heap for what the evaluator holds. -/
namespace TW
open PySem PySem.Spec PyProof.Rows L2

/-! ### what a value stands for -/
/-- a tuple of the written part -/
def TupK (K : PySem.W.Frag) (a : Addr) (xs : List V) : Prop := ∃ (o : Obj) (its : Array Value) (n : Nat), K.lookup a = some o ∧ o.cls = .type "tuple" ∧ o.data = .seq its n ∧ its.size ≤ sizeLine ∧ Vals xs its.toList
/-- a list of the written part -/
def LstK (K : PySem.W.Frag) (a : Addr) (xs : List V) : Prop := ∃ (o : Obj) (its : Array Value) (n : Nat), K.lookup a = some o ∧ o.cls = .type "list" ∧ o.dict = none ∧ o.data = .seq its n ∧ its.size ≤ sizeLine ∧ Vals xs its.toList
mutual
/-- v is d, by objects that never change (Z) -/
inductive Rp (K : PySem.W.Frag) (Z : Addr → Prop) (H : Hp) : V → PyData → Prop
  | non : Rp K Z H .non .none
  | bl (b : Bool) : Rp K Z H (.bl b) (.bool b)
  | int (i : Int) : Rp K Z H (.int i) (.int i)
  | str (x : Str) : Rp K Z H (.str x) (.str x)
  | lst {a : Addr} {xs : List V} {ds : List PyData} : Z a → Rd H a (.lst xs) → RpA K Z H xs ds → Rp K Z H (.ref a) (.list ds)
  | tup {a : Addr} {xs : List V} {ds : List PyData} : Z a → Rd H a (.tup xs) → RpA K Z H xs ds → Rp K Z H (.ref a) (.tuple ds)
  | tupK {a : Addr} {xs : List V} {ds : List PyData} : TupK K a xs → RpA K Z H xs ds → Rp K Z H (.ref a) (.tuple ds)
  | lstK {a : Addr} {xs : List V} {ds : List PyData} : LstK K a xs → RpA K Z H xs ds → Rp K Z H (.ref a) (.list ds)
inductive RpA (K : PySem.W.Frag) (Z : Addr → Prop) (H : Hp) : List V → List PyData → Prop
  | nil : RpA K Z H [] []
  | cons {v : V} {vs : List V} {d : PyData} {ds : List PyData} : Rp K Z H v d → RpA K Z H vs ds → RpA K Z H (v :: vs) (d :: ds)
end
/-- a dict's pairs -/
inductive RpK (K : PySem.W.Frag) (Z : Addr → Prop) (H : Hp) : List (Key × V) → List (PyData × PyData) → Prop
  | nil : RpK K Z H [] []
  | cons {k : Key} {v : V} {r : List (Key × V)} {d : PyData} {s : List (PyData × PyData)} : Rp K Z H v d → RpK K Z H r s → RpK K Z H ((k, v) :: r) ((keyD k, d) :: s)
/-- what stands at a is d; its items never change -/
inductive At (K : PySem.W.Frag) (Z : Addr → Prop) (H : Hp) (a : Addr) : PyData → Prop
  | lst {xs : List V} {ds : List PyData} : H a = some (.lst xs) → RpA K Z H xs ds → At K Z H a (.list ds)
  | dct {kvs : List (Key × V)} {ks : List (PyData × PyData)} : H a = some (.dK kvs) → RpK K Z H kvs ks → At K Z H a (.dict ks)

/-- M: what may change; O: what slots own; L: the lent slots; Z: what never changes -/
structure SS where
  M : Addr → Prop
  O : Addr → Prop
  L : Nat → Addr → Prop
  Z : Addr → Prop
  H : Hp
/-- from s to s' -/
structure Ext (s s' : SS) : Prop where
  keep : ∀ a o, s.H a = some o → ¬ s.M a → s'.H a = some o
  dom : ∀ a, s'.H a = none → s.H a = none
  mg : ∀ a, s'.M a → s.M a ∨ s.H a = none
  og : ∀ a, s'.O a → s.O a ∨ s.H a = none
  lt : ∀ i a, s'.L i a → s.L i a
  zm : ∀ a, s.Z a → s'.Z a
  zg : ∀ a, s'.Z a → s.Z a ∨ s.M a ∨ s.H a = none
theorem Ext.refl {s : SS} : Ext s s := ⟨fun _ _ h _ => h, fun _ h => h, fun _ h => .inl h, fun _ h => .inl h, fun _ _ h => h, fun _ h => h, fun _ h => .inl h⟩
theorem Ext.trans {s s1 s2 : SS} (a : Ext s s1) (b : Ext s1 s2) : Ext s s2 where
  keep := fun c o h n => b.keep c o (a.keep c o h n) fun m => (a.mg c m).elim n fun z => by rw [h] at z; cases z
  dom := fun c h => a.dom c (b.dom c h)
  mg := fun c h => (b.mg c h).elim (a.mg c) fun z => .inr (a.dom c z)
  og := fun c h => (b.og c h).elim (a.og c) fun z => .inr (a.dom c z)
  lt := fun i c h => a.lt i c (b.lt i c h)
  zm := fun c h => b.zm c (a.zm c h)
  zg := fun c h => (b.zg c h).elim (a.zg c) fun q => q.elim (fun m => .inr (a.mg c m)) fun z => .inr (.inr (a.dom c z))

section
variable {K : PySem.W.Frag} {s s' : SS} {Z Z' M M' : Addr → Prop} {H H' : Hp}
theorem rd_ext (e : Ext s s') {a : Addr} {u : HO} (n : ¬ s.M a) (h : Rd s.H a u) : Rd s'.H a u := by
  rcases h with h | ⟨o, h⟩
  · exact .inl (e.keep a _ h n)
  · exact .inr ⟨o, e.keep a _ h n⟩
mutual
theorem Rp.ext (e : Ext s s') (q : ∀ a, s.Z a → ¬ s.M a) : ∀ {v : V} {d : PyData}, Rp K s.Z s.H v d → Rp K s'.Z s'.H v d
  | _, _, .non => .non
  | _, _, .bl b => .bl b
  | _, _, .int i => .int i
  | _, _, .str x => .str x
  | _, _, .lst z s r => .lst (e.zm _ z) (rd_ext e (q _ z) s) (RpA.ext e q r)
  | _, _, .tup z s r => .tup (e.zm _ z) (rd_ext e (q _ z) s) (RpA.ext e q r)
  | _, _, .tupK s r => .tupK s (RpA.ext e q r)
  | _, _, .lstK s r => .lstK s (RpA.ext e q r)
theorem RpA.ext (e : Ext s s') (q : ∀ a, s.Z a → ¬ s.M a) : ∀ {vs : List V} {ds : List PyData}, RpA K s.Z s.H vs ds → RpA K s'.Z s'.H vs ds
  | _, _, .nil => .nil
  | _, _, .cons r t => .cons (Rp.ext e q r) (RpA.ext e q t)
end
theorem RpK.ext (e : Ext s s') (q : ∀ a, s.Z a → ¬ s.M a) : ∀ {vs : List (Key × V)} {ds : List (PyData × PyData)}, RpK K s.Z s.H vs ds → RpK K s'.Z s'.H vs ds
  | _, _, .nil => .nil
  | _, _, .cons r t => .cons (Rp.ext e q r) (RpK.ext e q t)
theorem At.ext (e : Ext s s') (q : ∀ a, s.Z a → ¬ s.M a) {a : Addr} (n : ¬ s.M a) {d : PyData} (h : At K s.Z s.H a d) : At K s'.Z s'.H a d := by
  cases h with
  | lst h r => exact .lst (e.keep _ _ h n) (r.ext e q)
  | dct h r => exact .dct (e.keep _ _ h n) (r.ext e q)
theorem At.there {a : Addr} {d : PyData} (h : At K Z H a d) : H a ≠ none := by
  cases h with
  | lst h r => rw [h]; exact fun z => nomatch z
  | dct h r => rw [h]; exact fun z => nomatch z
theorem RpA.length : ∀ {vs : List V} {ds : List PyData}, RpA K Z H vs ds → vs.length = ds.length
  | _, _, .nil => rfl
  | _, _, .cons _ t => congrArg (· + 1) (RpA.length t)
theorem RpA.append : ∀ {vs us : List V} {ds es : List PyData}, RpA K Z H vs ds → RpA K Z H us es → RpA K Z H (vs ++ us) (ds ++ es)
  | _, _, _, _, .nil, s => s
  | _, _, _, _, .cons r t, s => .cons r (RpA.append t s)
theorem RpA.get : ∀ {vs : List V} {ds : List PyData} {i : Nat} {d : PyData}, RpA K Z H vs ds → ds[i]? = some d → ∃ v, vs[i]? = some v ∧ Rp K Z H v d
  | _, _, _, _, .nil, e => by simp at e
  | _, _, 0, _, .cons r _, e => by simp at e; subst e; exact ⟨_, rfl, r⟩
  | _, _, i + 1, d, .cons _ t, e => by
    obtain ⟨v, h1, h2⟩ := RpA.get (i := i) (d := d) t (by simpa using e)
    exact ⟨v, by simpa using h1, h2⟩
theorem RpA.get' : ∀ {vs : List V} {ds : List PyData} {i : Nat} {v : V}, RpA K Z H vs ds → vs[i]? = some v → ∃ d, ds[i]? = some d ∧ Rp K Z H v d
  | _, _, _, _, .nil, e => by simp at e
  | _, _, 0, _, .cons r _, e => by simp at e; subst e; exact ⟨_, rfl, r⟩
  | _, _, i + 1, d, .cons _ t, e => by
    obtain ⟨v, h1, h2⟩ := RpA.get' (i := i) (v := d) t (by simpa using e)
    exact ⟨v, by simpa using h1, h2⟩
theorem RpA.take : ∀ {vs : List V} {ds : List PyData} (n : Nat), RpA K Z H vs ds → RpA K Z H (vs.take n) (ds.take n)
  | _, _, 0, _ => .nil
  | _, _, _ + 1, .nil => .nil
  | _, _, n + 1, .cons r t => .cons r (RpA.take n t)
theorem RpA.drop : ∀ {vs : List V} {ds : List PyData} (n : Nat), RpA K Z H vs ds → RpA K Z H (vs.drop n) (ds.drop n)
  | _, _, 0, r => r
  | _, _, _ + 1, .nil => .nil
  | _, _, n + 1, .cons _ t => RpA.drop n t
theorem RpA.set {v : V} {d : PyData} (r : Rp K Z H v d) : ∀ {vs : List V} {ds : List PyData} (i : Nat), RpA K Z H vs ds → RpA K Z H (vs.set i v) (ds.set i d)
  | _, _, _, .nil => .nil
  | _, _, 0, .cons _ t => .cons r t
  | _, _, i + 1, .cons q t => .cons q (RpA.set r i t)
theorem RpA.cut {vs : List V} {ds : List PyData} (lo hi : Option Int) (r : RpA K Z H vs ds) : RpA K Z H (cutV vs lo hi) (cutL ds lo hi) := by
  unfold cutV cutL
  rw [r.length]
  exact (r.drop _).take _
theorem RpA.atI {vs : List V} {ds : List PyData} {i : Int} {d : PyData} (r : RpA K Z H vs ds) (h : L2.atI ds i = some d) : ∃ v, L2.atI vs i = some v ∧ Rp K Z H v d := by
  unfold L2.atI at h ⊢
  rw [r.length]
  cases e : L2.ixN ds.length i with
  | none => rw [e] at h; cases h
  | some j =>
    rw [e] at h
    obtain ⟨v, h1, h2⟩ := r.get (show ds[j]? = some d from h)
    exact ⟨v, h1, h2⟩
mutual
theorem Rp.dp : ∀ {v : V} {d : PyData}, Rp K Z H v d → Dp K H v d
  | _, _, .non => .non
  | _, _, .bl b => .bl b
  | _, _, .int i => .int i
  | _, _, .str x => .str x
  | _, _, .lst _ s r => .lst (.inl s) (RpA.dp r)
  | _, _, .tup _ s r => .tup (.inl s) (RpA.dp r)
  | _, _, .tupK s r => .tup (.inr s) (RpA.dp r)
  | _, _, .lstK s r => .lst (.inr s) (RpA.dp r)
theorem RpA.dp : ∀ {vs : List V} {ds : List PyData}, RpA K Z H vs ds → DpAll K H vs ds
  | _, _, .nil => .nil
  | _, _, .cons r t => .cons (Rp.dp r) (RpA.dp t)
end
end

/-! ### what is looked at: the top may change later -/
inductive Pk (K : PySem.W.Frag) (Z : Addr → Prop) (H : Hp) : V → PyData → Prop
  | rp {v : V} {d : PyData} : Rp K Z H v d → Pk K Z H v d
  | at_ {a : Addr} {d : PyData} : At K Z H a d → Pk K Z H (.ref a) d
section
variable {K : PySem.W.Frag} {Z Z' M M' : Addr → Prop} {H H' : Hp} {v : V}
theorem Pk.dp {d : PyData} (h : Pk K Z H v d) : (∃ kvs, d = .dict kvs) ∨ Dp K H v d := by
  cases h with
  | rp h => exact .inr h.dp
  | at_ h =>
    cases h with
    | lst h r => exact .inr (.lst (SqL.of h) r.dp)
    | dct h r => exact .inl ⟨_, rfl⟩
theorem Pk.dpP {d : PyData} (h : Pk K Z H v d) (p : d.plain = true) : Dp K H v d := by
  rcases h.dp with ⟨_, rfl⟩ | h
  · simp [PyData.plain] at p
  · exact h
theorem Pk.int {i : Int} (h : Pk K Z H v (.int i)) : v = .int i := by cases h with
  | rp h => cases h; rfl
  | at_ h => cases h
theorem Pk.bl {i : Bool} (h : Pk K Z H v (.bool i)) : v = .bl i := by cases h with
  | rp h => cases h; rfl
  | at_ h => cases h
theorem Pk.str {i : Str} (h : Pk K Z H v (.str i)) : v = .str i := by cases h with
  | rp h => cases h; rfl
  | at_ h => cases h
theorem Pk.non (h : Pk K Z H v .none) : v = .non := by cases h with
  | rp h => cases h; rfl
  | at_ h => cases h
theorem Pk.lst {ds : List PyData} (h : Pk K Z H v (.list ds)) : ∃ a xs, v = .ref a ∧ SqL K H a xs ∧ RpA K Z H xs ds := by cases h with
  | rp h => cases h with
    | lst z s r => exact ⟨_, _, rfl, .inl s, r⟩
    | lstK s r => exact ⟨_, _, rfl, .inr s, r⟩
  | at_ h => cases h with
    | lst h r => exact ⟨_, _, rfl, .inl (.inl h), r⟩
theorem Pk.tup {ds : List PyData} (h : Pk K Z H v (.tuple ds)) : ∃ a xs, v = .ref a ∧ SqT K H a xs ∧ RpA K Z H xs ds := by cases h with
  | rp h => cases h with
    | tup z s r => exact ⟨_, _, rfl, .inl s, r⟩
    | tupK s r => exact ⟨_, _, rfl, .inr s, r⟩
  | at_ h => cases h
theorem Pk.dct {ks : List (PyData × PyData)} (h : Pk K Z H v (.dict ks)) : ∃ a kvs, v = .ref a ∧ H a = some (.dK kvs) ∧ RpK K Z H kvs ks := by cases h with
  | rp h => cases h
  | at_ h => cases h with
    | dct h r => exact ⟨_, _, rfl, h, r⟩
end

/-! ### slots -/
def SlotR (K : PySem.W.Frag) (Z : Addr → Prop) (H : Hp) (v : V) (s : Sl) : Prop := match s.t with
  | .fz => Rp K Z H v s.d
  | .lf => Rp K Z H v s.d
  | _ => ∃ a, v = .ref a ∧ ¬ Z a ∧ At K Z H a s.d
def isOwnT : Tg → Bool
  | .own => true
  | _ => false
def isMutT : Tg → Bool
  | .own => true
  | .lent => true
  | _ => false
def isFz : Tg → Bool
  | .fz => true
  | .lf => true
  | _ => false
/-- the addresses that may change -/
def Mu (ρ : PEnv) (σ : L2.St) (a : Addr) : Prop := ∃ (i : Nat) (s : Sl), ρ[i]? = some (some s) ∧ isMutT s.t = true ∧ σ[i]? = some (some (V.ref a))
def isLentT : Tg → Bool
  | .lent => true
  | .lf => true
  | _ => false
/-- the lent slots -/
def La (ρ : PEnv) (σ : L2.St) (i : Nat) (a : Addr) : Prop := ∃ s : Sl, ρ[i]? = some (some s) ∧ isLentT s.t = true ∧ σ[i]? = some (some (V.ref a))
/-- what slots own -/
def Ow (ρ : PEnv) (σ : L2.St) (a : Addr) : Prop := ∃ (i : Nat) (s : Sl), ρ[i]? = some (some s) ∧ isOwnT s.t = true ∧ σ[i]? = some (some (V.ref a))
def sS (ρ : PEnv) (σ : L2.St) (Z : Addr → Prop) (H : Hp) : SS := ⟨Mu ρ σ, Ow ρ σ, La ρ σ, Z, H⟩
abbrev Ex (ρ : PEnv) (σ : L2.St) (Z : Addr → Prop) (H : Hp) (ρ' : PEnv) (σ' : L2.St) (Z' : Addr → Prop) (H' : Hp) : Prop := Ext (sS ρ σ Z H) (sS ρ' σ' Z' H')
structure EnvR (K : PySem.W.Frag) (Z : Addr → Prop) (ρ : PEnv) (σ : L2.St) (H : Hp) : Prop where
  zt : ∀ a, Z a → H a ≠ none
  len : ρ.length = σ.length
  sl : ∀ (i : Nat) (s : Sl), ρ[i]? = some (some s) → ∃ v, σ[i]? = some (some v) ∧ SlotR K Z H v s
  ap : ∀ (i j : Nat) (s u : Sl) (a : Addr), ρ[i]? = some (some s) → ρ[j]? = some (some u) → isFz s.t = false → isFz u.t = false → σ[i]? = some (some (V.ref a)) → σ[j]? = some (some (V.ref a)) → i = j
section
variable {K : PySem.W.Frag} {Z Z' M' : Addr → Prop} {H H' : Hp} {ρ ρ' : PEnv} {σ : L2.St}
theorem EnvR.zm (e : EnvR K Z ρ σ H) : ∀ a, Z a → ¬ Mu ρ σ a := fun a z ⟨i, s, h1, h2, h3⟩ => by
  obtain ⟨v, q1, q2⟩ := e.sl i s h1
  rw [h3] at q1
  cases q1
  unfold SlotR at q2
  cases ht : s.t with
  | fz => rw [ht] at h2; cases h2
  | lf => rw [ht] at h2; cases h2
  | own => rw [ht] at q2; obtain ⟨b, e1, n, _⟩ := q2; cases e1; exact n z
  | lent => rw [ht] at q2; obtain ⟨b, e1, n, _⟩ := q2; cases e1; exact n z
theorem EnvR.muThere (e : EnvR K Z ρ σ H) {a : Addr} (m : Mu ρ σ a) : H a ≠ none := by
  obtain ⟨i, s, h1, h2, h3⟩ := m
  obtain ⟨v, q1, q2⟩ := e.sl i s h1
  rw [h3] at q1
  cases q1
  unfold SlotR at q2
  cases ht : s.t with
  | fz => rw [ht] at h2; cases h2
  | lf => rw [ht] at h2; cases h2
  | own => rw [ht] at q2; obtain ⟨b, e1, _, q⟩ := q2; cases e1; exact q.there
  | lent => rw [ht] at q2; obtain ⟨b, e1, _, q⟩ := q2; cases e1; exact q.there
end

/-- a value that was made: new, or one that never changes -/
def Val (K : PySem.W.Frag) (H0 : Hp) (M' Z' : Addr → Prop) (H' : Hp) (v : V) (r : VR) : Prop :=
  if r.2 = true then ∃ a, v = .ref a ∧ H0 a = none ∧ ¬ Z' a ∧ ¬ M' a ∧ At K Z' H' a r.1 else Rp K Z' H' v r.1
theorem Val.fz {K : PySem.W.Frag} {H0 H' : Hp} {M' Z' : Addr → Prop} {v : V} {d : PyData} (h : Rp K Z' H' v d) : Val K H0 M' Z' H' v (d, false) := h
theorem Val.pk {K : PySem.W.Frag} {H0 H' : Hp} {M' Z' : Addr → Prop} {v : V} {r : VR} (h : Val K H0 M' Z' H' v r) : Pk K Z' H' v r.1 := by
  unfold Val at h
  split at h
  · obtain ⟨a, rfl, _, _, _, q⟩ := h
    exact .at_ q
  · exact .rp h

/-- .. of a def's end: it may be what a slot owned -/
def ValS (K : PySem.W.Frag) (O : Addr → Prop) (H0 : Hp) (M' Z' : Addr → Prop) (H' : Hp) (v : V) (r : VR) : Prop :=
  if r.2 = true then ∃ a, v = .ref a ∧ (O a ∨ H0 a = none) ∧ ¬ Z' a ∧ ¬ M' a ∧ At K Z' H' a r.1 else Rp K Z' H' v r.1
/-! ### the judgements -/
def tEv (K : PySem.W.Frag) (m : PEnv → R VR) : TE := fun σ H Q => ∃ ρ Z, EnvR K Z ρ σ H ∧ ∃ d ρ', m ρ = .ok d ρ' ∧
  ∀ v H' Z', Ex ρ σ Z H ρ' σ Z' H' → EnvR K Z' ρ' σ H' → Val K H (Mu ρ' σ) Z' H' v d → Q v H'
def tTs (K : PySem.W.Frag) (m : PEnv → R Bool) : TT := fun σ H Q => ∃ ρ Z, EnvR K Z ρ σ H ∧ ∃ b ρ', m ρ = .ok b ρ' ∧
  ∀ H' Z', Ex ρ σ Z H ρ' σ Z' H' → EnvR K Z' ρ' σ H' → Q b H'
def tSt (K : PySem.W.Frag) (m : PEnv → SR) : TS := fun D σ H => ∃ ρ Z, EnvR K Z ρ σ H ∧ match m ρ with
  | .nx ρ' => ∀ σ' H' Z', Ex ρ σ Z H ρ' σ' Z' H' → EnvR K Z' ρ' σ' H' → D.nx σ' H'
  | .bk ρ' => ∀ σ' H' Z', Ex ρ σ Z H ρ' σ' Z' H' → EnvR K Z' ρ' σ' H' → D.bk σ' H'
  | .ct ρ' => ∀ σ' H' Z', Ex ρ σ Z H ρ' σ' Z' H' → EnvR K Z' ρ' σ' H' → D.ct σ' H'
  | .rt d f ρ' => ∀ v σ' H' Z', Ex ρ σ Z H ρ' σ' Z' H' → EnvR K Z' ρ' σ' H' → ValS K (Ow ρ σ) H (Mu ρ' σ') Z' H' v (d, f) → D.rt v H'
  | .ex _ _ => False
  | .no => False
end TW

set_option Elab.async false
set_option maxRecDepth 100000
set_option maxHeartbeats 1000000
/-! Tw3: the rules by values. -/
namespace TW
open PySem PySem.Spec PyProof.Rows L2

/-- the heap grows -/
structure Gr (Z : Addr → Prop) (H : Hp) (Z' : Addr → Prop) (H' : Hp) : Prop where
  keep : ∀ a o, H a = some o → H' a = some o
  zm : ∀ a, Z a → Z' a
  zg : ∀ a, Z' a → Z a ∨ (H a = none ∧ H' a ≠ none)
theorem Gr.refl {Z : Addr → Prop} {H : Hp} : Gr Z H Z H := ⟨fun _ _ h => h, fun _ h => h, fun _ h => .inl h⟩
theorem Gr.ext {M O : Addr → Prop} {L : Nat → Addr → Prop} {Z Z' : Addr → Prop} {H H' : Hp} (g : Gr Z H Z' H') : Ext ⟨M, O, L, Z, H⟩ ⟨M, O, L, Z', H'⟩ where
  keep := fun a o h _ => g.keep a o h
  dom := fun a h => by
    have h : H' a = none := h
    show H a = none
    cases q : H a with
    | none => rfl
    | some o => rw [g.keep a o q] at h; cases h
  mg := fun _ h => Or.inl h
  og := fun _ h => Or.inl h
  lt := fun _ _ h => h
  zm := g.zm
  zg := fun a h => (g.zg a h).elim Or.inl fun z => Or.inr (Or.inr z.1)
theorem Gr.trans {Z Z1 Z2 : Addr → Prop} {H H1 H2 : Hp} (a : Gr Z H Z1 H1) (b : Gr Z1 H1 Z2 H2) : Gr Z H Z2 H2 where
  keep := fun c o h => b.keep c o (a.keep c o h)
  zm := fun c h => b.zm c (a.zm c h)
  zg := fun c h => by
    rcases b.zg c h with q | ⟨q, w⟩
    · rcases a.zg c q with q | ⟨q, w⟩
      · exact .inl q
      · refine .inr ⟨q, fun z => ?_⟩
        cases e : H1 c with
        | none => exact w e
        | some o => rw [b.keep c o e] at z; cases z
    · refine .inr ⟨?_, w⟩
      cases e : H c with
      | none => rfl
      | some o => rw [a.keep c o e] at q; cases q
section
variable {K : PySem.W.Frag} {Z Z' M : Addr → Prop} {H H' : Hp} {ρ : PEnv} {σ : L2.St}
theorem Gr.rp (g : Gr Z H Z' H') {v : V} {d : PyData} (h : Rp K Z H v d) : Rp K Z' H' v d :=
  Rp.ext (s := ⟨fun _ => False, fun _ => False, fun _ _ => False, Z, H⟩) (s' := ⟨fun _ => False, fun _ => False, fun _ _ => False, Z', H'⟩) g.ext (fun _ _ => id) h
theorem Gr.rpA (g : Gr Z H Z' H') {v : List V} {d : List PyData} (h : RpA K Z H v d) : RpA K Z' H' v d :=
  RpA.ext (s := ⟨fun _ => False, fun _ => False, fun _ _ => False, Z, H⟩) (s' := ⟨fun _ => False, fun _ => False, fun _ _ => False, Z', H'⟩) g.ext (fun _ _ => id) h
theorem Gr.at_ (g : Gr Z H Z' H') {a : Addr} {d : PyData} (h : At K Z H a d) : At K Z' H' a d :=
  At.ext (s := ⟨fun _ => False, fun _ => False, fun _ _ => False, Z, H⟩) (s' := ⟨fun _ => False, fun _ => False, fun _ _ => False, Z', H'⟩) g.ext (fun _ _ => id) id h
theorem Gr.env (g : Gr Z H Z' H') (e : EnvR K Z ρ σ H) : EnvR K Z' ρ σ H' where
  zt := fun a z => (g.zg a z).elim (fun q h => e.zt a q (by
    cases w : H a with
    | none => rfl
    | some o => rw [g.keep a o w] at h; cases h)) fun q => q.2
  len := e.len
  ap := e.ap
  sl := fun i s h => by
    obtain ⟨v, h1, h2⟩ := e.sl i s h
    refine ⟨v, h1, ?_⟩
    unfold SlotR at h2 ⊢
    have ct : (∃ a, v = .ref a ∧ ¬ Z a ∧ At K Z H a s.d) → ∃ a, v = .ref a ∧ ¬ Z' a ∧ At K Z' H' a s.d := fun ⟨a, e1, n, q⟩ =>
      ⟨a, e1, fun z => (g.zg a z).elim n fun y => q.there y.1, g.at_ q⟩
    cases ht : s.t with
    | fz => rw [ht] at h2; exact g.rp h2
    | lf => rw [ht] at h2; exact g.rp h2
    | own => rw [ht] at h2; exact ct h2
    | lent => rw [ht] at h2; exact ct h2
theorem Gr.new {p : Addr} {o : HO} (h : H p = none) : Gr Z H Z (upd H p o) :=
  ⟨fun a u e => by rw [upd_ne (fun z => by rw [z, h] at e; cases e)]; exact e, fun _ h => h, fun _ h => .inl h⟩
theorem Gr.newZ {p : Addr} {o : HO} (h : H p = none) : Gr Z H (fun a => Z a ∨ a = p) (upd H p o) :=
  ⟨fun a u e => by rw [upd_ne (fun z => by rw [z, h] at e; cases e)]; exact e, fun _ h => .inl h, fun a h' => h'.elim .inl fun e => .inr (by rw [e]; exact ⟨h, by rw [upd_same]; exact fun z => nomatch z⟩)⟩
/-- what is wanted of a result d: it is made of what stands, or new -/
def Kn (K : PySem.W.Frag) (Z : Addr → Prop) (H : Hp) (r : VR) (Q : VK) : Prop := ∀ v H' Z', Gr Z H Z' H' → (if r.2 = true then ∃ a, v = .ref a ∧ H a = none ∧ ¬ Z' a ∧ At K Z' H' a r.1 else Rp K Z' H' v r.1) → Q v H'
theorem Kn.sc {d : PyData} {v : V} {Q : VK} (q : Kn K Z H (d, false) Q) (h : Rp K Z H v d) : Q v H := q v H Z .refl h
theorem Kn.nl {p : Addr} {xs : List V} {ds : List PyData} {Q : VK} (q : Kn K Z H (.list ds, true) Q) (zn : ∀ a, Z a → H a ≠ none) (hp : H p = none) (r : RpA K Z H xs ds) : Q (.ref p) (upd H p (.lst xs)) := by
  have g : Gr Z H Z (upd H p (.lst xs)) := .new hp
  exact q _ _ Z g (by rw [if_pos rfl]; exact ⟨p, rfl, hp, fun z => zn p z hp, .lst upd_same (g.rpA r)⟩)
theorem Kn.nt {p : Addr} {xs : List V} {ds : List PyData} {Q : VK} (q : Kn K Z H (.tuple ds, false) Q) (hp : H p = none) (r : RpA K Z H xs ds) : Q (.ref p) (upd H p (.tup xs)) := by
  have g : Gr Z H (fun a => Z a ∨ a = p) (upd H p (.tup xs)) := .newZ hp
  exact q _ _ _ g (by rw [if_neg Bool.false_ne_true]; exact .tup (.inr rfl) (Rd.of upd_same) (g.rpA r))
end

/-! ### operators -/
theorem Pk.rpT {K : PySem.W.Frag} {Z : Addr → Prop} {H : Hp} {v : V} {ds : List PyData} (h : Pk K Z H v (.tuple ds)) : Rp K Z H v (.tuple ds) := by
  cases h with
  | rp h => exact h
  | at_ h => cases h
theorem Pk.isNo {K : PySem.W.Frag} {Z : Addr → Prop} {H : Hp} {v : V} {d : PyData} (h : Pk K Z H v d) : decide (v = V.non) = isNo d := by
  cases h with
  | rp h => cases h <;> rfl
  | at_ h => cases h <;> rfl
section
variable {X : Cx}
theorem mulOk_ok {i j : Int} (h : mulOk i j = true) : IntMulOk i j := by
  unfold mulOk smallI at h
  rw [Bool.or_eq_true, Bool.or_eq_true] at h
  rcases h with h | h | h
  · rw [Bool.and_eq_true] at h
    exact CMul.ok (.inl ⟨of_decide_eq_true h.1, of_decide_eq_true h.2⟩)
  · rw [Bool.and_eq_true] at h
    exact CMul.ok (.inr ⟨of_decide_eq_true h.1, of_decide_eq_true h.2⟩)
  · have h3 := of_decide_eq_true h
    have b : ∀ x : Int, Builtin.Int.intBits x ≤ x.natAbs.log2 + 1 := fun x => by
      unfold Builtin.Int.intBits
      split <;> omega
    have h1 := b i
    have h2 := b j
    have e : bitsLine = 134217728 := by decide
    unfold IntMulOk
    intro z
    rw [Bool.and_eq_true] at z
    have z2 := z.2
    unfold Builtin.Int.intTooBig at z2
    have z3 := of_decide_eq_true z2
    rw [e] at z3
    omega
theorem op_mulT : OpR X (binaryOp .Mult) (rI (fun i j => mulOk i j = true) fun i j => .int (i * j)) := opI fun _ _ _ _ _ _ _ hc q => mul_int q (mulOk_ok hc)
theorem iop_mulT : OpR X (inplaceOp .Mult) (rI (fun i j => mulOk i j = true) fun i j => .int (i * j)) := opI fun _ _ _ _ _ _ _ hc q => imul_int q (mulOk_ok hc)
theorem divOk_ok {j : Int} (h : divOk j = true) : j ≠ 0 ∧ j.natAbs.log2 < 9000 := by
  unfold divOk at h
  rw [Bool.and_eq_true] at h
  exact ⟨of_decide_eq_true h.1, of_decide_eq_true h.2⟩
theorem op_divT : OpR X (binaryOp .FloorDiv) (rI (fun _ j => divOk j = true) fun i j => .int (i.fdiv j)) := opI fun _ _ _ _ _ _ _ hc q => floordiv_int (divOk_ok hc).1 q (.inl (PyProof.noPylong_of_log2 (divOk_ok hc).2))
theorem iop_divT : OpR X (inplaceOp .FloorDiv) (rI (fun _ j => divOk j = true) fun i j => .int (i.fdiv j)) := opI fun _ _ _ _ _ _ _ hc q => ifloordiv_int (divOk_ok hc).1 q (.inl (PyProof.noPylong_of_log2 (divOk_ok hc).2))
theorem op_catT2 : OpR X (binaryOp .Add) (fun x y H Q => ∃ l b xs zs, x = .ref l ∧ y = .ref b ∧ SqL X.K H l xs ∧ SqL X.K H b zs ∧ xs.length + zs.length ≤ sizeLine ∧ ∀ p, H p = none → Q (.ref p) (upd H p (.lst (xs ++ zs)))) := by
  intro pins s σ H x y v u Q I rx ry h
  obtain ⟨l, b, xs, zs, rfl, rfl, hH, hB, hz, q⟩ := h
  cases rx
  cases ry
  obtain ⟨its, r, p, _⟩ := I.list hH
  obtain ⟨its2, r2, p2, _⟩ := I.list hB
  have hl := r.length
  have hl2 := r2.length
  obtain ⟨⟨cls, dd, data, sl⟩, ho, hc, n, hd⟩ := id p.isList
  obtain ⟨⟨cls2, dd2, data2, sl2⟩, ho2, hc2, n2, hd2⟩ := id p2.isList
  simp only at hc hd hc2 hd2
  subst hc hd hc2 hd2
  have ea : its.toArray ++ its2.toArray = (its ++ its2).toArray := by simp
  refine concat_meets ⟨_, ho, rfl⟩ ⟨_, ho2, rfl⟩ noFill_list_add seq_list_add PySem.F.slot_list_add PySem.F.entry_list_add (PySem.F.args_list_add_2 _ _) (list_addW l b its.toArray its2.toArray n n2 dd dd2 sl sl2 (by simp; omega)) ⟨ho, ho2, ?_⟩
  rw [ea]
  exact ⟨.ref _, _, I.lnew (t' := s.toks) (r.append r2) (by rw [List.length_append]; omega), rfl, q _ I.fresh⟩
theorem repS_one (x : Str) : repS x 1 = x := by
  unfold repS
  simp
theorem repS_zero (x : Str) : repS x 0 = Str.empty := rfl
theorem repS_emp {x : Str} (h : x.length = 0) (n : Nat) : repS x n = x := by
  have e : x.cps.toList = [] := by
    have : x.cps.size = 0 := h
    apply List.eq_nil_of_length_eq_zero
    simpa using this
  obtain ⟨c⟩ := x
  unfold repS
  simp only at e ⊢
  rw [e]
  have : ∀ n : Nat, (List.replicate n ([] : List Nat)).flatten = [] := fun n => by
    induction n with
    | zero => rfl
    | succ n ih => rw [List.replicate_succ, List.flatten_cons, ih]; rfl
  rw [this]
  congr 1
  exact (Array.toList_eq_nil_iff.mp e).symm
theorem foldl_repS (c : Array Nat) : ∀ (n : Nat) (a : Array Nat), (List.replicate n c).foldl (· ++ ·) a = a ++ (List.replicate n c.toList).flatten.toArray
  | 0, a => by simp
  | n + 1, a => by
    rw [List.replicate_succ, List.foldl_cons, foldl_repS c n, List.replicate_succ, List.flatten_cons]
    apply Array.ext'
    simp
theorem op_mul_str : OpR X (binaryOp .Mult) (fun x y H Q => ∃ i j, x = .str i ∧ y = .int j ∧ (smallI (2 * j) && decide (i.length * j.toNat ≤ sizeLine)) = true ∧ Q (.str (repS i j.toNat)) H) := by
  intro pins s σ H x y v u Q I rx ry h
  obtain ⟨i, j, rfl, rfl, hz, q⟩ := h
  obtain ⟨t, rfl⟩ := rx
  obtain ⟨t', rfl⟩ := ry
  rw [Bool.and_eq_true] at hz
  have hz1 := hz.1
  have hz2 := of_decide_eq_true hz.2
  unfold smallI at hz1
  rw [Bool.and_eq_true] at hz1
  have b1 := of_decide_eq_true hz1.1
  have b2 := of_decide_eq_true hz1.2
  have e24 : sizeLine = 16777216 := by decide
  refine P.mul_str ?_ (fun h1 h2 => ?_) (fun h1 h2 => ?_) ?_
  · rw [decide_eq_false (by omega), decide_eq_false (by omega)]
    rfl
  · have hj : 0 < j := by omega
    have h3 : (i.length : Int) * j ≤ 16777216 := by
      have : ((i.length * j.toNat : Nat) : Int) ≤ ((sizeLine : Nat) : Int) := Int.ofNat_le.mpr hz2
      rw [Int.natCast_mul, show ((j.toNat : Nat) : Int) = j by omega, e24] at this
      exact this
    have h4 : (i.length : Int) ≤ (2 ^ 63 - 1) / j := by
      apply Int.le_ediv_of_mul_le hj
      omega
    omega
  · unfold Builtin.Str.tooLong
    first | exact decide_eq_false (by omega) | simp; omega
  · by_cases h1 : j < 1
    · rw [if_pos h1]
      have : j.toNat = 0 := by omega
      rw [this, repS_zero] at q
      exact ⟨by decide, ⟨.str Str.empty, H, I.tok _, ⟨_, rfl⟩, q⟩⟩
    · rw [if_neg h1]
      by_cases h2 : (j == 1 || i.length == 0) = true
      · rw [if_pos h2]
        have e : repS i j.toNat = i := by
          rw [Bool.or_eq_true] at h2
          rcases h2 with h2 | h2
          · have : j = 1 := by simpa using h2
            rw [this]
            exact repS_one i
          · exact repS_emp (by simpa using h2) _
        rw [e] at q
        exact ⟨.str i, H, I, ⟨_, rfl⟩, q⟩
      · rw [if_neg h2, foldl_repS]
        have e : (#[] ++ (List.replicate j.toNat i.cps.toList).flatten.toArray : Array Nat) = (List.replicate j.toNat i.cps.toList).flatten.toArray := by simp
        rw [e]
        refine ⟨?_, ⟨.str (repS i j.toNat), H, I.tok _, ⟨_, rfl⟩, q⟩⟩
        show Str.length ⟨(List.replicate j.toNat i.cps.toList).flatten.toArray⟩ ≤ sizeLine
        have e2 : Str.length ⟨(List.replicate j.toNat i.cps.toList).flatten.toArray⟩ = i.length * j.toNat := by
          unfold Str.length
          simp [List.length_flatten, Nat.mul_comm]
        rw [e2]
        exact hz2
/-- a binary operator by values -/
def rB (K : PySem.W.Frag) (op : Operator) : R2 := fun x y H Q => ∃ Z dx dy d, (∀ a, Z a → H a ≠ none) ∧ Pk K Z H x dx ∧ Pk K Z H y dy ∧ binP op dx dy = some d ∧ Kn K Z H (d, isCt d) Q
theorem op_bin (op : Operator) : OpR X (binaryOp op) (rB X.K op) := by
  intro pins s σ H x y v u Q I rx ry h
  obtain ⟨Z, dx, dy, d, zt, px, py, e, q⟩ := h
  unfold binP at e
  split at e
  · obtain rfl := px.int; obtain rfl := py.int; cases e
    exact op_add pins s σ H _ _ v u Q I rx ry ⟨_, _, rfl, rfl, q.sc (.int _)⟩
  · obtain rfl := px.str; obtain rfl := py.str
    split at e
    · cases e
      exact op_add_str pins s σ H _ _ v u Q I rx ry ⟨_, _, rfl, rfl, by assumption, q.sc (.str _)⟩
    · cases e
  · obtain ⟨a, xs, rfl, ha, hx⟩ := px.lst
    obtain ⟨b, ys, rfl, hb, hy⟩ := py.lst
    split at e
    · rename_i hl
      cases e
      exact op_catT2 pins s σ H _ _ v u Q I rx ry ⟨_, _, _, _, rfl, rfl, ha, hb, by rw [hx.length, hy.length]; exact hl, fun p hp => q.nl zt hp (hx.append hy)⟩
    · cases e
  · obtain ⟨a, xs, rfl, ha, hx⟩ := px.tup
    obtain ⟨b, ys, rfl, hb, hy⟩ := py.tup
    split at e
    · rename_i hl
      cases e
      refine op_catA pins s σ H _ _ v u Q I rx ry ⟨_, _, _, _, rfl, rfl, ha, hb, by rw [hx.length, hy.length]; exact hl, fun e => ?_, fun _ e => ?_, fun _ _ p hp => q.nt hp (hx.append hy)⟩
      · subst e
        cases hx
        have h1 : Rp X.K Z H (.ref b) (.tuple _) := py.rpT
        exact q.sc h1
      · subst e
        cases hy
        have h1 : Rp X.K Z H (.ref a) (.tuple _) := px.rpT
        exact q.sc (by simpa using h1)
    · cases e
  · obtain rfl := px.int; obtain rfl := py.int; cases e
    exact op_sub pins s σ H _ _ v u Q I rx ry ⟨_, _, rfl, rfl, q.sc (.int _)⟩
  · obtain rfl := px.int; obtain rfl := py.int
    split at e
    · cases e
      exact op_mulT pins s σ H _ _ v u Q I rx ry ⟨_, _, rfl, rfl, by assumption, q.sc (.int _)⟩
    · cases e
  · obtain rfl := px.str; obtain rfl := py.int
    split at e
    · cases e
      exact op_mul_str pins s σ H _ _ v u Q I rx ry ⟨_, _, rfl, rfl, by assumption, q.sc (.str _)⟩
    · cases e
  · obtain rfl := px.int; obtain rfl := py.int
    split at e
    · cases e
      exact op_divT pins s σ H _ _ v u Q I rx ry ⟨_, _, rfl, rfl, by assumption, q.sc (.int _)⟩
    · cases e
  · obtain rfl := px.int; obtain rfl := py.int
    split at e
    · cases e
      exact op_modN pins s σ H _ _ v u Q I rx ry ⟨_, _, rfl, rfl, by assumption, q.sc (.int _)⟩
    · cases e
  · obtain rfl := px.int; obtain rfl := py.int
    split at e
    · rename_i hp
      cases e
      unfold powOk at hp
      rw [Bool.and_eq_true, Bool.and_eq_true] at hp
      exact op_pow pins s σ H _ _ v u Q I rx ry ⟨_, _, rfl, rfl, ⟨of_decide_eq_true hp.1.1, of_decide_eq_true hp.1.2, of_decide_eq_true hp.2⟩, q.sc (.int _)⟩
    · cases e
  · cases e
/-- a comparison by values -/
def rC (K : PySem.W.Frag) (op : CmpOp) : R2 := fun x y H Q => ∃ Z dx dy b, Pk K Z H x dx ∧ Pk K Z H y dy ∧ cmpP op dx dy = some b ∧ Q (.bl b) H
theorem eqOk_ok {d e : PyData} {A : Around} (hu : A.units + 64 < cLine) (h : eqOk d e = true) : d.plain = true ∧ e.plain = true ∧ A.units + min d.depth e.depth < cLine := by
  unfold eqOk at h
  rw [Bool.and_eq_true, Bool.and_eq_true, Bool.or_eq_true] at h
  obtain ⟨⟨h1, h2⟩, h3⟩ := h
  refine ⟨h1, h2, ?_⟩
  have m1 : min d.depth e.depth ≤ d.depth := Nat.min_le_left _ _
  have m2 : min d.depth e.depth ≤ e.depth := Nat.min_le_right _ _
  rcases h3 with h3 | h3
  · have := of_decide_eq_true h3; omega
  · have := of_decide_eq_true h3; omega
theorem inOk_ok {d : PyData} {es : List PyData} {c : PyData} (hc : c = .list es ∨ c = .tuple es) {A : Around} (hu : A.units + 64 < cLine) (h : eqOk d c = true) : d.plain = true ∧ PyData.plainAll es = true ∧ A.units + 1 + min (PyData.depthAll es) d.depth < cLine := by
  unfold eqOk at h
  rw [Bool.and_eq_true, Bool.and_eq_true, Bool.or_eq_true] at h
  obtain ⟨⟨h1, h2⟩, h3⟩ := h
  have hd : PyData.depthAll es ≤ c.depth := by
    rcases hc with rfl | rfl <;> simp [PyData.depth]
  refine ⟨h1, by rcases hc with rfl | rfl <;> simpa [PyData.plain] using h2, ?_⟩
  have m1 : min (PyData.depthAll es) d.depth ≤ PyData.depthAll es := Nat.min_le_left _ _
  have m2 : min (PyData.depthAll es) d.depth ≤ d.depth := Nat.min_le_right _ _
  rcases h3 with h3 | h3
  · have := of_decide_eq_true h3; omega
  · have := of_decide_eq_true h3; omega
theorem dec_iff {p q : Prop} [Decidable p] [Decidable q] (h : p ↔ q) : decide p = decide q := by
  by_cases hp : p
  · rw [decide_eq_true hp, decide_eq_true (h.mp hp)]
  · rw [decide_eq_false hp, decide_eq_false (fun z => hp (h.mpr z))]
theorem op_cmp (hu : X.A.units + 64 < cLine) (op : CmpOp) : OpR X (compareOp op) (rC X.K op) := by
  intro pins s σ H x y v u Q I rx ry h
  obtain ⟨Z, dx, dy, b, px, py, e, q⟩ := h
  have deep : ∀ (d : PyData) (c : PyData), Pk X.K Z H x d → Pk X.K Z H y c → d.plain = true → c.plain = true → ∃ as bs, Reads s.heap v d as ∧ Reads s.heap u c bs := fun d c hd hc p1 p2 => by
    obtain ⟨as, r1⟩ := Dp.reads I d x v (hd.dpP p1) rx
    obtain ⟨bs, r2⟩ := Dp.reads I c y u (hc.dpP p2) ry
    exact ⟨as, bs, r1, r2⟩
  have pl : ∀ {es : List PyData}, PyData.plainAll es = true → (PyData.list es).plain = true ∧ (PyData.tuple es).plain = true := fun h => ⟨by simpa [PyData.plain] using h, by simpa [PyData.plain] using h⟩
  unfold cmpP at e
  split at e
  · obtain rfl := px.int; obtain rfl := py.int; cases e
    exact op_lt pins s σ H _ _ v u Q I rx ry ⟨_, _, rfl, rfl, q⟩
  · obtain rfl := px.int; obtain rfl := py.int; cases e
    exact op_le pins s σ H _ _ v u Q I rx ry ⟨_, _, rfl, rfl, q⟩
  · obtain rfl := px.int; obtain rfl := py.int; cases e
    exact op_gt pins s σ H _ _ v u Q I rx ry ⟨_, _, rfl, rfl, q⟩
  · obtain rfl := px.int; obtain rfl := py.int; cases e
    exact op_ge pins s σ H _ _ v u Q I rx ry ⟨_, _, rfl, rfl, q⟩
  · obtain rfl := px.str; obtain rfl := py.str; cases e
    exact op_lt_str pins s σ H _ _ v u Q I rx ry ⟨_, _, rfl, rfl, q⟩
  · obtain rfl := px.int; obtain rfl := py.int; cases e
    exact op_eq pins s σ H _ _ v u Q I rx ry ⟨rfl, by rw [dec_iff (show (V.int _ = V.int _) ↔ _ from ⟨V.int.inj, congrArg V.int⟩)]; exact q⟩
  · obtain rfl := px.int; obtain rfl := py.int; cases e
    exact op_ne pins s σ H _ _ v u Q I rx ry ⟨rfl, by rw [dec_iff (show (V.int _ = V.int _) ↔ _ from ⟨V.int.inj, congrArg V.int⟩)]; exact q⟩
  · obtain rfl := px.str; obtain rfl := py.str; cases e
    exact op_eq pins s σ H _ _ v u Q I rx ry ⟨rfl, by rw [dec_iff (show (V.str _ = V.str _) ↔ _ from ⟨V.str.inj, congrArg V.str⟩)]; exact q⟩
  · obtain rfl := px.str; obtain rfl := py.str; cases e
    exact op_ne pins s σ H _ _ v u Q I rx ry ⟨rfl, by rw [dec_iff (show (V.str _ = V.str _) ↔ _ from ⟨V.str.inj, congrArg V.str⟩)]; exact q⟩
  · obtain rfl := px.bl; obtain rfl := py.bl; cases e
    exact op_eq pins s σ H _ _ v u Q I rx ry ⟨rfl, by rw [dec_iff (show (V.bl _ = V.bl _) ↔ _ from ⟨V.bl.inj, congrArg V.bl⟩)]; exact q⟩
  · obtain rfl := px.bl; obtain rfl := py.bl; cases e
    exact op_ne pins s σ H _ _ v u Q I rx ry ⟨rfl, by rw [dec_iff (show (V.bl _ = V.bl _) ↔ _ from ⟨V.bl.inj, congrArg V.bl⟩)]; exact q⟩
  · obtain rfl := py.non; cases e
    refine op_isN pins s σ H _ _ v u Q I rx ry ⟨rfl, ?_⟩
    rw [px.isNo]
    exact q
  · obtain rfl := py.non; cases e
    refine op_notN pins s σ H _ _ v u Q I rx ry ⟨rfl, ?_⟩
    rw [px.isNo]
    exact q
  · split at e
    · rename_i ho
      cases e
      obtain ⟨p1, p2, hr⟩ := eqOk_ok hu ho
      obtain ⟨as, bs, r1, r2⟩ := deep _ _ px py p1 p2
      exact SeqAt.eq_plain r1 r2 p1 p2 hr ⟨.bl _, H, I, rfl, q⟩
    · cases e
  · split at e
    · rename_i ho
      cases e
      obtain ⟨p1, p2, hr⟩ := eqOk_ok hu ho
      obtain ⟨as, bs, r1, r2⟩ := deep _ _ px py p1 p2
      exact SeqAt.ne_plain r1 r2 p1 p2 hr ⟨.bl _, H, I, rfl, q⟩
    · cases e
  · split at e
    · rename_i ho
      cases e
      obtain ⟨p1, p2, hr⟩ := inOk_ok (.inl rfl) hu ho
      obtain ⟨as, bs, r1, r2⟩ := deep _ _ px py p1 (pl p2).1
      exact SeqAt.in_list_data r2 r1 p2 p1 hr ⟨.bl _, H, I, rfl, q⟩
    · cases e
  · split at e
    · rename_i ho
      cases e
      obtain ⟨p1, p2, hr⟩ := inOk_ok (.inl rfl) hu ho
      obtain ⟨as, bs, r1, r2⟩ := deep _ _ px py p1 (pl p2).1
      exact SeqAt.notIn_list_data r2 r1 p2 p1 hr ⟨.bl _, H, I, rfl, q⟩
    · cases e
  · split at e
    · rename_i ho
      cases e
      obtain ⟨p1, p2, hr⟩ := inOk_ok (.inr rfl) hu ho
      obtain ⟨as, bs, r1, r2⟩ := deep _ _ px py p1 (pl p2).2
      exact SeqAt.in_tuple_data r2 r1 p2 p1 hr ⟨.bl _, H, I, rfl, q⟩
    · cases e
  · split at e
    · rename_i ho
      cases e
      obtain ⟨p1, p2, hr⟩ := inOk_ok (.inr rfl) hu ho
      obtain ⟨as, bs, r1, r2⟩ := deep _ _ px py p1 (pl p2).2
      exact SeqAt.notIn_tuple_data r2 r1 p2 p1 hr ⟨.bl _, H, I, rfl, q⟩
    · cases e
  · obtain rfl := px.str; obtain rfl := py.str; cases e
    exact op_in_str pins s σ H _ _ v u Q I rx ry ⟨_, _, rfl, rfl, q⟩
  · obtain rfl := px.str; obtain rfl := py.str; cases e
    exact op_notIn_str pins s σ H _ _ v u Q I rx ry ⟨_, _, rfl, rfl, q⟩
  · cases e
def rUnP (K : PySem.W.Frag) (op : UnaryOp) : V → Hp → VK → Prop := fun x H Q => ∃ Z dx d, Pk K Z H x dx ∧ unP op dx = some d ∧ Kn K Z H (d, false) Q
theorem op_un (op : UnaryOp) : UnR X (unaryOp op) (rUnP X.K op) := by
  intro pins s σ H x v Q I rx h
  obtain ⟨Z, dx, d, px, e, q⟩ := h
  unfold unP at e
  split at e
  · obtain rfl := px.int; cases e
    exact un_neg pins s σ H _ v Q I rx ⟨_, rfl, q.sc (.int _)⟩
  · cases e
/-- truth -/
theorem RpK.isEmpty {K : PySem.W.Frag} {Z : Addr → Prop} {H : Hp} {kvs : List (Key × V)} {ks : List (PyData × PyData)} (r : RpK K Z H kvs ks) : kvs.isEmpty = ks.isEmpty := by
  cases r <;> rfl
theorem RpA.isEmpty {K : PySem.W.Frag} {Z : Addr → Prop} {H : Hp} {kvs : List V} {ks : List PyData} (r : RpA K Z H kvs ks) : kvs.isEmpty = ks.isEmpty := by
  cases r <;> rfl
theorem tru_of {K : PySem.W.Frag} {Z : Addr → Prop} {H : Hp} {x : V} {d : PyData} {k : Bool} (px : Pk K Z H x d) (e : truP d = some k) : TruV K x H k := by
  cases d with
  | none => obtain rfl := px.non; cases e; rfl
  | bool b => obtain rfl := px.bl; cases e; rfl
  | int i => obtain rfl := px.int; cases e; rfl
  | str z =>
    obtain rfl := px.str
    simp only [truP] at e
    split at e
    · cases e
      refine ⟨by assumption, ?_⟩
      rw [Bool.eq_iff_iff]
      simp
    · cases e
  | list ds =>
    obtain ⟨a, xs, rfl, ha, hx⟩ := px.lst
    cases e
    exact .inl ⟨xs, ha, by rw [hx.isEmpty]⟩
  | tuple ds =>
    obtain ⟨a, xs, rfl, ha, hx⟩ := px.tup
    cases e
    exact .inr (.inl ⟨xs, ha, by rw [hx.isEmpty]⟩)
  | dict ks =>
    obtain ⟨a, kvs, rfl, ha, hx⟩ := px.dct
    cases e
    exact .inr (.inr ⟨kvs, ha, by rw [hx.isEmpty]⟩)
end
end TW

set_option Elab.async false
set_option maxRecDepth 100000
set_option maxHeartbeats 1000000
/-! Tw4: subscripts, slices, built-ins by values. -/
namespace TW
open PySem PySem.Spec PyProof.Rows L2
section
variable {K : PySem.W.Frag} {Z : Addr → Prop} {H : Hp}
theorem keyP_kV {v : V} {d : PyData} {k : Key} (p : Pk K Z H v d) (e : keyP d = some k) : v = kV k := by
  cases d with
  | int i => cases e; exact p.int
  | str i => cases e; exact p.str
  | none => cases e
  | bool b => cases e
  | list b => cases e
  | tuple b => cases e
  | dict b => cases e
theorem isKey_keyD (k j : Key) : isKey k (keyD j) = decide (j = k) := by
  cases k with
  | inl i => cases j with
    | inl j => show decide (i = j) = _; exact dec_iff ⟨fun e => by rw [e], fun e => (Sum.inl.inj e).symm⟩
    | inr j => exact (decide_eq_false (fun z => nomatch z)).symm
  | inr i => cases j with
    | inr j => show decide (i = j) = _; exact dec_iff ⟨fun e => by rw [e], fun e => (Sum.inr.inj e).symm⟩
    | inl j => exact (decide_eq_false (fun z => nomatch z)).symm
theorem RpK.getK {k : Key} {d : PyData} : ∀ {kvs : List (Key × V)} {ks : List (PyData × PyData)}, RpK K Z H kvs ks → TW.getK k ks = some d → ∃ v, valV kvs k = some v ∧ Rp K Z H v d
  | _, _, .nil, e => nomatch e
  | _, _, @RpK.cons _ _ _ j v r d' s h t, e => by
    unfold TW.getK at e
    rw [isKey_keyD] at e
    by_cases q : j = k
    · rw [if_pos (decide_eq_true q)] at e
      cases e
      exact ⟨v, valV_pos (p := (j, v)) q, h⟩
    · rw [decide_eq_false q, if_neg Bool.false_ne_true] at e
      obtain ⟨v', h1, h2⟩ := RpK.getK t e
      exact ⟨v', by rw [valV_neg (p := (j, v)) q]; exact h1, h2⟩
theorem RpK.any {k : Key} : ∀ {kvs : List (Key × V)} {ks : List (PyData × PyData)}, RpK K Z H kvs ks → (kvs.any fun kv => decide (kv.1 = k)) = ks.any fun q => isKey k q.1
  | _, _, .nil => rfl
  | _, _, .cons h t => by rw [List.any_cons, List.any_cons, RpK.any t, isKey_keyD]
theorem RpK.append : ∀ {kvs more : List (Key × V)} {ks ls : List (PyData × PyData)}, RpK K Z H kvs ks → RpK K Z H more ls → RpK K Z H (kvs ++ more) (ks ++ ls)
  | _, _, _, _, .nil, s => s
  | _, _, _, _, .cons h t, s => .cons h (RpK.append t s)
theorem RpK.map {k : Key} {v : V} {d : PyData} (r : Rp K Z H v d) : ∀ {kvs : List (Key × V)} {ks : List (PyData × PyData)}, RpK K Z H kvs ks →
    RpK K Z H (kvs.map fun kv => if kv.1 = k then (kv.1, v) else kv) (ks.map fun q => if isKey k q.1 = true then (q.1, d) else q)
  | _, _, .nil => .nil
  | _, _, @RpK.cons _ _ _ j v' r' d' s h t => by
    rw [List.map_cons, List.map_cons]
    by_cases e : j = k
    · rw [if_pos e, if_pos (by rw [isKey_keyD]; exact decide_eq_true e)]
      exact .cons r (RpK.map r t)
    · rw [if_neg e, if_neg (by rw [isKey_keyD, decide_eq_false e]; exact Bool.false_ne_true)]
      exact .cons h (RpK.map r t)
theorem RpK.put {k : Key} {v : V} {d : PyData} (r : Rp K Z H v d) {kvs : List (Key × V)} {ks : List (PyData × PyData)} (h : RpK K Z H kvs ks) : RpK K Z H (L2.putK kvs k v) (TW.putK k d ks) := by
  unfold L2.putK TW.putK
  rw [h.any]
  split
  · exact h.map r
  · exact h.append (.cons r .nil)
theorem RpK.length : ∀ {kvs : List (Key × V)} {ks : List (PyData × PyData)}, RpK K Z H kvs ks → kvs.length = ks.length
  | _, _, .nil => rfl
  | _, _, .cons _ t => congrArg (· + 1) (RpK.length t)
theorem RpA.ints : ∀ {vs : List V} {ds : List PyData} {ns : List Int}, RpA K Z H vs ds → intsP ds = some ns → vs = ns.map V.int
  | _, _, _, .nil, e => by cases e; rfl
  | _, _, _, @RpA.cons _ _ _ v vs d ds h t, e => by
    cases h with
    | int i =>
      rw [intsP] at e
      cases q : intsP ds with
      | none => rw [q] at e; cases e
      | some ms =>
        rw [q] at e
        cases e
        rw [RpA.ints t q]
        rfl
    | _ => cases e
theorem RpA.strs : ∀ {vs : List V} {ds : List PyData} {ns : List Str}, RpA K Z H vs ds → strsP ds = some ns → vs = ns.map V.str
  | _, _, _, .nil, e => by cases e; rfl
  | _, _, _, @RpA.cons _ _ _ v vs d ds h t, e => by
    cases h with
    | str i =>
      rw [strsP] at e
      cases q : strsP ds with
      | none => rw [q] at e; cases e
      | some ms =>
        rw [q] at e
        cases e
        rw [RpA.strs t q]
        rfl
    | _ => cases e
end
/-! ### items, slices -/
section
variable {X : Cx}
def rX (K : PySem.W.Frag) : R2 := fun x y H Q => ∃ Z dx dy d, Pk K Z H x dx ∧ Pk K Z H y dy ∧ idxP dx dy = some d ∧ ∀ v, Rp K Z H v d → Q v H
theorem ix_all (hu : X.A.units + 1 < cLine) : IxR X (rX X.K) := by
  intro value slice pins s σ H x y v u Q I rx ry h hs
  obtain ⟨Z, dx, dy, d, px, py, e, q⟩ := h
  cases dx with
  | list ds =>
    cases dy with
    | int i =>
      obtain ⟨a, xs, rfl, ha, hx⟩ := px.lst
      obtain rfl := py.int
      obtain ⟨v', h1, h2⟩ := hx.atI (show L2.atI ds i = some d from e)
      exact ix_list value slice pins s σ H _ _ v u Q I rx ry ⟨a, xs, i, v', rfl, rfl, ha, h1, q _ h2⟩ hs
    | _ => cases e
  | tuple ds =>
    cases dy with
    | int i =>
      obtain ⟨a, xs, rfl, ha, hx⟩ := px.tup
      obtain rfl := py.int
      obtain ⟨v', h1, h2⟩ := hx.atI (show L2.atI ds i = some d from e)
      exact ix_tup value slice pins s σ H _ _ v u Q I rx ry ⟨a, xs, i, v', rfl, rfl, ha, h1, q _ h2⟩ hs
    | _ => cases e
  | str z =>
    cases dy with
    | int i =>
      obtain rfl := px.str
      obtain rfl := py.int
      simp only [idxP] at e
      split at e
      · cases ec : L2.atI z.cps.toList i with
        | none => rw [ec] at e; cases e
        | some c =>
          rw [ec] at e
          cases e
          exact ix_str value slice pins s σ H _ _ v u Q I rx ry ⟨z, i, c, rfl, rfl, by assumption, ec, q _ (.str _)⟩ hs
      · cases e
    | _ => cases e
  | dict ks =>
    obtain ⟨a, kvs, rfl, ha, hx⟩ := px.dct
    cases ek : keyP dy with
    | none => unfold idxP at e; simp only [ek] at e; cases e
    | some k =>
      unfold idxP at e
      simp only [ek] at e
      obtain rfl := keyP_kV py ek
      obtain ⟨v', h1, h2⟩ := hx.getK e
      have g : DGet H a (kV k) (some v') := by rw [← h1]; exact DGet.k ha
      cases rx
      exact tail_any (dict_typeIs I g) PySem.F.slot_dict_getitem.lookup (d_getItem hu I g ry fun w' s3 I3 rw' => ⟨v', H, I3, rw', q _ h2⟩) hs
  | _ => cases e
def rS (K : PySem.W.Frag) : V → Option Int → Option Int → Hp → VK → Prop := fun x lo hi H Q => ∃ Z dx d, (∀ a, Z a → H a ≠ none) ∧ Pk K Z H x dx ∧ slcP dx lo hi = some d ∧ Kn K Z H (d, isCt d) Q
theorem sIx_whole {n : Nat} {α : Type} {xs : List α} (hl : xs.length = n) {lo hi : Option Int} (h : HT.sIx n 0 lo = 0 ∧ HT.sIx n n hi = n) : cutL xs lo hi = xs := by
  unfold cutL
  rw [hl, h.1, h.2, List.drop_zero, Nat.sub_zero, ← hl, List.take_length]
theorem sl_all : SlR X (rS X.K) := by
  intro pins s σ H x v vl vu lo hi sl Q I rx hs pl pu h
  obtain ⟨Z, dx, d, zt, px, e, q⟩ := h
  cases dx with
  | list ds =>
    obtain ⟨a, xs, rfl, ha, hx⟩ := px.lst
    cases e
    exact sl_list pins s σ H _ v vl vu lo hi sl Q I rx hs pl pu ⟨a, xs, rfl, ha, fun p hp => q.nl zt hp (hx.cut lo hi)⟩
  | tuple ds =>
    have h0 := px.rpT
    obtain ⟨a, xs, rfl, ha, hx⟩ := px.tup
    cases e
    refine sl_tupA pins s σ H _ v vl vu lo hi sl Q I rx hs pl pu ⟨a, xs, rfl, ha, fun hw => ?_, fun _ p hp => q.nt hp (hx.cut lo hi)⟩
    have e1 : cutL ds lo hi = ds := sIx_whole hx.length.symm hw
    refine q.sc ?_
    rw [e1]
    exact h0
  | str z =>
    obtain rfl := px.str
    simp only [slcP] at e
    split at e
    · cases e
      exact sl_str pins s σ H _ v vl vu lo hi sl Q I rx hs pl pu ⟨z, rfl, by assumption, q.sc (.str _)⟩
    · cases e
  | _ => cases e
/-! ### built-ins -/
theorem foldl_max : ∀ (l : List Int) (x : Int), (∀ y ∈ l, y ≤ l.foldl (fun a b => if a < b then b else a) x) ∧ x ≤ l.foldl (fun a b => if a < b then b else a) x ∧ (l.foldl (fun a b => if a < b then b else a) x = x ∨ l.foldl (fun a b => if a < b then b else a) x ∈ l)
  | [], x => ⟨fun _ h => (nomatch h), Int.le_refl _, .inl rfl⟩
  | y :: l, x => by
    rw [List.foldl_cons]
    by_cases h : x < y
    · rw [if_pos h]
      obtain ⟨h1, h2, h3⟩ := foldl_max l y
      refine ⟨fun z hz => (List.mem_cons.mp hz).elim (fun e => e ▸ h2) (h1 z), by omega, ?_⟩
      rcases h3 with h3 | h3
      · exact .inr (by rw [h3]; exact List.mem_cons_self)
      · exact .inr (List.mem_cons_of_mem _ h3)
    · rw [if_neg h]
      obtain ⟨h1, h2, h3⟩ := foldl_max l x
      refine ⟨fun z hz => (List.mem_cons.mp hz).elim (fun e => by rw [e]; omega) (h1 z), h2, ?_⟩
      exact h3.imp id (List.mem_cons_of_mem _)
theorem foldl_min : ∀ (l : List Int) (x : Int), (∀ y ∈ l, l.foldl (fun a b => if b < a then b else a) x ≤ y) ∧ l.foldl (fun a b => if b < a then b else a) x ≤ x ∧ (l.foldl (fun a b => if b < a then b else a) x = x ∨ l.foldl (fun a b => if b < a then b else a) x ∈ l)
  | [], x => ⟨fun _ h => (nomatch h), Int.le_refl _, .inl rfl⟩
  | y :: l, x => by
    rw [List.foldl_cons]
    by_cases h : y < x
    · rw [if_pos h]
      obtain ⟨h1, h2, h3⟩ := foldl_min l y
      refine ⟨fun z hz => (List.mem_cons.mp hz).elim (fun e => e ▸ h2) (h1 z), by omega, ?_⟩
      rcases h3 with h3 | h3
      · exact .inr (by rw [h3]; exact List.mem_cons_self)
      · exact .inr (List.mem_cons_of_mem _ h3)
    · rw [if_neg h]
      obtain ⟨h1, h2, h3⟩ := foldl_min l x
      refine ⟨fun z hz => (List.mem_cons.mp hz).elim (fun e => by rw [e]; omega) (h1 z), h2, ?_⟩
      exact h3.imp id (List.mem_cons_of_mem _)
theorem maxL_ok {ns : List Int} {m : Int} (h : maxL ns = some m) : 0 < ns.length ∧ ∀ k, k ∈ ns → (∀ y, y ∈ ns → y ≤ k) → k = m := by
  cases ns with
  | nil => cases h
  | cons x r =>
    cases h
    obtain ⟨h1, h2, h3⟩ := foldl_max r x
    refine ⟨Nat.succ_pos _, fun k hk hb => ?_⟩
    have a : k ≤ r.foldl (fun a b => if a < b then b else a) x := (List.mem_cons.mp hk).elim (fun e => e ▸ h2) (h1 k)
    have b : r.foldl (fun a b => if a < b then b else a) x ≤ k := hb _ (h3.elim (fun e => by rw [e]; exact List.mem_cons_self) (List.mem_cons_of_mem _))
    omega
theorem minL_ok {ns : List Int} {m : Int} (h : minL ns = some m) : 0 < ns.length ∧ ∀ k, k ∈ ns → (∀ y, y ∈ ns → k ≤ y) → k = m := by
  cases ns with
  | nil => cases h
  | cons x r =>
    cases h
    obtain ⟨h1, h2, h3⟩ := foldl_min r x
    refine ⟨Nat.succ_pos _, fun k hk hb => ?_⟩
    have a : r.foldl (fun a b => if b < a then b else a) x ≤ k := (List.mem_cons.mp hk).elim (fun e => e ▸ h2) (h1 k)
    have b : k ≤ r.foldl (fun a b => if b < a then b else a) x := hb _ (h3.elim (fun e => by rw [e]; exact List.mem_cons_self) (List.mem_cons_of_mem _))
    omega
/-- a built-in of one argument -/
def rB1 (K : PySem.W.Frag) (f : Str) : List V → Hp → VK → Prop := fun xs H Q => ∃ Z x dx r, (∀ a, Z a → H a ≠ none) ∧ xs = [x] ∧ Pk K Z H x dx ∧ bi1P f dx = some r ∧ Kn K Z H r Q
/-- how a name of the built-ins is called -/
inductive BiK (X : Cx) (f : Str) (r : List V → Hp → VK → Prop) : Prop
  | fn {id : String} (h : bootBuiltins f = some (.builtin id)) (c : CallR X (.builtin id) r) : BiK X f r
  | ty {T : String} (h : bootBuiltins f = some (.type T)) (c : CallR X (.type T) r) : BiK X f r
theorem bi1_ok (hc : X.calm = true) (f : Str) : BiK X f (rB1 X.K f) ∨ ∀ d, bi1P f d = none := by
  by_cases f1 : f = "len"
  · subst f1
    refine .inl (.fn PySem.boot_len fun pins s σ H xs us Q I rs h => ?_)
    obtain ⟨Z, x, dx, r, zt, rfl, px, e, q⟩ := h
    unfold bi1P at e
    rw [if_pos rfl] at e
    cases dx with
    | list ds => cases e; obtain ⟨a, xs, rfl, ha, hx⟩ := px.lst; exact call_len pins s σ H _ us Q I rs ⟨_, xs.length, rfl, .inl ⟨xs, ha, rfl⟩, by rw [hx.length]; exact q.sc (.int _)⟩
    | tuple ds => cases e; obtain ⟨a, xs, rfl, ha, hx⟩ := px.tup; exact call_len pins s σ H _ us Q I rs ⟨_, xs.length, rfl, .inr ⟨xs, ha, rfl⟩, by rw [hx.length]; exact q.sc (.int _)⟩
    | str z =>
      simp only at e
      split at e
      · cases e; obtain rfl := px.str; exact call_len pins s σ H _ us Q I rs ⟨_, z.length, rfl, ⟨by assumption, rfl⟩, q.sc (.int _)⟩
      · cases e
    | _ => cases e
  by_cases f2 : f = "int"
  · subst f2
    refine .inl (.ty PyProof.Rows.boot_int fun pins s σ H xs us Q I rs h => ?_)
    obtain ⟨Z, x, dx, r, zt, rfl, px, e, q⟩ := h
    unfold bi1P at e
    rw [if_neg (by decide), if_pos rfl] at e
    cases dx with
    | int i => cases e; obtain rfl := px.int; exact call_int1 pins s σ H _ us Q I rs (.inl ⟨_, rfl, q.sc (.int _)⟩)
    | bool i => cases e; obtain rfl := px.bl; exact call_int1 pins s σ H _ us Q I rs (.inr ⟨_, rfl, q.sc (.int _)⟩)
    | str z =>
      simp only at e
      split at e
      · cases ei : PySem.intText? z with
        | none => rw [ei] at e; cases e
        | some n => rw [ei] at e; cases e; obtain rfl := px.str; exact call_int_str pins s σ H _ us Q I rs ⟨z, n, rfl, ei, by assumption, q.sc (.int _)⟩
      · cases e
    | _ => cases e
  by_cases f3 : f = "tuple"
  · subst f3
    refine .inl (.ty PyProof.Rows.boot_tuple fun pins s σ H xs us Q I rs h => ?_)
    obtain ⟨Z, x, dx, r, zt, rfl, px, e, q⟩ := h
    unfold bi1P at e
    rw [if_neg (by decide), if_neg (by decide), if_pos rfl] at e
    cases dx with
    | list ds => cases e; obtain ⟨a, xs, rfl, ha, hx⟩ := px.lst; exact call_tuple_of pins s σ H _ us Q I rs ⟨a, xs, rfl, .inl ⟨ha, fun p hp => q.nt hp hx⟩⟩
    | tuple ds => cases e; have h0 := px.rpT; obtain ⟨a, xs, rfl, ha, hx⟩ := px.tup; exact call_tuple_of pins s σ H _ us Q I rs ⟨a, xs, rfl, .inr ⟨ha, q.sc h0⟩⟩
    | _ => cases e
  by_cases f4 : f = "list"
  · subst f4
    refine .inl (.ty PyProof.Rows.boot_list fun pins s σ H xs us Q I rs h => ?_)
    obtain ⟨Z, x, dx, r, zt, rfl, px, e, q⟩ := h
    unfold bi1P at e
    rw [if_neg (by decide), if_neg (by decide), if_neg (by decide), if_pos rfl] at e
    cases dx with
    | list ds => cases e; obtain ⟨a, xs, rfl, ha, hx⟩ := px.lst; exact call_list_of pins s σ H _ us Q I rs ⟨a, xs, rfl, .inl ha, fun p hp => q.nl zt hp hx⟩
    | tuple ds => cases e; obtain ⟨a, xs, rfl, ha, hx⟩ := px.tup; exact call_list_of pins s σ H _ us Q I rs ⟨a, xs, rfl, .inr ha, fun p hp => q.nl zt hp hx⟩
    | _ => cases e
  by_cases f5 : f = "str"
  · subst f5
    refine .inl (.ty PyProof.Rows.boot_str fun pins s σ H xs us Q I rs h => ?_)
    obtain ⟨Z, x, dx, r, zt, rfl, px, e, q⟩ := h
    unfold bi1P at e
    rw [if_neg (by decide), if_neg (by decide), if_neg (by decide), if_neg (by decide), if_pos rfl] at e
    cases dx with
    | int i =>
      simp only at e
      split at e
      · cases e; obtain rfl := px.int; exact call_str_int pins s σ H _ us Q I rs ⟨_, rfl, by assumption, q.sc (.str _)⟩
      · cases e
    | _ => cases e
  by_cases f6 : f = "abs"
  · subst f6
    refine .inl (.fn PyProof.Rows.boot_abs fun pins s σ H xs us Q I rs h => ?_)
    obtain ⟨Z, x, dx, r, zt, rfl, px, e, q⟩ := h
    unfold bi1P at e
    rw [if_neg (by decide), if_neg (by decide), if_neg (by decide), if_neg (by decide), if_neg (by decide), if_pos rfl] at e
    cases dx with
    | int i => cases e; obtain rfl := px.int; exact call_abs pins s σ H _ us Q I rs ⟨_, rfl, q.sc (.int _)⟩
    | _ => cases e
  by_cases f7 : f = "sum"
  · subst f7
    refine .inl (.fn (id := "sum") (by decide +kernel) fun pins s σ H xs us Q I rs h => ?_)
    obtain ⟨Z, x, dx, r, zt, rfl, px, e, q⟩ := h
    unfold bi1P at e
    rw [if_neg (by decide), if_neg (by decide), if_neg (by decide), if_neg (by decide), if_neg (by decide), if_neg (by decide), if_pos rfl] at e
    cases dx with
    | list ds =>
      simp only at e
      cases ei : intsP ds with
      | none => rw [ei] at e; cases e
      | some ns =>
        rw [ei] at e
        cases e
        obtain ⟨a, xs, rfl, ha, hx⟩ := px.lst
        exact cr_sum hc pins s σ H _ us Q I rs ⟨a, ns, rfl, (by rw [← hx.ints ei]; exact ha), q.sc (.int _)⟩
    | _ => cases e
  by_cases f8 : f = "max"
  · subst f8
    refine .inl (.fn (id := "max") (by decide +kernel) fun pins s σ H xs us Q I rs h => ?_)
    obtain ⟨Z, x, dx, r, zt, rfl, px, e, q⟩ := h
    unfold bi1P at e
    rw [if_neg (by decide), if_neg (by decide), if_neg (by decide), if_neg (by decide), if_neg (by decide), if_neg (by decide), if_neg (by decide), if_pos rfl] at e
    cases dx with
    | list ds =>
      simp only at e
      cases ei : intsP ds with
      | none => rw [ei] at e; cases e
      | some ns =>
        rw [ei] at e
        simp only [Option.bind_some] at e
        cases em : maxL ns with
        | none => rw [em] at e; cases e
        | some m =>
          rw [em] at e
          cases e
          obtain ⟨a, xs, rfl, ha, hx⟩ := px.lst
          obtain ⟨h1, h2⟩ := maxL_ok em
          exact cr_max hc pins s σ H _ us Q I rs ⟨a, ns, rfl, (by rw [← hx.ints ei]; exact ha), h1, fun k hk hb => by rw [h2 k hk hb]; exact q.sc (.int _)⟩
    | _ => cases e
  by_cases f9 : f = "min"
  · subst f9
    refine .inl (.fn (id := "min") (by decide +kernel) fun pins s σ H xs us Q I rs h => ?_)
    obtain ⟨Z, x, dx, r, zt, rfl, px, e, q⟩ := h
    unfold bi1P at e
    rw [if_neg (by decide), if_neg (by decide), if_neg (by decide), if_neg (by decide), if_neg (by decide), if_neg (by decide), if_neg (by decide), if_neg (by decide), if_pos rfl] at e
    cases dx with
    | list ds =>
      simp only at e
      cases ei : intsP ds with
      | none => rw [ei] at e; cases e
      | some ns =>
        rw [ei] at e
        simp only [Option.bind_some] at e
        cases em : minL ns with
        | none => rw [em] at e; cases e
        | some m =>
          rw [em] at e
          cases e
          obtain ⟨a, xs, rfl, ha, hx⟩ := px.lst
          obtain ⟨h1, h2⟩ := minL_ok em
          exact cr_min hc pins s σ H _ us Q I rs ⟨a, ns, rfl, (by rw [← hx.ints ei]; exact ha), h1, fun k hk hb => by rw [h2 k hk hb]; exact q.sc (.int _)⟩
    | _ => cases e
  · refine .inr fun d => ?_
    unfold bi1P
    rw [if_neg f1, if_neg f2, if_neg f3, if_neg f4, if_neg f5, if_neg f6, if_neg f7, if_neg f8, if_neg f9]
/-- a built-in of two arguments -/
def rB2 (K : PySem.W.Frag) (f : Str) : List V → Hp → VK → Prop := fun xs H Q => ∃ Z x y dx dy r, xs = [x, y] ∧ Pk K Z H x dx ∧ Pk K Z H y dy ∧ bi2P f dx dy = some r ∧ Kn K Z H r Q
theorem bi2_ok (hc : X.calm = true) (f : Str) (hf : f ≠ "gcd") : BiK X f (rB2 X.K f) ∨ ∀ d e, bi2P f d e = none := by
  by_cases f1 : f = "max"
  · subst f1
    refine .inl (.fn (id := "max") (by decide +kernel) fun pins s σ H xs us Q I rs h => ?_)
    obtain ⟨Z, x, y, dx, dy, r, rfl, px, py, e, q⟩ := h
    unfold bi2P at e
    rw [if_pos rfl] at e
    split at e
    · obtain rfl := px.int; obtain rfl := py.int; cases e
      exact call_max2 hc pins s σ H _ us Q I rs ⟨_, _, rfl, q.sc (.int _)⟩
    · cases e
  by_cases f2 : f = "min"
  · subst f2
    refine .inl (.fn (id := "min") (by decide +kernel) fun pins s σ H xs us Q I rs h => ?_)
    obtain ⟨Z, x, y, dx, dy, r, rfl, px, py, e, q⟩ := h
    unfold bi2P at e
    rw [if_neg (by decide), if_pos rfl] at e
    split at e
    · obtain rfl := px.int; obtain rfl := py.int; cases e
      exact call_min2 hc pins s σ H _ us Q I rs ⟨_, _, rfl, q.sc (.int _)⟩
    · cases e
  · refine .inr fun d e => ?_
    unfold bi2P
    rw [if_neg f1, if_neg f2, if_neg hf]
theorem gcd_ok : CallR X (.builtin "math.gcd") (rB2 X.K "gcd") := by
  intro pins s σ H xs us Q I rs h
  obtain ⟨Z, x, y, dx, dy, r, rfl, px, py, e, q⟩ := h
  unfold bi2P at e
  rw [if_neg (by decide), if_neg (by decide), if_pos rfl] at e
  split at e
  · obtain rfl := px.int; obtain rfl := py.int; cases e
    exact cr_gcd pins s σ H _ us Q I rs ⟨_, _, rfl, q.sc (.int _)⟩
  · cases e
/-- isinstance -/
theorem Pk.ty {K : PySem.W.Frag} {Z : Addr → Prop} {H : Hp} {x : V} {d : PyData} (p : Pk K Z H x d) : TyX K H x (.type (tyP d)) := by
  cases d with
  | none => obtain rfl := p.non; exact .base .non
  | bool b => obtain rfl := p.bl; exact .base (.bl b)
  | int i => obtain rfl := p.int; exact .base (.int i)
  | str z => obtain rfl := p.str; exact .base (.str z)
  | list ds =>
    obtain ⟨a, xs, rfl, ha, hx⟩ := p.lst
    rcases ha with (ha | ⟨o, ha⟩) | ⟨o, its, n, h1, h2, _⟩
    · exact .base (.lst ha)
    · exact .base (.frz ha)
    · exact .kList h1 h2
  | tuple ds =>
    obtain ⟨a, xs, rfl, (ha | ⟨o, ha⟩) | ⟨o, its, n, h1, h2, _⟩, hx⟩ := p.tup
    · exact .base (.tup ha)
    · exact .fTuple ha
    · exact .kTuple h1 h2
  | dict ks =>
    obtain ⟨a, kvs, rfl, ha, hx⟩ := p.dct
    exact .base (.dK ha)
theorem isi_ok {T : Str} {d : PyData} {b : Bool} (e : isiP d T = some b) : ∃ n : String, bootBuiltins T = some (.type n) ∧ kitB (tyP d) n = some b := by
  unfold isiP at e
  split at e
  · rename_i h
    subst h
    refine ⟨"int", PyProof.Rows.boot_int, ?_⟩
    cases d with
    | none => cases e; exact (by decide +kernel : kitB "NoneType" "int" = some false)
    | bool z => cases e; exact (by decide +kernel : kitB "bool" "int" = some true)
    | int z => cases e; exact (by decide +kernel : kitB "int" "int" = some true)
    | str z => cases e; exact (by decide +kernel : kitB "str" "int" = some false)
    | list z => cases e; exact (by decide +kernel : kitB "list" "int" = some false)
    | tuple z => cases e; exact (by decide +kernel : kitB "tuple" "int" = some false)
    | dict z => cases e; exact (by decide +kernel : kitB "dict" "int" = some false)
  · split at e
    · rename_i h
      subst h
      refine ⟨"bool", PyProof.Rows.boot_bool, ?_⟩
      cases d with
      | none => cases e; exact (by decide +kernel : kitB "NoneType" "bool" = some false)
      | bool z => cases e; exact (by decide +kernel : kitB "bool" "bool" = some true)
      | int z => cases e; exact (by decide +kernel : kitB "int" "bool" = some false)
      | str z => cases e; exact (by decide +kernel : kitB "str" "bool" = some false)
      | list z => cases e; exact (by decide +kernel : kitB "list" "bool" = some false)
      | tuple z => cases e; exact (by decide +kernel : kitB "tuple" "bool" = some false)
      | dict z => cases e; exact (by decide +kernel : kitB "dict" "bool" = some false)
    · split at e
      · rename_i h
        subst h
        refine ⟨"tuple", PyProof.Rows.boot_tuple, ?_⟩
        cases d with
        | none => cases e; exact (by decide +kernel : kitB "NoneType" "tuple" = some false)
        | bool z => cases e; exact (by decide +kernel : kitB "bool" "tuple" = some false)
        | int z => cases e; exact (by decide +kernel : kitB "int" "tuple" = some false)
        | str z => cases e; exact (by decide +kernel : kitB "str" "tuple" = some false)
        | list z => cases e; exact (by decide +kernel : kitB "list" "tuple" = some false)
        | tuple z => cases e; exact (by decide +kernel : kitB "tuple" "tuple" = some true)
        | dict z => cases e; exact (by decide +kernel : kitB "dict" "tuple" = some false)
      · split at e
        · rename_i h
          subst h
          refine ⟨"str", PyProof.Rows.boot_str, ?_⟩
          cases d with
          | none => cases e; exact (by decide +kernel : kitB "NoneType" "str" = some false)
          | bool z => cases e; exact (by decide +kernel : kitB "bool" "str" = some false)
          | int z => cases e; exact (by decide +kernel : kitB "int" "str" = some false)
          | str z => cases e; exact (by decide +kernel : kitB "str" "str" = some true)
          | list z => cases e; exact (by decide +kernel : kitB "list" "str" = some false)
          | tuple z => cases e; exact (by decide +kernel : kitB "tuple" "str" = some false)
          | dict z => cases e; exact (by decide +kernel : kitB "dict" "str" = some false)
        · split at e
          · rename_i h
            subst h
            refine ⟨"list", PyProof.Rows.boot_list, ?_⟩
            cases d with
            | none => cases e; exact (by decide +kernel : kitB "NoneType" "list" = some false)
            | bool z => cases e; exact (by decide +kernel : kitB "bool" "list" = some false)
            | int z => cases e; exact (by decide +kernel : kitB "int" "list" = some false)
            | str z => cases e; exact (by decide +kernel : kitB "str" "list" = some false)
            | list z => cases e; exact (by decide +kernel : kitB "list" "list" = some true)
            | tuple z => cases e; exact (by decide +kernel : kitB "tuple" "list" = some false)
            | dict z => cases e; exact (by decide +kernel : kitB "dict" "list" = some false)
          · cases e
end
end TW

set_option Elab.async false
set_option maxRecDepth 100000
set_option maxHeartbeats 1000000
/-! Tw5: names, operands, arguments. -/
namespace TW
open PySem PySem.Spec PyProof.Rows L2

theorem PE.imp {X : Cx} {e : Expr} {t t' : TE} (h : PE X e t) (i : ∀ σ H Q, t' σ H Q → t σ H Q) : PE X e t' := ⟨fun pins s σ H Q I q => h.run pins s σ H Q I (i σ H Q q)⟩
theorem PT.imp {X : Cx} {e : Expr} {t t' : TT} (h : PT X e t) (i : ∀ σ H Q, t' σ H Q → t σ H Q) : PT X e t' := ⟨fun pins s σ H Q I q => h.run pins s σ H Q I (i σ H Q q)⟩
theorem PS.imp {X : Cx} {e : Stmt} {t t' : TS} (h : PS X e t) (i : ∀ σ H Q, t' Q σ H → t Q σ H) : PS X e t' := ⟨fun pins s σ H Q I q => h.run pins s σ H Q I (i σ H Q q)⟩
theorem PSs.imp {X : Cx} {e : List Stmt} {t t' : TS} (h : PSs X e t) (i : ∀ σ H Q, t' Q σ H → t Q σ H) : PSs X e t' := ⟨fun pins s σ H Q I q => h.run pins s σ H Q I (i σ H Q q)⟩
theorem PA.imp {X : Cx} {e : List Expr} {t t' : TA} (h : PA X e t) (i : ∀ σ H Q, t' σ H Q → t σ H Q) : PA X e t' := ⟨fun pos pins s σ H Q I q => h.run pos pins s σ H Q I (i σ H Q q)⟩
theorem PE.no {X : Cx} {e : Expr} {t : TE} (i : ∀ σ H Q, ¬ t σ H Q) : PE X e t := ⟨fun pins s σ H Q I q => (i σ H Q q).elim⟩
theorem PT.no {X : Cx} {e : Expr} {t : TT} (i : ∀ σ H Q, ¬ t σ H Q) : PT X e t := ⟨fun pins s σ H Q I q => (i σ H Q q).elim⟩
theorem PS.no {X : Cx} {e : Stmt} {t : TS} (i : ∀ σ H Q, ¬ t Q σ H) : PS X e t := ⟨fun pins s σ H Q I q => (i σ H Q q).elim⟩

/-! ### a call's promise -/
def ArgR (K : PySem.W.Frag) (Z : Addr → Prop) (H : Hp) (v : V) (s : Sl) : Prop := match s.t with
  | .fz => Rp K Z H v s.d
  | .own => ∃ a, v = .ref a ∧ ¬ Z a ∧ At K Z H a s.d
  | .lent => ∃ a, v = .ref a ∧ ¬ Z a ∧ At K Z H a s.d
  | .lf => False
def ArgsR (K : PySem.W.Frag) (Z : Addr → Prop) (H : Hp) : List V → List Sl → Prop := Paired (ArgR K Z H)
/-- the addresses that the callee may change: lent ones, own ones -/
def MA (vs : List V) (as : List Sl) (a : Addr) : Prop := ∃ (i : Nat) (s : Sl), as[i]? = some s ∧ isMutT s.t = true ∧ vs[i]? = some (V.ref a)
def OA (vs : List V) (as : List Sl) (a : Addr) : Prop := ∃ (i : Nat) (s : Sl), as[i]? = some s ∧ isOwnT s.t = true ∧ vs[i]? = some (V.ref a)
def ApA (vs : List V) (as : List Sl) : Prop := ∀ (i j : Nat) (s u : Sl) (a : Addr), as[i]? = some s → as[j]? = some u → isMutT s.t = true → isMutT u.t = true → vs[i]? = some (V.ref a) → vs[j]? = some (V.ref a) → i = j
/-- the lent ones behind the call -/
def BackR (K : PySem.W.Frag) (Z : Addr → Prop) (H : Hp) : List V → List Sl → List Sl → Prop
  | [], [], [] => True
  | v :: vs, s :: ss, bs => match s.t with
    | .lent => (match bs with
      | b :: bs => (match b.t with
        | .lent => (∃ a, v = .ref a ∧ ¬ Z a ∧ At K Z H a b.d)
        | .lf => Rp K Z H v b.d
        | _ => False) ∧ BackR K Z H vs ss bs
      | [] => False)
    | _ => BackR K Z H vs ss bs
  | _, _, _ => False
def spC (K : PySem.W.Frag) (call : Str → List Sl → CR) (f : Str) (n : Nat) : Sp := fun vs H Q _ => vs.length = n ∧ ∃ as Z, (∀ a, Z a → H a ≠ none) ∧ ArgsR K Z H vs as ∧ ApA vs as ∧ ∃ d fr back, call f as = .ok d fr back ∧
  ∀ v H' Z', (∀ a o, H a = some o → ¬ MA vs as a → H' a = some o) → (∀ a, H' a = none → H a = none) → (∀ a, Z a → Z' a) → (∀ a, Z' a → Z a ∨ MA vs as a ∨ H a = none) → (∀ a, Z' a → H' a ≠ none) →
    BackR K Z' H' vs as back → (if fr = true then ∃ a, v = .ref a ∧ (OA vs as a ∨ H a = none) ∧ ¬ Z' a ∧ (∀ (i : Nat) (s : Sl), as[i]? = some s → s.t = .lent → vs[i]? ≠ some (V.ref a)) ∧ At K Z' H' a d else Rp K Z' H' v d) → Q v H'

/-! ### the context -/
structure CtxOk (X : Cx) (C : Ctx) : Prop where
  N : C.N = X.N
  sc : C.sc = X.env.scope
  nd : X.N.Nodup
  calm : X.calm = true
  hu : X.A.units + 100 < cLine
  po : PassesOwn (model X.prog X.w) X.A X.env X.xe
  glo : ∀ x d, C.glo x = some d → ∃ u v, X.mg x = some u ∧ RelV v u ∧ ∀ Z H, Rp X.K Z H v d
  blt : ∀ x, C.blt x = true → X.mg x = none
  gcd : C.gcd = true → X.mg "gcd" = some (.builtin "math.gcd")
  own : ∀ x, C.own x = true → X.fn x = true
  call : ∀ f ms, C.fns f = some ms → ∃ fa fd ps k, X.mg f = some (.ref fa) ∧ PySem.W.keepIn X.K (.ref fa) = true ∧ Binds X.K fd ps [] ∧ Room k X.A ∧ (∀ as d fr back, C.call f as = .ok d fr back → as.length = ps.length) ∧ FnOk X.prog X.w X.K X.mg X.base CX0 k fa fd ps (spC X.K C.call f ps.length)

/-! ### slots -/
mutual
theorem Rp.mono {K : PySem.W.Frag} {Z Z' : Addr → Prop} {H H' : Hp} (hz : ∀ a, Z a → Z' a) (hk : ∀ a u, Z a → Rd H a u → Rd H' a u) : ∀ {v : V} {d : PyData}, Rp K Z H v d → Rp K Z' H' v d
  | _, _, .non => .non
  | _, _, .bl b => .bl b
  | _, _, .int i => .int i
  | _, _, .str x => .str x
  | _, _, .lst z s r => .lst (hz _ z) (hk _ _ z s) (RpA.mono hz hk r)
  | _, _, .tup z s r => .tup (hz _ z) (hk _ _ z s) (RpA.mono hz hk r)
  | _, _, .tupK s r => .tupK s (RpA.mono hz hk r)
  | _, _, .lstK s r => .lstK s (RpA.mono hz hk r)
theorem RpA.mono {K : PySem.W.Frag} {Z Z' : Addr → Prop} {H H' : Hp} (hz : ∀ a, Z a → Z' a) (hk : ∀ a u, Z a → Rd H a u → Rd H' a u) : ∀ {vs : List V} {ds : List PyData}, RpA K Z H vs ds → RpA K Z' H' vs ds
  | _, _, .nil => .nil
  | _, _, .cons r t => .cons (Rp.mono hz hk r) (RpA.mono hz hk t)
end
theorem RpK.mono {K : PySem.W.Frag} {Z Z' : Addr → Prop} {H H' : Hp} (hz : ∀ a, Z a → Z' a) (hk : ∀ a u, Z a → Rd H a u → Rd H' a u) : ∀ {vs : List (Key × V)} {ds : List (PyData × PyData)}, RpK K Z H vs ds → RpK K Z' H' vs ds
  | _, _, .nil => .nil
  | _, _, .cons r t => .cons (Rp.mono hz hk r) (RpK.mono hz hk t)
theorem At.mono {K : PySem.W.Frag} {Z Z' : Addr → Prop} {H H' : Hp} {a : Addr} {d : PyData} (hz : ∀ a, Z a → Z' a) (hk : ∀ a u, Z a → Rd H a u → Rd H' a u) (ha : ∀ {o}, H a = some o → H' a = some o) (h : At K Z H a d) : At K Z' H' a d := by
  cases h with
  | lst h r => exact .lst (ha h) (r.mono hz hk)
  | dct h r => exact .dct (ha h) (r.mono hz hk)
theorem get_set {α : Type} {l : List α} {i : Nat} {x : α} (h : i < l.length) (j : Nat) : (l.set i x)[j]? = if i = j then some x else l[j]? := by
  rw [List.getElem?_set]
  by_cases e : i = j
  · subst e
    rw [if_pos rfl, if_pos rfl, if_pos h]
  · rw [if_neg e, if_neg e]
theorem some_lt {α : Type} {l : List α} {i : Nat} {x : α} (h : l[i]? = some x) : i < l.length := (List.getElem?_eq_some_iff.mp h).1
section
variable {K : PySem.W.Frag} {Z : Addr → Prop} {H : Hp} {ρ : PEnv} {σ : L2.St} {i : Nat}
theorem SlotR.mut {v : V} {s : Sl} (h : SlotR K Z H v s) (m : isMutT s.t = true) : ∃ a, v = .ref a ∧ ¬ Z a ∧ At K Z H a s.d := by
  unfold SlotR at h
  cases ht : s.t with
  | fz => rw [ht] at m; cases m
  | lf => rw [ht] at m; cases m
  | own => rw [ht] at h; exact h
  | lent => rw [ht] at h; exact h
theorem SlotR.of_mut {a : Addr} {s : Sl} (m : isMutT s.t = true) (n : ¬ Z a) (h : At K Z H a s.d) : SlotR K Z H (.ref a) s := by
  unfold SlotR
  cases ht : s.t with
  | fz => rw [ht] at m; cases m
  | lf => rw [ht] at m; cases m
  | own => exact ⟨a, rfl, n, h⟩
  | lent => exact ⟨a, rfl, n, h⟩
theorem SlotR.fz {v : V} {s : Sl} (h : SlotR K Z H v s) (m : isMutT s.t = false) : Rp K Z H v s.d := by
  unfold SlotR at h
  cases ht : s.t with
  | fz => rw [ht] at h; exact h
  | lf => rw [ht] at h; exact h
  | own => rw [ht] at m; cases m
  | lent => rw [ht] at m; cases m
theorem SlotR.of_fz {v : V} {s : Sl} (m : isMutT s.t = false) (h : Rp K Z H v s.d) : SlotR K Z H v s := by
  unfold SlotR
  cases ht : s.t with
  | fz => exact h
  | lf => exact h
  | own => rw [ht] at m; cases m
  | lent => rw [ht] at m; cases m
theorem fz_mut {t : Tg} : isFz t = !isMutT t := by cases t <;> rfl
theorem SlotR.pk {v : V} {s : Sl} (h : SlotR K Z H v s) : Pk K Z H v s.d := by
  cases m : isMutT s.t with
  | true => obtain ⟨a, rfl, _, q⟩ := h.mut m; exact .at_ q
  | false => exact .rp (h.fz m)
theorem own_mut {t : Tg} (h : isOwnT t = true) : isMutT t = true := by cases t <;> first | rfl | cases h
/-- a list that stands in a slot is frozen -/
theorem freeze (e : EnvR K Z ρ σ H) {t t' : Tg} {xs : List PyData} {v : V} (h : ρ[i]? = some (some ⟨t, .list xs⟩)) (m : isMutT t = true) (m' : isMutT t' = false) (hl : isLentT t' = true → isLentT t = true) (hv : σ[i]? = some (some v)) :
    ∃ Z', Ex ρ σ Z H (ρ.set i (some ⟨t', .list xs⟩)) σ Z' H ∧ EnvR K Z' (ρ.set i (some ⟨t', .list xs⟩)) σ H ∧ Rp K Z' H v (.list xs) := by
  have hi := some_lt h
  obtain ⟨w, hw, sr⟩ := e.sl i _ h
  rw [hv] at hw
  cases hw
  obtain ⟨a, rfl, nz, ha⟩ := sr.mut m
  have gs := get_set (x := some (⟨t', .list xs⟩ : Sl)) hi
  have Ma : Mu ρ σ a := ⟨i, _, h, m, hv⟩
  have noMu : ∀ b, Mu (ρ.set i (some ⟨t', .list xs⟩)) σ b → Mu ρ σ b ∧ b ≠ a := fun b ⟨j, s, h1, h2, h3⟩ => by
    rw [gs] at h1
    by_cases q : i = j
    · rw [if_pos q] at h1; cases h1; rw [m'] at h2; cases h2
    · rw [if_neg q] at h1
      refine ⟨⟨j, s, h1, h2, h3⟩, ?_⟩
      rintro rfl
      exact q (e.ap i j _ s b h h1 (by rw [fz_mut, m]; rfl) (by rw [fz_mut, h2]; rfl) hv h3)
  have ex : Ex ρ σ Z H (ρ.set i (some ⟨t', .list xs⟩)) σ (fun b => Z b ∨ b = a) H :=
    { keep := fun _ _ h _ => h
      dom := fun _ h => h
      mg := fun b hb => .inl (noMu b hb).1
      og := fun b ⟨j, s, h1, h2, h3⟩ => by
        rw [gs] at h1
        by_cases q : i = j
        · rw [if_pos q] at h1; cases h1; rw [own_mut h2] at m'; cases m'
        · rw [if_neg q] at h1
          exact .inl ⟨j, s, h1, h2, h3⟩
      lt := fun j b ⟨s, h1, h2, h3⟩ => by
        rw [gs] at h1
        by_cases q : i = j
        · subst q
          rw [if_pos rfl] at h1; cases h1
          exact ⟨_, h, hl h2, h3⟩
        · rw [if_neg q] at h1
          exact ⟨s, h1, h2, h3⟩
      zm := fun b h => .inl h
      zg := fun b h => h.elim .inl fun q => .inr (.inl (q ▸ Ma)) }
  refine ⟨_, ex, ⟨fun b hb => ?_, by rw [List.length_set]; exact e.len, fun j s h1 => ?_, fun j k s u b h1 h2 f1 f2 => ?_⟩, ?_⟩
  · rcases hb with hb | rfl
    · exact e.zt b hb
    · exact ha.there
  · rw [gs] at h1
    by_cases q : i = j
    · subst q
      rw [if_pos rfl] at h1; cases h1
      refine ⟨_, hv, .of_fz m' ?_⟩
      cases ha with
      | lst h r => exact .lst (.inr rfl) (.inl h) (r.mono (fun _ h => .inl h) fun _ _ _ h => h)
    · rw [if_neg q] at h1
      obtain ⟨w, hw, sr⟩ := e.sl j s h1
      refine ⟨w, hw, ?_⟩
      cases ms : isMutT s.t with
      | true =>
        obtain ⟨b, rfl, nb, hb⟩ := sr.mut ms
        refine .of_mut ms (fun z => z.elim nb fun eb => ?_) (hb.mono (fun _ h => .inl h) (fun _ _ _ h => h) id)
        subst eb
        exact q (e.ap i j _ s b h h1 (by rw [fz_mut, m]; rfl) (by rw [fz_mut, ms]; rfl) hv hw)
      | false => exact .of_fz ms ((sr.fz ms).mono (fun _ h => .inl h) fun _ _ _ h => h)
  · have back : ∀ (j : Nat) (s : Sl), (ρ.set i (some ⟨t', .list xs⟩))[j]? = some (some s) → isFz s.t = false → ρ[j]? = some (some s) := fun j s h1 f1 => by
      rw [gs] at h1
      by_cases q : i = j
      · rw [if_pos q] at h1; cases h1; rw [fz_mut, m'] at f1; cases f1
      · rw [if_neg q] at h1; exact h1
    exact e.ap j k s u b (back j s h1 f1) (back k u h2 f2) f1 f2
  · cases ha with
    | lst h r => exact .lst (.inr rfl) (.inl h) (r.mono (fun _ h => .inl h) fun _ _ _ h => h)
end

/-! ### names -/
theorem ixN_ok {N : List Str} {x : Str} {i : Nat} (h : TW.ixN N x = some i) : N[i]? = some x := by
  unfold TW.ixN at h
  obtain ⟨hi, h1, _⟩ := List.findIdx?_eq_some_iff_getElem.mp h
  rw [List.getElem?_eq_getElem hi]
  exact congrArg some (of_decide_eq_true h1)
theorem okNm_ok {x : Str} (h : okNm x = true) : (x == ("__debug__" : Str)) = false ∧ (x == ("__classdict__" : Str)) = false ∧ x ≠ "__name__" := by
  unfold okNm at h
  rw [Bool.and_eq_true, Bool.and_eq_true] at h
  exact ⟨of_decide_eq_true h.1.1, of_decide_eq_true h.1.2, of_decide_eq_true h.2⟩
theorem isLoc_ok {sc : Scope} {x : Str} (h : isLoc sc x = true) : Vis sc x := by
  unfold isLoc at h
  cases e : sc.names.lookup x with
  | none => rw [e] at h; cases h
  | some k =>
    rw [e] at h
    cases k with
    | «local» => exact .inl e
    | cell => exact .inr (.inl e)
    | free => exact .inr (.inr e)
    | globalExplicit => cases h
    | globalImplicit => cases h
theorem isGlo_ok {sc : Scope} {x : Str} (h : isGlo sc x = true) : sc.names.lookup x = some .globalImplicit := by
  unfold isGlo at h
  cases e : sc.names.lookup x with
  | none => rw [e] at h; cases h
  | some k =>
    rw [e] at h
    cases k with
    | globalImplicit => rfl
    | _ => cases h
section
variable {X : Cx} {C : Ctx}
theorem slotOf_ok (c : CtxOk X C) {x : Str} {i : Nat} (h : slotOf C x = some i) : X.N[i]? = some x ∧ Vis X.env.scope x ∧ (x == ("__debug__" : Str)) = false ∧ (x == ("__classdict__" : Str)) = false := by
  unfold slotOf at h
  split at h
  · rename_i q
    rw [Bool.and_eq_true] at q
    obtain ⟨a, b, _⟩ := okNm_ok q.2
    exact ⟨by rw [← c.N]; exact ixN_ok h, by rw [← c.sc]; exact isLoc_ok q.1, a, b⟩
  · cases h
theorem pe_slot (c : CtxOk X C) {x : Str} {p : Pos} {i : Nat} (h : slotOf C x = some i) : PE X (.Name x p) (tVar i) :=
  let ⟨a, b, d, e⟩ := slotOf_ok c h
  pe_var a b d e
theorem pe_const (c : CtxOk X C) {x : Str} {p : Pos} {d : PyData} (h : (isGlo C.sc x && okNm x) = true) (e : C.glo x = some d) : ∃ v, PE X (.Name x p) (tC v) ∧ ∀ Z H, Rp X.K Z H v d := by
  rw [Bool.and_eq_true] at h
  obtain ⟨u, v, h1, h2, h3⟩ := c.glo x d e
  obtain ⟨a, _, _⟩ := okNm_ok h.2
  exact ⟨v, pe_glob (show X.env.scope.names.lookup x = some .globalImplicit by rw [← c.sc]; exact isGlo_ok h.1) h1 h2 a, h3⟩
theorem glOf (c : CtxOk X C) {x : Str} (h : isBlt C x = true) : Gl X x ∧ X.mg x = none ∧ x ≠ "__name__" ∧ (x == ("__debug__" : Str)) = false := by
  unfold isBlt at h
  rw [Bool.and_eq_true, Bool.and_eq_true] at h
  obtain ⟨a, _, b⟩ := okNm_ok h.1.2
  exact ⟨show X.env.scope.names.lookup x = some .globalImplicit by rw [← c.sc]; exact isGlo_ok h.1.1, c.blt x h.2, b, a⟩
/-- a name read to be kept -/
theorem rdName_ok (c : CtxOk X C) (x : Str) (p : Pos) : PE X (.Name x p) (tEv X.K (rdName C x)) := by
  cases hs : slotOf C x with
  | some i =>
    refine PE.imp (pe_slot c hs) fun σ H Q ⟨ρ, Z, e, d, ρ', hm, q⟩ => ?_
    unfold rdName at hm
    rw [hs] at hm
    simp only at hm
    split at hm
    · rename_i d0 h0
      cases hm
      obtain ⟨v, h1, h2⟩ := e.sl i _ h0
      exact ⟨v, h1, q v H Z .refl e (.fz (SlotR.fz h2 rfl))⟩
    · rename_i d0 h0
      cases hm
      obtain ⟨v, h1, h2⟩ := e.sl i _ h0
      exact ⟨v, h1, q v H Z .refl e (.fz (SlotR.fz h2 rfl))⟩
    · rename_i xs h0
      cases hm
      obtain ⟨v, h1, h2⟩ := e.sl i _ h0
      obtain ⟨Z', ex, e', r⟩ := freeze e (t' := .fz) h0 rfl rfl (fun z => nomatch z) h1
      exact ⟨v, h1, q v H Z' ex e' (.fz r)⟩
    · rename_i xs h0
      cases hm
      obtain ⟨v, h1, h2⟩ := e.sl i _ h0
      obtain ⟨Z', ex, e', r⟩ := freeze e (t' := .lf) h0 rfl rfl (fun _ => rfl) h1
      exact ⟨v, h1, q v H Z' ex e' (.fz r)⟩
    · cases hm
  | none =>
    by_cases hg : (isGlo C.sc x && okNm x) = true
    · cases hd : C.glo x with
      | some d =>
        obtain ⟨v, hp, hr⟩ := pe_const (p := p) c hg hd
        refine PE.imp hp fun σ H Q ⟨ρ, Z, e, d', ρ', hm, q⟩ => ?_
        unfold rdName at hm
        rw [hs] at hm
        simp only [hg, hd, if_true] at hm
        cases hm
        exact q v H Z .refl e (.fz (hr Z H))
      | none =>
        refine PE.no fun σ H Q ⟨ρ, Z, e, d', ρ', hm, q⟩ => ?_
        unfold rdName at hm
        rw [hs] at hm
        simp only [hg, hd, if_true] at hm
        cases hm
    · refine PE.no fun σ H Q ⟨ρ, Z, e, d', ρ', hm, q⟩ => ?_
      unfold rdName at hm
      rw [hs] at hm
      simp only [if_neg hg] at hm
      cases hm
/-- a name's reading: its value does not hang on the heap; what it stands for is told for each heap -/
theorem pkName_ok (c : CtxOk X C) (x : Str) (p : Pos) : (∀ ρ, pkName C x ρ = none) ∨ ∃ tv : TE, PE X (.Name x p) tv ∧
    ∀ ρ Z σ H d (Q : VK), EnvR X.K Z ρ σ H → pkName C x ρ = some d →
      (∀ v, (∀ ρ' Z' H' d', EnvR X.K Z' ρ' σ H' → pkName C x ρ' = some d' → Pk X.K Z' H' v d') → Q v H) → tv σ H Q := by
  cases hs : slotOf C x with
  | some i =>
    refine .inr ⟨_, pe_slot c hs, fun ρ Z σ H d Q e hd q => ?_⟩
    have key : ∀ ρ' Z' H' d', EnvR X.K Z' ρ' σ H' → pkName C x ρ' = some d' → ∃ v, σ[i]? = some (some v) ∧ Pk X.K Z' H' v d' := fun ρ' Z' H' d' e' h' => by
      unfold pkName at h'
      rw [hs] at h'
      simp only at h'
      split at h'
      · rename_i s h0
        cases h'
        obtain ⟨v, h1, h2⟩ := e'.sl i _ h0
        exact ⟨v, h1, h2.pk⟩
      · cases h'
    obtain ⟨v, h1, _⟩ := key ρ Z H d e hd
    refine ⟨v, h1, q v fun ρ' Z' H' d' e' h' => ?_⟩
    obtain ⟨w, h2, h3⟩ := key ρ' Z' H' d' e' h'
    rw [h1] at h2
    cases h2
    exact h3
  | none =>
    by_cases hg : (isGlo C.sc x && okNm x) = true
    · cases hd : C.glo x with
      | some d =>
        obtain ⟨v, hp, hr⟩ := pe_const (p := p) c hg hd
        refine .inr ⟨_, hp, fun ρ Z σ H d' Q e _ q => q v fun ρ' Z' H' d'' e' h' => ?_⟩
        unfold pkName at h'
        rw [hs] at h'
        simp only [hg, hd, if_true] at h'
        cases h'
        exact .rp (hr _ _)
      | none =>
        refine .inl fun ρ => ?_
        unfold pkName
        rw [hs]
        simp only [hg, hd, if_true]
    · refine .inl fun ρ => ?_
      unfold pkName
      rw [hs]
      simp only [if_neg hg]
end

/-! ### bind -/
theorem R.bind_ok {α β : Type} {m : R α} {f : α → PEnv → R β} {b : β} {ρ' : PEnv} (h : m.bind f = .ok b ρ') : ∃ a ρ1, m = .ok a ρ1 ∧ f a ρ1 = .ok b ρ' := by
  cases m with
  | ok a ρ1 => exact ⟨a, ρ1, rfl, h⟩
  | ex e ρ1 => cases h
  | no => cases h
theorem ofO_ok {α : Type} {o : Option α} {ρ ρ' : PEnv} {a : α} (h : ofO o ρ = .ok a ρ') : o = some a ∧ ρ' = ρ := by
  cases o with
  | none => cases h
  | some x => cases h; exact ⟨rfl, rfl⟩
theorem Val.ext {K : PySem.W.Frag} {H0 H1 H2 : Hp} {ρ1 ρ2 : PEnv} {σ σ2 : L2.St} {Z1 Z2 : Addr → Prop} {v : V} {r : VR} (h : Val K H0 (Mu ρ1 σ) Z1 H1 v r) (e : EnvR K Z1 ρ1 σ H1) (x : Ex ρ1 σ Z1 H1 ρ2 σ2 Z2 H2) : Val K H0 (Mu ρ2 σ2) Z2 H2 v r := by
  unfold Val at h ⊢
  by_cases f : r.2 = true
  · rw [if_pos f] at h ⊢
    obtain ⟨a, ev, h0, nz, nm, ha⟩ := h
    have ht : H1 a ≠ none := ha.there
    refine ⟨a, ev, h0, fun z => ?_, fun m => ?_, ha.ext x e.zm nm⟩
    · rcases x.zg a z with z | z | z
      · exact nz z
      · exact nm z
      · exact ht z
    · rcases x.mg a m with z | z
      · exact nm z
      · exact ht z
  · rw [if_neg f] at h ⊢
    exact h.ext x e.zm
theorem EnvR.mz {K : PySem.W.Frag} {ρ : PEnv} {σ : L2.St} {Z Z' : Addr → Prop} {H : Hp} (e : EnvR K Z ρ σ H) (h : ∀ a, Z a → Z' a) (ht : ∀ a, Z' a → H a ≠ none) (hm : ∀ a, Z' a → ¬ Mu ρ σ a) : EnvR K Z' ρ σ H where
  zt := ht
  len := e.len
  ap := e.ap
  sl := fun i s hs => by
    obtain ⟨v, h1, h2⟩ := e.sl i s hs
    refine ⟨v, h1, ?_⟩
    cases ms : isMutT s.t with
    | true =>
      obtain ⟨a, rfl, nz, ha⟩ := h2.mut ms
      exact .of_mut ms (fun z => hm a z ⟨i, s, hs, ms, h1⟩) (ha.mono h (fun _ _ _ q => q) id)
    | false => exact .of_fz ms ((h2.fz ms).mono h fun _ _ _ q => q)
/-- a value that was made is kept from here on: it is frozen -/
theorem Val.keep {K : PySem.W.Frag} {ρ0 ρ : PEnv} {σ0 σ : L2.St} {Z0 Z : Addr → Prop} {H0 H1 H : Hp} {v : V} {d : PyData} {f : Bool} (h : Val K H1 (Mu ρ σ) Z H v (d, f)) (hd : isDc d = false) (e : EnvR K Z ρ σ H) (x : Ex ρ0 σ0 Z0 H0 ρ σ Z H) (h01 : ∀ a, H1 a = none → H0 a = none) :
    ∃ Z', Ex ρ0 σ0 Z0 H0 ρ σ Z' H ∧ EnvR K Z' ρ σ H ∧ Rp K Z' H v d := by
  unfold Val at h
  by_cases hf : f = true
  · rw [if_pos hf] at h
    obtain ⟨a, rfl, h0, nz, nm, ha⟩ := h
    refine ⟨fun b => Z b ∨ b = a, { x with zm := fun b z => .inl (x.zm b z), zg := fun b z => ?_ }, e.mz (fun _ z => .inl z) (fun b z => ?_) (fun b z => ?_), ?_⟩
    · rcases z with z | rfl
      · exact x.zg b z
      · exact .inr (.inr (h01 _ h0))
    · rcases z with z | rfl
      · exact e.zt b z
      · exact ha.there
    · rcases z with z | rfl
      · exact e.zm b z
      · exact nm
    · cases ha with
      | lst h r => exact .lst (.inr rfl) (.inl h) (r.mono (fun _ z => .inl z) fun _ _ _ q => q)
      | dct h r => cases hd
  · rw [if_neg hf] at h
    exact ⟨Z, x, e, h⟩
theorem Rp.noDc {K : PySem.W.Frag} {Z : Addr → Prop} {H : Hp} {v : V} {d : PyData} (h : Rp K Z H v d) : isDc d = false := by cases h <;> rfl

/-! ### operands -/
structure SoundE (X : Cx) (C : Ctx) (E : Ev) : Prop where
  ev : ∀ e, PE X e (tEv X.K (E.ev e))
  ts : ∀ e, PT X e (tTs X.K (E.ts e))
  st : ∀ s, PS X s (tSt X.K (E.st s))
  lc : ∀ el gens scope lp y py spos i, X.N[i]? = some y → X.env.scope.names.lookup y = some .local → swapsWith (.ListComp el gens scope lp) (some (.Name y py)) spos.line X.env = pure true →
    PS X (.Assign [.Name y py] (.ListComp el gens scope lp) spos) (tAsg (tEv X.K (E.ev (.ListComp el gens scope lp))) (gName i))
def tPk (K : PySem.W.Frag) (m : PEnv → R PyData) : TE := fun σ H Q => ∃ ρ Z, EnvR K Z ρ σ H ∧ ∃ d ρ', m ρ = .ok d ρ' ∧
  ∀ v H' Z', Ex ρ σ Z H ρ' σ Z' H' → EnvR K Z' ρ' σ H' → Pk K Z' H' v d → Q v H'
def tKp (K : PySem.W.Frag) (m : PEnv → R PyData) : TE := fun σ H Q => ∃ ρ Z, EnvR K Z ρ σ H ∧ ∃ d ρ', m ρ = .ok d ρ' ∧
  ∀ v H' Z', Ex ρ σ Z H ρ' σ Z' H' → EnvR K Z' ρ' σ H' → Rp K Z' H' v d → Q v H'
section
variable {X : Cx} {C : Ctx} {E : Ev}
theorem pkE_ok (c : CtxOk X C) (S : SoundE X C E) (e : Expr) : PE X e (tPk X.K (pkE C E e)) := by
  have gen : (∀ ρ, pkE C E e ρ = (E.ev e ρ).bind fun v ρ' => .ok v.1 ρ') → PE X e (tPk X.K (pkE C E e)) := fun he =>
    PE.imp (S.ev e) fun σ H Q ⟨ρ, Z, en, d, ρ', hm, q⟩ => by
      rw [he] at hm
      obtain ⟨v, ρ1, h1, h2⟩ := R.bind_ok hm
      cases h2
      exact ⟨ρ, Z, en, v, _, h1, fun u H' Z' ex en' hv => q u H' Z' ex en' hv.pk⟩
  cases e with
  | Name x p =>
    rcases pkName_ok c x p with h | ⟨tv, hp, h⟩
    · refine PE.no fun σ H Q ⟨ρ, Z, en, d, ρ', hm, q⟩ => ?_
      obtain ⟨h1, _⟩ := ofO_ok (show ofO (pkName C x ρ) ρ = _ from hm)
      rw [h ρ] at h1
      cases h1
    · refine PE.imp hp fun σ H Q ⟨ρ, Z, en, d, ρ', hm, q⟩ => ?_
      obtain ⟨h1, rfl⟩ := ofO_ok (show ofO (pkName C x ρ) ρ = _ from hm)
      exact h ρ' Z σ H d Q en h1 fun v hv => q v H Z .refl en (hv ρ' Z H d en h1)
  | _ => exact gen fun ρ => rfl
theorem kpE_ok (S : SoundE X C E) (e : Expr) : PE X e (tKp X.K (kpE E e)) :=
  PE.imp (S.ev e) fun σ H Q ⟨ρ, Z, en, d, ρ', hm, q⟩ => by
    obtain ⟨⟨v, f⟩, ρ1, h1, h2⟩ := R.bind_ok hm
    refine ⟨ρ, Z, en, (v, f), ρ1, h1, fun u H' Z' ex en' hv => ?_⟩
    have hd : isDc v = false ∧ v = d ∧ ρ1 = ρ' := by
      cases v with
      | dict _ => cases h2
      | _ => cases h2; exact ⟨rfl, rfl, rfl⟩
    obtain ⟨hd, rfl, rfl⟩ := hd
    obtain ⟨Z2, ex2, en2, r⟩ := hv.keep hd en' ex fun _ h => h
    exact q u H' Z2 ex2 en2 r
/-- two operands -/
theorem pk2_ok (c : CtxOk X C) (S : SoundE X C E) (a b : Expr) : ∃ ta tb : TE, PE X a ta ∧ PE X b tb ∧
    ∀ ρ Z σ H p ρ' (Q : V → V → Hp → Prop), EnvR X.K Z ρ σ H → pk2 C E a b ρ = .ok p ρ' →
      (∀ x y H' Z', Ex ρ σ Z H ρ' σ Z' H' → EnvR X.K Z' ρ' σ H' → Pk X.K Z' H' x p.1 → Pk X.K Z' H' y p.2 → Q x y H') → ta σ H fun x H1 => tb σ H1 fun y H2 => Q x y H2 := by
  have gen : (∀ ρ, pk2 C E a b ρ = (E.ev a ρ).bind fun x ρ1 => (pkE C E b ρ1).bind fun y ρ2 => .ok (x.1, y) ρ2) → ∃ ta tb : TE, PE X a ta ∧ PE X b tb ∧
    ∀ ρ Z σ H p ρ' (Q : V → V → Hp → Prop), EnvR X.K Z ρ σ H → pk2 C E a b ρ = .ok p ρ' →
      (∀ x y H' Z', Ex ρ σ Z H ρ' σ Z' H' → EnvR X.K Z' ρ' σ H' → Pk X.K Z' H' x p.1 → Pk X.K Z' H' y p.2 → Q x y H') → ta σ H fun x H1 => tb σ H1 fun y H2 => Q x y H2 := fun he => by
    refine ⟨_, _, S.ev a, pkE_ok c S b, fun ρ Z σ H p ρ' Q en hm q => ?_⟩
    rw [he] at hm
    obtain ⟨x, ρ1, h1, h2⟩ := R.bind_ok hm
    obtain ⟨y, ρ2, h3, h4⟩ := R.bind_ok h2
    cases h4
    refine ⟨ρ, Z, en, x, ρ1, h1, fun v H1 Z1 ex1 en1 hv => ⟨ρ1, Z1, en1, y, _, h3, fun u H2 Z2 ex2 en2 hu => ?_⟩⟩
    exact q v u H2 Z2 (ex1.trans ex2) en2 (hv.ext en1 ex2).pk hu
  cases a with
  | Name x p =>
    rcases pkName_ok c x p with h | ⟨tv, hp, h⟩
    · refine ⟨fun _ _ _ => False, _, PE.no fun _ _ _ => id, pkE_ok c S b, fun ρ Z σ H p ρ' Q en hm q => ?_⟩
      obtain ⟨w, ρ0, h0, h1⟩ := R.bind_ok (show (ofO (pkName C x ρ) ρ).bind _ = _ from hm)
      obtain ⟨h5, _⟩ := ofO_ok h0
      rw [h ρ] at h5
      cases h5
    · refine ⟨_, _, hp, pkE_ok c S b, fun ρ Z σ H p ρ' Q en hm q => ?_⟩
      obtain ⟨w, ρ0, h0, h0'⟩ := R.bind_ok (show (ofO (pkName C x ρ) ρ).bind _ = _ from hm)
      obtain ⟨h00, rfl⟩ := ofO_ok h0
      obtain ⟨y, ρ1, h1, h2⟩ := R.bind_ok h0'
      obtain ⟨z, ρ2, h3, h4⟩ := R.bind_ok h2
      obtain ⟨h5, rfl⟩ := ofO_ok h3
      cases h4
      exact h _ Z σ H w _ en h00 fun v hv => ⟨_, Z, en, y, _, h1, fun u H2 Z2 ex2 en2 hu => q v u H2 Z2 ex2 en2 (hv _ Z2 H2 z en2 h5) hu⟩
  | _ => exact gen fun ρ => rfl
end
end TW

set_option Elab.async false
set_option maxRecDepth 100000
set_option maxHeartbeats 1000000
/-! Tw6: arguments and calls. -/
namespace TW
open PySem PySem.Spec PyProof.Rows L2

theorem star_cons {e : Expr} {es : List Expr} {env : Env} (h : starred e = false) : starEach (e :: es) env = (false, eval e env) :: starEach es env := by
  cases e <;> first | rfl | cases h
section
variable {X : Cx} {C : Ctx} {E : Ev}
theorem items_ok (S : SoundE X C E) : ∀ es : List Expr, ∃ t, PA X es t ∧ ∀ ρ Z σ H ds ρ' (Q : List V → Hp → Prop), EnvR X.K Z ρ σ H → items E es ρ = .ok ds ρ' →
    (∀ vs H' Z', Ex ρ σ Z H ρ' σ Z' H' → EnvR X.K Z' ρ' σ H' → RpA X.K Z' H' vs ds → Q vs H') → t σ H Q
  | [] => ⟨tNil, pa_nil, fun ρ Z σ H ds ρ' Q e h q => by cases h; exact q [] H Z .refl e .nil⟩
  | e :: es => by
    cases hs : starred e with
    | true => exact ⟨fun _ _ _ => False, ⟨fun _ _ _ _ _ _ _ z => z.elim⟩, fun ρ Z σ H ds ρ' Q en h q => by unfold items at h; rw [hs, if_pos rfl] at h; cases h⟩
    | false =>
      obtain ⟨t, ht, hq⟩ := items_ok S es
      refine ⟨_, pa_cons (kpE_ok S e) ht (star_cons hs), fun ρ Z σ H ds ρ' Q en h q => ?_⟩
      unfold items at h
      rw [hs, if_neg Bool.false_ne_true] at h
      obtain ⟨d, ρ1, h1, h2⟩ := R.bind_ok h
      obtain ⟨dr, ρ2, h3, h4⟩ := R.bind_ok h2
      cases h4
      refine ⟨ρ, Z, en, d, ρ1, h1, fun v H1 Z1 ex1 en1 r1 => hq ρ1 Z1 σ H1 dr _ _ en1 h3 fun vs H2 Z2 ex2 en2 r2 => ?_⟩
      exact q _ H2 Z2 (ex1.trans ex2) en2 (.cons (r1.ext ex2 en1.zm) r2)

/-! ### the first pass -/
inductive ArgV (K : PySem.W.Frag) (C : Ctx) (σ : L2.St) (M Z : Addr → Prop) (H0 H : Hp) : List Expr → List V → List (Option VR) → List Addr → Prop
  | nil : ArgV K C σ M Z H0 H [] [] [] []
  | nm {e : Expr} {x : Str} {i : Nat} {u : V} {es us vs fs} : lnOf C e = some (x, i) → σ[i]? = some (some u) → ArgV K C σ M Z H0 H es us vs fs → ArgV K C σ M Z H0 H (e :: es) (u :: us) (none :: vs) fs
  | fr {e : Expr} {a : Addr} {d : PyData} {es us vs fs} : H0 a = none → ¬ Z a → ¬ M a → At K Z H a d → a ∉ fs → ArgV K C σ M Z H0 H es us vs fs → ArgV K C σ M Z H0 H (e :: es) (.ref a :: us) (some (d, true) :: vs) (a :: fs)
  | fz {e : Expr} {u : V} {d : PyData} {es us vs fs} : Rp K Z H u d → ArgV K C σ M Z H0 H es us vs fs → ArgV K C σ M Z H0 H (e :: es) (u :: us) (some (d, false) :: vs) fs
theorem ArgV.new {K : PySem.W.Frag} {C : Ctx} {σ : L2.St} {M Z : Addr → Prop} {H0 H : Hp} {es us vs fs} (h : ArgV K C σ M Z H0 H es us vs fs) : ∀ a ∈ fs, H0 a = none := by
  induction h with
  | nil => exact fun _ h => nomatch h
  | nm _ _ _ ih => exact ih
  | fr h0 _ _ _ _ _ ih => exact fun a ha => (List.mem_cons.mp ha).elim (fun e => e ▸ h0) (ih a)
  | fz _ _ ih => exact ih
theorem ArgV.weak {K : PySem.W.Frag} {C : Ctx} {σ : L2.St} {M Z : Addr → Prop} {H0 H1 H : Hp} {es us vs fs} (h : ArgV K C σ M Z H1 H es us vs fs) (w : ∀ a, H1 a = none → H0 a = none) : ArgV K C σ M Z H0 H es us vs fs := by
  induction h with
  | nil => exact .nil
  | nm a b _ ih => exact .nm a b ih
  | fr h0 a b c d _ ih => exact .fr (w _ h0) a b c d ih
  | fz a _ ih => exact .fz a ih
theorem args1_ok (c : CtxOk X C) (S : SoundE X C E) : ∀ es : List Expr, ∃ t, PA X es t ∧ ∀ ρ Z σ H vs ρ' (Q : List V → Hp → Prop), EnvR X.K Z ρ σ H → args1 C E es ρ = .ok vs ρ' →
    (∀ us H' Z', Ex ρ σ Z H ρ' σ Z' H' → EnvR X.K Z' ρ' σ H' → (∃ fs, ArgV X.K C σ (Mu ρ' σ) Z' H H' es us vs fs) → Q us H') → t σ H Q
  | [] => ⟨tNil, pa_nil, fun ρ Z σ H ds ρ' Q e h q => by cases h; exact q [] H Z .refl e ⟨[], .nil⟩⟩
  | e :: es => by
    cases hs : starred e with
    | true => exact ⟨fun _ _ _ => False, ⟨fun _ _ _ _ _ _ _ z => z.elim⟩, fun ρ Z σ H ds ρ' Q en h q => by unfold args1 at h; rw [hs, if_pos rfl] at h; cases h⟩
    | false =>
      obtain ⟨t, ht, hq⟩ := args1_ok c S es
      cases hl : lnOf C e with
      | some xi =>
        obtain ⟨x, i⟩ := xi
        have he : ∃ p, e = .Name x p ∧ slotOf C x = some i := by
          cases e with
          | Name y p =>
            unfold lnOf at hl
            have hl : (slotOf C y).map (fun i => (y, i)) = some (x, i) := hl
            cases hy : slotOf C y with
            | none => rw [hy] at hl; cases hl
            | some j => rw [hy] at hl; cases hl; exact ⟨p, rfl, hy⟩
          | _ => cases hl
        obtain ⟨p, rfl, hx⟩ := he
        refine ⟨_, pa_cons (pe_slot c hx) ht (star_cons hs), fun ρ Z σ H vs ρ' Q en h q => ?_⟩
        unfold args1 at h
        rw [hs, if_neg Bool.false_ne_true, hl] at h
        simp only at h
        obtain ⟨w, ρ0, hw, hh⟩ := R.bind_ok h
        obtain ⟨hw1, e0⟩ := ofO_ok hw
        rw [e0] at hh
        obtain ⟨vr, ρ1, h1, h2⟩ := R.bind_ok hh
        cases h2
        unfold pkName at hw1
        rw [hx] at hw1
        simp only at hw1
        split at hw1
        · rename_i s hsl
          obtain ⟨v, hv, _⟩ := en.sl i _ hsl
          exact ⟨v, hv, hq _ Z σ H vr _ _ en h1 fun us H' Z' ex en' ⟨fs, ha⟩ => q _ H' Z' ex en' ⟨fs, .nm hl hv ha⟩⟩
        · cases hw1
      | none =>
        refine ⟨_, pa_cons (S.ev e) ht (star_cons hs), fun ρ Z σ H vs ρ' Q en h q => ?_⟩
        unfold args1 at h
        rw [hs, if_neg Bool.false_ne_true, hl] at h
        obtain ⟨⟨d, f⟩, ρ1, h1, h2⟩ := R.bind_ok h
        obtain ⟨vr, ρ2, h3, h4⟩ := R.bind_ok h2
        cases h4
        refine ⟨ρ, Z, en, (d, f), ρ1, h1, fun v H1 Z1 ex1 en1 hv => hq ρ1 Z1 σ H1 vr _ _ en1 h3 fun us H2 Z2 ex2 en2 ⟨fs, ha⟩ => ?_⟩
        have hv2 := hv.ext en1 ex2
        have aw := ha.weak (H0 := H) ex1.dom
        cases f with
        | true =>
          obtain ⟨a, rfl, h0, nz, nm, hat⟩ := hv2
          obtain ⟨a', ea, _, _, _, hat1⟩ := hv
          cases ea
          exact q _ H2 Z2 (ex1.trans ex2) en2 ⟨_, .fr h0 nz nm hat (fun z => hat1.there (ha.new a z)) aw⟩
        | false => exact q _ H2 Z2 (ex1.trans ex2) en2 ⟨_, .fz hv2 aw⟩
end

/-! ### the second pass -/
/-- what changes in ρ: slots emptied, frozen -/
def Sub (ρ1 ρ : PEnv) : Prop := ∀ (j : Nat) (s : Sl), ρ1[j]? = some (some s) → isMutT s.t = true → ρ[j]? = some (some s)
theorem Sub.mu {ρ1 ρ : PEnv} {σ : L2.St} (h : Sub ρ1 ρ) {a : Addr} (m : Mu ρ1 σ a) : Mu ρ σ a := let ⟨j, s, h1, h2, h3⟩ := m; ⟨j, s, h j s h1 h2, h2, h3⟩
theorem Sub.ow {ρ1 ρ : PEnv} {σ : L2.St} (h : Sub ρ1 ρ) {a : Addr} (m : Ow ρ1 σ a) : Ow ρ σ a := let ⟨j, s, h1, h2, h3⟩ := m; ⟨j, s, h j s h1 (own_mut h2), h2, h3⟩
inductive LendR (ρ : PEnv) (σ : L2.St) : List V → List Sl → List (Nat × Bool) → Prop
  | nil : LendR ρ σ [] [] []
  | skip {u : V} {s : Sl} {us as ls} : s.t ≠ .lent → LendR ρ σ us as ls → LendR ρ σ (u :: us) (s :: as) ls
  | lend {a : Addr} {d d' : PyData} {i : Nat} {o : Bool} {us as ls} : ρ[i]? = some (some ⟨if o = true then .own else .lent, d⟩) → σ[i]? = some (some (V.ref a)) → LendR ρ σ us as ls → LendR ρ σ (.ref a :: us) (⟨.lent, d'⟩ :: as) ((i, o) :: ls)
theorem LendR.sub {ρ1 ρ : PEnv} {σ : L2.St} {us as ls} (h : LendR ρ1 σ us as ls) (s : Sub ρ1 ρ) : LendR ρ σ us as ls := by
  induction h with
  | nil => exact .nil
  | skip a _ ih => exact .skip a ih
  | @lend a d d' i o us as ls h1 h2 _ ih => exact .lend (s i _ h1 (by cases o <;> rfl)) h2 ih
section
variable {K : PySem.W.Frag} {C : Ctx} {σ : L2.St} {H0 H : Hp}
theorem ArgV.chg {M M1 Z Z1 : Addr → Prop} {es us vs fs} (h : ArgV K C σ M Z H0 H es us vs fs) (hz : ∀ a, Z a → Z1 a) (hf : ∀ a ∈ fs, ¬ Z1 a) (hm : ∀ a, M1 a → M a) : ArgV K C σ M1 Z1 H0 H es us vs fs := by
  induction h with
  | nil => exact .nil
  | nm a b _ ih => exact .nm a b (ih hf)
  | fr h0 a b c d _ ih => exact .fr h0 (hf _ List.mem_cons_self) (fun z => b (hm _ z)) (c.mono hz (fun _ _ _ h => h) id) d (ih fun x hx => hf x (List.mem_cons_of_mem _ hx))
  | fz a _ ih => exact .fz (a.mono hz fun _ _ _ h => h) (ih hf)
theorem ArgV.fresh {M Z : Addr → Prop} {es us vs fs} (h : ArgV K C σ M Z H0 H es us vs fs) : ∀ a ∈ fs, ¬ Z a ∧ ¬ M a := by
  induction h with
  | nil => exact fun _ h => nomatch h
  | nm _ _ _ ih => exact ih
  | fr _ a b _ _ _ ih => exact fun x hx => (List.mem_cons.mp hx).elim (fun e => e ▸ ⟨a, b⟩) (ih x)
  | fz _ _ ih => exact ih
/-- a slot emptied -/
theorem EnvR.clear {Z : Addr → Prop} {ρ : PEnv} (e : EnvR K Z ρ σ H) (i : Nat) : EnvR K Z (ρ.set i none) σ H ∧ Sub (ρ.set i none) ρ ∧ (∀ j a, La (ρ.set i none) σ j a → La ρ σ j a) ∧ ∀ s, ρ[i]? = some (some s) → isMutT s.t = true → ∀ a, σ[i]? = some (some (V.ref a)) → ¬ Mu (ρ.set i none) σ a := by
  have back : ∀ (j : Nat) (s : Sl), (ρ.set i none)[j]? = some (some s) → ρ[j]? = some (some s) ∧ i ≠ j := fun j s h => by
    rw [List.getElem?_set] at h
    by_cases q : i = j
    · rw [if_pos q] at h; split at h <;> cases h
    · rw [if_neg q] at h; exact ⟨h, q⟩
  refine ⟨⟨e.zt, by rw [List.length_set]; exact e.len, fun j s h => e.sl j s (back j s h).1, fun j k s u a h1 h2 => e.ap j k s u a (back j s h1).1 (back k u h2).1⟩, fun j s h _ => (back j s h).1, fun j a ⟨s, h1, h2, h3⟩ => ⟨s, (back j s h1).1, h2, h3⟩, ?_⟩
  rintro s hs hm a ha ⟨j, u, h1, h2, h3⟩
  exact (back j u h1).2 (e.ap i j s u a hs (back j u h1).1 (by rw [fz_mut, hm]; rfl) (by rw [fz_mut, h2]; rfl) ha h3)
theorem MA_cons {v : V} {vs : List V} {s : Sl} {as : List Sl} {a : Addr} (h : MA (v :: vs) (s :: as) a) : (isMutT s.t = true ∧ v = .ref a) ∨ MA vs as a := by
  obtain ⟨i, u, h1, h2, h3⟩ := h
  cases i with
  | zero =>
    simp at h1 h3
    subst h1
    exact .inl ⟨h2, h3⟩
  | succ i => exact .inr ⟨i, u, by simpa using h1, h2, by simpa using h3⟩
theorem OA_cons {v : V} {vs : List V} {s : Sl} {as : List Sl} {a : Addr} (h : OA (v :: vs) (s :: as) a) : (isOwnT s.t = true ∧ v = .ref a) ∨ OA vs as a := by
  obtain ⟨i, u, h1, h2, h3⟩ := h
  cases i with
  | zero =>
    simp at h1 h3
    subst h1
    exact .inl ⟨h2, h3⟩
  | succ i => exact .inr ⟨i, u, by simpa using h1, h2, by simpa using h3⟩
theorem ApA_cons {v : V} {vs : List V} {s : Sl} {as : List Sl} (h : ApA vs as) (n : ∀ a, isMutT s.t = true → v = .ref a → ¬ MA vs as a) : ApA (v :: vs) (s :: as) := by
  intro i j s1 u a h1 h2 m1 m2 e1 e2
  cases i with
  | zero =>
    cases j with
    | zero => rfl
    | succ j =>
      simp at h1 e1
      subst h1
      exact (n a m1 e1 ⟨j, u, by simpa using h2, m2, by simpa using e2⟩).elim
  | succ i =>
    cases j with
    | zero =>
      simp at h2 e2
      subst h2
      exact (n a m2 e2 ⟨i, s1, by simpa using h1, m1, by simpa using e1⟩).elim
    | succ j => exact congrArg (· + 1) (h i j s1 u a (by simpa using h1) (by simpa using h2) m1 m2 (by simpa using e1) (by simpa using e2))
structure A2 (K : PySem.W.Frag) (σ : L2.St) (H : Hp) (ρ : PEnv) (Z : Addr → Prop) (us : List V) (fs : List Addr) (as : List Sl) (ls : List (Nat × Bool)) (ρ2 : PEnv) (Z2 : Addr → Prop) : Prop where
  env : EnvR K Z2 ρ2 σ H
  zm : ∀ a, Z a → Z2 a
  zg : ∀ a, Z2 a → Z a ∨ Mu ρ σ a ∨ a ∈ fs
  args : ArgsR K Z2 H us as
  ap : ApA us as
  ma : ∀ a, MA us as a → (Mu ρ σ a ∨ a ∈ fs) ∧ ¬ Z2 a ∧ ¬ Mu ρ2 σ a
  oa : ∀ a, OA us as a → a ∈ fs
  sub : Sub ρ2 ρ
  la : ∀ j a, La ρ2 σ j a → La ρ σ j a
  lend : LendR ρ σ us as ls
theorem ArgR.mono {Z Z' : Addr → Prop} {v : V} {s : Sl} (h : ArgR K Z H v s) (hz : ∀ a, Z a → Z' a) (n : ∀ a, isMutT s.t = true → v = .ref a → ¬ Z' a) : ArgR K Z' H v s := by
  unfold ArgR at h ⊢
  cases ht : s.t with
  | fz => rw [ht] at h; exact Rp.mono hz (fun _ _ _ h => h) h
  | own => rw [ht] at h; obtain ⟨a, e, _, q⟩ := h; exact ⟨a, e, n a (by rw [ht]; rfl) e, q.mono hz (fun _ _ _ h => h) id⟩
  | lent => rw [ht] at h; obtain ⟨a, e, _, q⟩ := h; exact ⟨a, e, n a (by rw [ht]; rfl) e, q.mono hz (fun _ _ _ h => h) id⟩
  | lf => rw [ht] at h; exact h
theorem args2_ok : ∀ (es : List Expr) (us : List V) (vs : List (Option VR)) (fs : List Addr) (ms : List Bool) (ρ : PEnv) (Z : Addr → Prop) (as : List Sl) (ls : List (Nat × Bool)) (ρ2 : PEnv), EnvR K Z ρ σ H → (∀ a ∈ fs, H a ≠ none) →
    ArgV K C σ (Mu ρ σ) Z H0 H es us vs fs → args2 C es vs ms ρ = .ok (as, ls) ρ2 → ∃ Z2, A2 K σ H ρ Z us fs as ls ρ2 Z2
  | [], us, vs, fs, ms, ρ, Z, as, ls, ρ2, e, _, hA, h => by
    cases hA
    cases h
    exact ⟨Z, e, fun _ h => h, fun _ h => .inl h, .nil, fun i j s u a h => by simp at h, fun a ⟨i, s, h, _⟩ => by simp at h, fun a ⟨i, s, h, _⟩ => by simp at h, fun _ _ h _ => h, fun _ _ h => h, .nil⟩
  | e0 :: es, us0, vs0, fs, ms, ρ, Z, as, ls, ρ2, e, ht, hA, h => by
    cases hA with
    | @nm _ x i u _ us vs _ hl hu hr =>
      unfold args2 at h
      simp only [hl] at h
      -- the slot is frozen already, or a list that is frozen now
      have keep : ∀ (d : PyData) (ρ1 : PEnv) (Z1 : Addr → Prop) (ar : List Sl), EnvR K Z1 ρ1 σ H → (∀ a, Z a → Z1 a) → (∀ a, Z1 a → Z a ∨ Mu ρ σ a) → Sub ρ1 ρ → (∀ j a, La ρ1 σ j a → La ρ σ j a) → Rp K Z1 H u d →
          args2 C es vs ms.tail ρ1 = .ok (ar, ls) ρ2 → ∃ Z2, A2 K σ H ρ Z (u :: us) fs (⟨.fz, d⟩ :: ar) ls ρ2 Z2 := fun d ρ1 Z1 ar e1 z1 z2 s1 l1 rp h1 => by
        have hr1 : ArgV K C σ (Mu ρ1 σ) Z1 H0 H es us vs fs := hr.chg z1 (fun a ha z => (z2 a z).elim (hr.fresh a ha).1 (hr.fresh a ha).2) fun a m => s1.mu m
        obtain ⟨Z2, A⟩ := args2_ok es us vs fs ms.tail ρ1 Z1 ar ls ρ2 e1 ht hr1 h1
        refine ⟨Z2, A.env, fun a h => A.zm a (z1 a h), fun a h => ?_, .cons (Rp.mono A.zm (fun _ _ _ h => h) rp) A.args, ApA_cons A.ap fun a m => (nomatch m), fun a m => ?_, fun a m => ?_, fun j s h m => s1 j s (A.sub j s h m) m, fun j a h => l1 j a (A.la j a h), .skip (fun z => nomatch z) (A.lend.sub s1)⟩
        · rcases A.zg a h with q | q | q
          · exact (z2 a q).elim .inl fun m => .inr (.inl m)
          · exact .inr (.inl (s1.mu q))
          · exact .inr (.inr q)
        · rcases MA_cons m with ⟨m, _⟩ | m
          · cases m
          · obtain ⟨q1, q2, q3⟩ := A.ma a m
            exact ⟨q1.imp s1.mu id, q2, q3⟩
        · rcases OA_cons m with ⟨m, _⟩ | m
          · cases m
          · exact A.oa a m
      -- lent
      have lend : ∀ (d : PyData) (o : Bool) (ar : List Sl) (lr : List (Nat × Bool)), ρ[i]? = some (some ⟨if o = true then .own else .lent, d⟩) → args2 C es vs ms.tail (ρ.set i none) = .ok (ar, lr) ρ2 →
          ∃ Z2, A2 K σ H ρ Z (u :: us) fs (⟨.lent, d⟩ :: ar) ((i, o) :: lr) ρ2 Z2 := fun d o ar lr hi h1 => by
        have mo : isMutT (if o = true then Tg.own else .lent) = true := by cases o <;> rfl
        obtain ⟨w, hw, sr⟩ := e.sl i _ hi
        rw [hu] at hw
        cases hw
        obtain ⟨a, rfl, nz, hat⟩ := sr.mut mo
        have Ma : Mu ρ σ a := ⟨i, _, hi, mo, hu⟩
        obtain ⟨e1, s1, l1, nm⟩ := e.clear i
        have nm := nm _ hi mo a hu
        have hr1 : ArgV K C σ (Mu (ρ.set i none) σ) Z H0 H es us vs fs := hr.chg (fun _ h => h) (fun b hb => (hr.fresh b hb).1) fun b m => s1.mu m
        obtain ⟨Z2, A⟩ := args2_ok es us vs fs ms.tail _ Z ar lr ρ2 e1 ht hr1 h1
        have nf : a ∉ fs := fun z => (hr.fresh a z).2 Ma
        have nz2 : ¬ Z2 a := fun z => by
          rcases A.zg a z with q | q | q
          · exact nz q
          · exact nm q
          · exact nf q
        refine ⟨Z2, A.env, A.zm, fun b h => ?_, .cons (show ArgR K Z2 H (.ref a) ⟨.lent, d⟩ from ⟨a, rfl, nz2, hat.mono A.zm (fun _ _ _ h => h) id⟩) A.args, ApA_cons A.ap fun b _ eb m => ?_, fun b m => ?_, fun b m => ?_, fun j s h m => s1 j s (A.sub j s h m) m, fun j b h => l1 j b (A.la j b h), .lend hi hu (A.lend.sub s1)⟩
        · rcases A.zg b h with q | q | q
          · exact .inl q
          · exact .inr (.inl (s1.mu q))
          · exact .inr (.inr q)
        · cases eb
          rcases (A.ma a m).1 with q | q
          · exact nm q
          · exact nf q
        · rcases MA_cons m with ⟨_, eb⟩ | m
          · cases eb
            exact ⟨.inl Ma, nz2, fun q => nm (A.sub.mu q)⟩
          · obtain ⟨q1, q2, q3⟩ := A.ma b m
            exact ⟨q1.imp s1.mu id, q2, q3⟩
        · rcases OA_cons m with ⟨m, _⟩ | m
          · cases m
          · exact A.oa b m
      have frz : ∀ (t t' : Tg) (xs : List PyData) (ar : List Sl), ρ[i]? = some (some ⟨t, .list xs⟩) → isMutT t = true → isMutT t' = false → (isLentT t' = true → isLentT t = true) →
          args2 C es vs ms.tail (ρ.set i (some ⟨t', .list xs⟩)) = .ok (ar, ls) ρ2 → ∃ Z2, A2 K σ H ρ Z (u :: us) fs (⟨.fz, .list xs⟩ :: ar) ls ρ2 Z2 := fun t t' xs ar hi mt mt' lt h1 => by
        obtain ⟨Z1, ex, e1, rp⟩ := freeze e hi mt mt' lt hu
        have gs := get_set (x := some (⟨t', .list xs⟩ : Sl)) (some_lt hi)
        refine keep _ _ Z1 ar e1 ex.zm (fun a z => ?_) (fun j s hj hm => ?_) ex.lt rp h1
        · rcases ex.zg a z with q | q | q
          · exact .inl q
          · exact .inr q
          · exact (e1.zt a z q).elim
        · rw [gs] at hj
          by_cases q : i = j
          · rw [if_pos q] at hj; cases hj; rw [mt'] at hm; cases hm
          · rw [if_neg q] at hj; exact hj
      have fz0 : ∀ (t : Tg) (d : PyData), ρ[i]? = some (some ⟨t, d⟩) → isMutT t = false → Rp K Z H u d := fun t d hi mt => by
        obtain ⟨w, hw, sr⟩ := e.sl i _ hi
        rw [hu] at hw
        cases hw
        exact sr.fz mt
      split at h
      · rename_i d hi
        obtain ⟨⟨ar, lr⟩, ρ', h1, h2⟩ := R.bind_ok h
        cases h2
        exact keep d ρ Z ar e (fun _ h => h) (fun _ h => .inl h) (fun _ _ h _ => h) (fun _ _ h => h) (fz0 _ _ hi rfl) h1
      · rename_i d hi
        obtain ⟨⟨ar, lr⟩, ρ', h1, h2⟩ := R.bind_ok h
        cases h2
        exact keep d ρ Z ar e (fun _ h => h) (fun _ h => .inl h) (fun _ _ h _ => h) (fun _ _ h => h) (fz0 _ _ hi rfl) h1
      · rename_i d hi
        split at h
        · obtain ⟨⟨ar, lr⟩, ρ', h1, h2⟩ := R.bind_ok h
          cases h2
          exact lend d true ar lr hi h1
        · split at h
          · obtain ⟨⟨ar, lr⟩, ρ', h1, h2⟩ := R.bind_ok h
            cases h2
            exact frz .own .fz _ ar hi rfl rfl (fun z => nomatch z) h1
          · cases h
      · rename_i d hi
        split at h
        · obtain ⟨⟨ar, lr⟩, ρ', h1, h2⟩ := R.bind_ok h
          cases h2
          exact lend d false ar lr hi h1
        · split at h
          · obtain ⟨⟨ar, lr⟩, ρ', h1, h2⟩ := R.bind_ok h
            cases h2
            exact frz .lent .lf _ ar hi rfl rfl (fun _ => rfl) h1
          · cases h
      · cases h
    | @fr _ a d _ us vs fs h0 nz nm hat nf hr =>
      unfold args2 at h
      simp only [Bool.true_and] at h
      have ht' : ∀ b ∈ fs, H b ≠ none := fun b hb => ht b (List.mem_cons_of_mem _ hb)
      split at h
      · obtain ⟨⟨ar, lr⟩, ρ', h1, h2⟩ := R.bind_ok h
        cases h2
        obtain ⟨Z2, A⟩ := args2_ok es us vs fs ms.tail ρ Z ar _ ρ2 e ht' hr h1
        have nz2 : ¬ Z2 a := fun z => by
          rcases A.zg a z with q | q | q
          · exact nz q
          · exact nm q
          · exact nf q
        refine ⟨Z2, A.env, A.zm, fun b h => (A.zg b h).imp id (fun q => q.imp id (List.mem_cons_of_mem _)), .cons (show ArgR K Z2 H (.ref a) ⟨.own, d⟩ from ⟨a, rfl, nz2, hat.mono A.zm (fun _ _ _ h => h) id⟩) A.args, ApA_cons A.ap fun b _ eb m => ?_, fun b m => ?_, fun b m => ?_, A.sub, A.la, .skip (fun z => nomatch z) A.lend⟩
        · cases eb
          rcases (A.ma a m).1 with q | q
          · exact nm q
          · exact nf q
        · rcases MA_cons m with ⟨_, eb⟩ | m
          · cases eb
            exact ⟨.inr List.mem_cons_self, nz2, fun q => nm (A.sub.mu q)⟩
          · obtain ⟨q1, q2, q3⟩ := A.ma b m
            exact ⟨q1.imp id (List.mem_cons_of_mem _), q2, q3⟩
        · rcases OA_cons m with ⟨_, eb⟩ | m
          · cases eb; exact List.mem_cons_self
          · exact List.mem_cons_of_mem _ (A.oa b m)
      · split at h
        · cases h
        · rename_i hd
          obtain ⟨⟨ar, lr⟩, ρ', h1, h2⟩ := R.bind_ok h
          cases h2
          have e1 : EnvR K (fun b => Z b ∨ b = a) ρ σ H := e.mz (fun _ z => .inl z) (fun b z => z.elim (e.zt b) fun q => q ▸ hat.there) fun b z => z.elim (e.zm b) fun q => q ▸ nm
          have hr1 : ArgV K C σ (Mu ρ σ) (fun b => Z b ∨ b = a) H0 H es us vs fs := hr.chg (fun _ z => .inl z) (fun b hb z => z.elim (hr.fresh b hb).1 fun q => nf (q ▸ hb)) fun _ m => m
          obtain ⟨Z2, A⟩ := args2_ok es us vs fs ms.tail ρ _ ar _ ρ2 e1 ht' hr1 h1
          have rp : Rp K Z2 H (.ref a) d := by
            cases hat with
            | lst hx r => exact .lst (A.zm a (.inr rfl)) (.inl hx) (r.mono (fun b z => A.zm b (.inl z)) fun _ _ _ q => q)
            | dct h r => exact (hd rfl).elim
          refine ⟨Z2, A.env, fun b z => A.zm b (.inl z), fun b h => ?_, .cons (show ArgR K Z2 H (.ref a) ⟨.fz, d⟩ from rp) A.args, ApA_cons A.ap fun b m => (nomatch m), fun b m => ?_, fun b m => ?_, A.sub, A.la, .skip (fun z => nomatch z) A.lend⟩
          · rcases A.zg b h with (q | q) | q | q
            · exact .inl q
            · exact .inr (.inr (q ▸ List.mem_cons_self))
            · exact .inr (.inl q)
            · exact .inr (.inr (List.mem_cons_of_mem _ q))
          · rcases MA_cons m with ⟨m, _⟩ | m
            · cases m
            · obtain ⟨q1, q2, q3⟩ := A.ma b m
              exact ⟨q1.imp id (List.mem_cons_of_mem _), q2, q3⟩
          · rcases OA_cons m with ⟨m, _⟩ | m
            · cases m
            · exact List.mem_cons_of_mem _ (A.oa b m)
    | @fz _ u d _ us vs _ rp hr =>
      unfold args2 at h
      simp only [Bool.false_and, Bool.false_eq_true, if_false] at h
      split at h
      · cases h
      · obtain ⟨⟨ar, lr⟩, ρ', h1, h2⟩ := R.bind_ok h
        cases h2
        obtain ⟨Z2, A⟩ := args2_ok es us vs fs ms.tail ρ Z ar _ ρ2 e ht hr h1
        refine ⟨Z2, A.env, A.zm, A.zg, .cons (show ArgR K Z2 H u ⟨.fz, d⟩ from rp.mono A.zm fun _ _ _ h => h) A.args, ApA_cons A.ap fun b m => (nomatch m), fun b m => ?_, fun b m => ?_, A.sub, A.la, .skip (fun z => nomatch z) A.lend⟩
        · rcases MA_cons m with ⟨m, _⟩ | m
          · cases m
          · exact A.ma b m
        · rcases OA_cons m with ⟨m, _⟩ | m
          · cases m
          · exact A.oa b m
end
end TW

set_option Elab.async false
set_option maxRecDepth 100000
set_option maxHeartbeats 1000000
/-! Tw7: a call's end. -/
namespace TW
open PySem PySem.Spec PyProof.Rows L2
section
variable {K : PySem.W.Frag} {C : Ctx} {σ : L2.St} {H H' : Hp} {Z Z' : Addr → Prop} {ρ : PEnv}
/-- other things may change -/
theorem EnvR.stay (e : EnvR K Z ρ σ H) (k : ∀ a o, H a = some o → Mu ρ σ a ∨ Z a → H' a = some o) (hz : ∀ a, Z a → Z' a) (ht : ∀ a, Z' a → H' a ≠ none) (hm : ∀ a, Z' a → ¬ Mu ρ σ a) : EnvR K Z' ρ σ H' where
  zt := ht
  len := e.len
  ap := e.ap
  sl := fun i s hs => by
    obtain ⟨v, h1, h2⟩ := e.sl i s hs
    refine ⟨v, h1, ?_⟩
    have rk : ∀ a u, Z a → Rd H a u → Rd H' a u := fun a u z r => by
      rcases r with r | ⟨o, r⟩
      · exact .inl (k a _ r (.inr z))
      · exact .inr ⟨o, k a _ r (.inr z)⟩
    cases ms : isMutT s.t with
    | true =>
      obtain ⟨a, rfl, nz, ha⟩ := h2.mut ms
      have M : Mu ρ σ a := ⟨i, s, hs, ms, h1⟩
      exact .of_mut ms (fun z => hm a z M) (ha.mono hz rk fun q => k a _ q (.inl M))
    | false => exact .of_fz ms ((h2.fz ms).mono hz rk)
theorem EnvR.put_mut (e : EnvR K Z ρ σ H) {i : Nat} {a : Addr} {t : Tg} {d : PyData} (hi : i < ρ.length) (hs : σ[i]? = some (some (V.ref a))) (mt : isMutT t = true) (nz : ¬ Z a) (ha : At K Z H a d) (nm : ¬ Mu ρ σ a) : EnvR K Z (ρ.set i (some ⟨t, d⟩)) σ H where
  zt := e.zt
  len := by rw [List.length_set]; exact e.len
  sl := fun j s h => by
    rw [get_set hi] at h
    by_cases q : i = j
    · subst q
      rw [if_pos rfl] at h; cases h
      exact ⟨_, hs, .of_mut mt nz ha⟩
    · rw [if_neg q] at h
      exact e.sl j s h
  ap := fun j k s u b h1 h2 f1 f2 e1 e2 => by
    rw [get_set hi] at h1 h2
    by_cases q : i = j
    · by_cases q2 : i = k
      · exact q.symm.trans q2
      · rw [if_neg q2] at h2
        subst q
        rw [hs] at e1; cases e1
        exact (nm ⟨k, u, h2, by rw [fz_mut] at f2; simpa using f2, e2⟩).elim
    · rw [if_neg q] at h1
      by_cases q2 : i = k
      · subst q2
        rw [hs] at e2; cases e2
        exact (nm ⟨j, s, h1, by rw [fz_mut] at f1; simpa using f1, e1⟩).elim
      · rw [if_neg q2] at h2
        exact e.ap j k s u b h1 h2 f1 f2 e1 e2
theorem EnvR.put_fz (e : EnvR K Z ρ σ H) {i : Nat} {v : V} {t : Tg} {d : PyData} (hi : i < ρ.length) (hs : σ[i]? = some (some v)) (mt : isMutT t = false) (h : Rp K Z H v d) : EnvR K Z (ρ.set i (some ⟨t, d⟩)) σ H where
  zt := e.zt
  len := by rw [List.length_set]; exact e.len
  sl := fun j s h1 => by
    rw [get_set hi] at h1
    by_cases q : i = j
    · subst q
      rw [if_pos rfl] at h1; cases h1
      exact ⟨_, hs, .of_fz mt h⟩
    · rw [if_neg q] at h1
      exact e.sl j s h1
  ap := fun j k s u b h1 h2 f1 f2 e1 e2 => by
    rw [get_set hi] at h1 h2
    by_cases q : i = j
    · rw [if_pos q] at h1; cases h1; rw [fz_mut, mt] at f1; cases f1
    · rw [if_neg q] at h1
      by_cases q2 : i = k
      · rw [if_pos q2] at h2; cases h2; rw [fz_mut, mt] at f2; cases f2
      · rw [if_neg q2] at h2
        exact e.ap j k s u b h1 h2 f1 f2 e1 e2
/-- a lent argument's address -/
def LA (vs : List V) (as : List Sl) (a : Addr) : Prop := ∃ (i : Nat) (s : Sl), as[i]? = some s ∧ s.t = .lent ∧ vs[i]? = some (V.ref a)
theorem LA.tl {v : V} {vs : List V} {s : Sl} {as : List Sl} {a : Addr} (h : LA vs as a) : LA (v :: vs) (s :: as) a := let ⟨i, u, h1, h2, h3⟩ := h; ⟨i + 1, u, by simpa using h1, h2, by simpa using h3⟩
theorem MA.tl {v : V} {vs : List V} {s : Sl} {as : List Sl} {a : Addr} (h : MA vs as a) : MA (v :: vs) (s :: as) a := let ⟨i, u, h1, h2, h3⟩ := h; ⟨i + 1, u, by simpa using h1, h2, by simpa using h3⟩
theorem ApA.tl {v : V} {vs : List V} {s : Sl} {as : List Sl} (h : ApA (v :: vs) (s :: as)) : ApA vs as := fun i j s1 u a h1 h2 m1 m2 e1 e2 =>
  Nat.succ.inj (h (i + 1) (j + 1) s1 u a (by simpa using h1) (by simpa using h2) m1 m2 (by simpa using e1) (by simpa using e2))
theorem giveBack_ok {ρ0 : PEnv} {us : List V} {as : List Sl} {ls : List (Nat × Bool)} (L : LendR ρ0 σ us as ls) : ∀ (bs : List Sl) (ρc ρ3 : PEnv), EnvR K Z ρc σ H → ρc.length = ρ0.length → BackR K Z H us as bs → ApA us as → (∀ a, MA us as a → ¬ Mu ρc σ a) → giveBack ls bs ρc = some ρ3 →
    EnvR K Z ρ3 σ H ∧ (∀ a, Mu ρ3 σ a → Mu ρc σ a ∨ LA us as a) ∧ (∀ a, Ow ρ3 σ a → Ow ρc σ a ∨ Ow ρ0 σ a) ∧ ∀ j a, La ρ3 σ j a → La ρc σ j a ∨ La ρ0 σ j a := by
  induction L with
  | nil =>
    intro bs ρc ρ3 e hl B A hm h
    cases bs with
    | nil => cases h; exact ⟨e, fun _ => .inl, fun _ => .inl, fun _ _ => .inl⟩
    | cons b bs => exact B.elim
  | @skip u s us as ls hs L ih =>
    intro bs ρc ρ3 e hl B A hm h
    have B' : BackR K Z H us as bs := by
      cases bs with
      | nil =>
        unfold BackR at B
        cases ht : s.t with
        | lent => exact (hs ht).elim
        | _ => rw [ht] at B; exact B
      | cons b bs =>
        unfold BackR at B
        cases ht : s.t with
        | lent => exact (hs ht).elim
        | _ => rw [ht] at B; exact B
    obtain ⟨r1, r2, r3, r4⟩ := ih bs ρc ρ3 e hl B' A.tl (fun a m => hm a m.tl) h
    exact ⟨r1, fun a m => (r2 a m).imp id LA.tl, r3, r4⟩
  | @lend a d d' i o us as ls hi hσ L ih =>
    intro bs ρc ρ3 e hl B A hm h
    cases bs with
    | nil => unfold BackR at B; exact B.elim
    | cons b bs =>
      unfold BackR at B
      simp only at B
      have hlt : i < ρc.length := by rw [hl]; exact some_lt hi
      have Ma : MA (.ref a :: us) (⟨.lent, d'⟩ :: as) a := ⟨0, _, rfl, rfl, rfl⟩
      have nm := hm a Ma
      obtain ⟨bt, bd⟩ := b
      cases bt with
      | lent =>
        obtain ⟨⟨a', ea, nz, hat⟩, B'⟩ := B
        cases ea
        have h' : giveBack ls bs (ρc.set i (some ⟨if o then .own else .lent, bd⟩)) = some ρ3 := h
        have mo : isMutT (if o = true then Tg.own else .lent) = true := by cases o <;> rfl
        have e1 := e.put_mut (t := if o = true then .own else .lent) (d := bd) hlt hσ mo nz hat nm
        have gs := get_set (x := some (⟨if o = true then .own else .lent, bd⟩ : Sl)) hlt
        have mu1 : ∀ b, Mu (ρc.set i (some ⟨if o = true then .own else .lent, bd⟩)) σ b → Mu ρc σ b ∨ b = a := fun b ⟨j, s, h1, h2, h3⟩ => by
          rw [gs] at h1
          by_cases q : i = j
          · subst q; rw [hσ] at h3; cases h3; exact .inr rfl
          · rw [if_neg q] at h1; exact .inl ⟨j, s, h1, h2, h3⟩
        obtain ⟨r1, r2, r3, r4⟩ := ih bs _ ρ3 e1 (by rw [List.length_set]; exact hl) B' A.tl (fun b m z => by
          rcases mu1 b z with z | rfl
          · exact hm b m.tl z
          · obtain ⟨k, s, k1, k2, k3⟩ := m
            have := A 0 (k + 1) _ s b rfl (by simpa using k1) rfl k2 rfl (by simpa using k3)
            omega) h'
        refine ⟨r1, fun b m => ?_, fun b m => ?_, fun j b m => ?_⟩
        · rcases r2 b m with z | z
          · rcases mu1 b z with z | rfl
            · exact .inl z
            · exact .inr ⟨0, _, rfl, rfl, rfl⟩
          · exact .inr z.tl
        · rcases r3 b m with ⟨j, s, h1, h2, h3⟩ | z
          · rw [gs] at h1
            by_cases q : i = j
            · subst q
              rw [if_pos rfl] at h1; cases h1
              cases o with
              | true => exact .inr ⟨i, _, hi, rfl, h3⟩
              | false => cases h2
            · rw [if_neg q] at h1; exact .inl ⟨j, s, h1, h2, h3⟩
          · exact .inr z
        · rcases r4 j b m with ⟨s, h1, h2, h3⟩ | z
          · rw [gs] at h1
            by_cases q : i = j
            · subst q
              rw [if_pos rfl] at h1; cases h1
              cases o with
              | true => cases h2
              | false => exact .inr ⟨_, hi, rfl, h3⟩
            · rw [if_neg q] at h1; exact .inl ⟨s, h1, h2, h3⟩
          · exact .inr z
      | lf =>
        obtain ⟨rp, B'⟩ := B
        have h' : giveBack ls bs (ρc.set i (some ⟨if o then .fz else .lf, bd⟩)) = some ρ3 := h
        have mo : isMutT (if o = true then Tg.fz else .lf) = false := by cases o <;> rfl
        have e1 := e.put_fz (t := if o = true then .fz else .lf) (d := bd) hlt hσ mo rp
        have gs := get_set (x := some (⟨if o = true then .fz else .lf, bd⟩ : Sl)) hlt
        have mu1 : ∀ b, Mu (ρc.set i (some ⟨if o = true then .fz else .lf, bd⟩)) σ b → Mu ρc σ b := fun b ⟨j, s, h1, h2, h3⟩ => by
          rw [gs] at h1
          by_cases q : i = j
          · rw [if_pos q] at h1; cases h1; rw [mo] at h2; cases h2
          · rw [if_neg q] at h1; exact ⟨j, s, h1, h2, h3⟩
        obtain ⟨r1, r2, r3, r4⟩ := ih bs _ ρ3 e1 (by rw [List.length_set]; exact hl) B' A.tl (fun b m z => hm b m.tl (mu1 b z)) h'
        refine ⟨r1, fun b m => (r2 b m).imp (mu1 b) LA.tl, fun b m => ?_, fun j b m => ?_⟩
        · rcases r3 b m with ⟨j, s, h1, h2, h3⟩ | z
          · rw [gs] at h1
            by_cases q : i = j
            · rw [if_pos q] at h1; cases h1; rw [own_mut h2] at mo; cases mo
            · rw [if_neg q] at h1; exact .inl ⟨j, s, h1, h2, h3⟩
          · exact .inr z
        · rcases r4 j b m with ⟨s, h1, h2, h3⟩ | z
          · rw [gs] at h1
            by_cases q : i = j
            · subst q
              rw [if_pos rfl] at h1; cases h1
              cases o with
              | true => cases h2
              | false => exact .inr ⟨_, hi, rfl, h3⟩
            · rw [if_neg q] at h1; exact .inl ⟨s, h1, h2, h3⟩
          · exact .inr z
      | fz => exact B.1.elim
      | own => exact B.1.elim
end
section
variable {X : Cx} {C : Ctx} {E : Ev}
theorem args2_len {C : Ctx} : ∀ (es : List Expr) (vs : List (Option VR)) (ms : List Bool) (ρ ρ' : PEnv) (r : List Sl × List (Nat × Bool)), args2 C es vs ms ρ = .ok r ρ' → ρ'.length = ρ.length
  | [], [], _, ρ, ρ', r, h => by cases h; rfl
  | [], _ :: _, _, ρ, ρ', r, h => by cases h
  | _ :: _, [], _, ρ, ρ', r, h => by cases h
  | e :: es, v :: vs, ms, ρ, ρ', r, h => by
    unfold args2 at h
    have go : ∀ (ρ1 : PEnv) (f : List Sl × List (Nat × Bool) → List Sl × List (Nat × Bool)), ρ1.length = ρ.length → ((args2 C es vs ms.tail ρ1).bind fun r ρ' => .ok (f r) ρ') = .ok r ρ' → ρ'.length = ρ.length := fun ρ1 f hl h => by
      obtain ⟨x, ρ2, h1, h2⟩ := R.bind_ok h
      cases h2
      exact (args2_len es vs ms.tail ρ1 _ x h1).trans hl
    simp only at h
    split at h
    · split at h
      · exact go ρ (fun r => (⟨.own, _⟩ :: r.1, r.2)) rfl h
      · split at h
        · cases h
        · exact go ρ (fun r => (⟨.fz, _⟩ :: r.1, r.2)) rfl h
    · split at h
      · cases h
      · split at h
        · exact go ρ (fun r => (⟨.fz, _⟩ :: r.1, r.2)) rfl h
        · exact go ρ (fun r => (⟨.fz, _⟩ :: r.1, r.2)) rfl h
        · split at h
          · exact go _ (fun r => (⟨.lent, _⟩ :: r.1, (_, true) :: r.2)) List.length_set h
          · split at h
            · exact go _ (fun r => (⟨.fz, .list _⟩ :: r.1, r.2)) List.length_set h
            · cases h
        · split at h
          · exact go _ (fun r => (⟨.lent, _⟩ :: r.1, (_, false) :: r.2)) List.length_set h
          · split at h
            · exact go _ (fun r => (⟨.fz, .list _⟩ :: r.1, r.2)) List.length_set h
            · cases h
        · cases h
theorem ArgV.there {K : PySem.W.Frag} {C : Ctx} {σ : L2.St} {M Z : Addr → Prop} {H0 H : Hp} {es us vs fs} (h : ArgV K C σ M Z H0 H es us vs fs) : ∀ a ∈ fs, H a ≠ none := by
  induction h with
  | nil => exact fun _ h => nomatch h
  | nm _ _ _ ih => exact ih
  | fr _ _ _ hat _ _ ih => exact fun a h => (List.mem_cons.mp h).elim (fun e => e ▸ hat.there) (ih a)
  | fz _ _ ih => exact ih
theorem Paired.zero {α β : Type} {F : α → β → Prop} {l₁ : List α} {l₂ : List β} (h : Paired F l₁ l₂) : l₁.length = l₂.length := Paired.length h
theorem args1_star {C : Ctx} {E : Ev} : ∀ (es : List Expr) (ρ ρ' : PEnv) (vs : List (Option VR)), args1 C E es ρ = .ok vs ρ' → ∀ e ∈ es, starred e = false
  | [], _, _, _, _ => fun _ h => (nomatch h)
  | e :: es, ρ, ρ', vs, h => by
    unfold args1 at h
    cases hs : starred e with
    | true => rw [hs, if_pos rfl] at h; cases h
    | false =>
      rw [hs, if_neg Bool.false_ne_true] at h
      have tl : ∃ ρ1 vs1 ρ2, args1 C E es ρ1 = .ok vs1 ρ2 := by
        split at h
        · obtain ⟨_, ρ1, _, h1⟩ := R.bind_ok h
          obtain ⟨vs1, ρ2, h2, _⟩ := R.bind_ok h1
          exact ⟨_, _, _, h2⟩
        · obtain ⟨_, ρ1, _, h1⟩ := R.bind_ok h
          obtain ⟨vs1, ρ2, h2, _⟩ := R.bind_ok h1
          exact ⟨_, _, _, h2⟩
      obtain ⟨ρ1, vs1, ρ2, h2⟩ := tl
      exact fun x hx => (List.mem_cons.mp hx).elim (fun q => q ▸ hs) (args1_star es ρ1 ρ2 vs1 h2 x)
theorem star_any {pos : Pos} {env : Env} : ∀ es : List Expr, (∀ e ∈ es, starred e = false) → (backTo pos (starEach es env)).any (·.1) = false
  | [], _ => rfl
  | e :: es, h => by
    rw [star_cons (h e List.mem_cons_self)]
    have ih := star_any (pos := pos) (env := env) es fun x hx => h x (List.mem_cons_of_mem _ hx)
    show (false || (backTo pos (starEach es env)).any (·.1)) = false
    rw [ih]
    rfl
theorem call_ok (c : CtxOk X C) (S : SoundE X C E) (f : Str) (ms : List Bool) (hf : C.fns f = some ms) (hg : (isGlo C.sc f && okNm f) = true) (es : List Expr) (p pos : Pos) : PE X (.Call (.Name f p) es [] pos) (tEv X.K (callP C E f ms es)) := by
  obtain ⟨fa, fd, ps, k, hm, hk, hb, hr, hlen, F⟩ := c.call f ms hf
  rw [Bool.and_eq_true] at hg
  have hgl : Gl X f := show X.env.scope.names.lookup f = some .globalImplicit by rw [← c.sc]; exact isGlo_ok hg.1
  obtain ⟨hdb, _, _⟩ := okNm_ok hg.2
  -- what the arguments' reading must show
  have main : ∀ (t : TA), (∀ ρ Z σ H vs ρ' (Q : List V → Hp → Prop), EnvR X.K Z ρ σ H → args1 C E es ρ = .ok vs ρ' →
      (∀ us H' Z', Ex ρ σ Z H ρ' σ Z' H' → EnvR X.K Z' ρ' σ H' → (∃ fs, ArgV X.K C σ (Mu ρ' σ) Z' H H' es us vs fs) → Q us H') → t σ H Q) →
      ∀ σ H Q, tEv X.K (callP C E f ms es) σ H Q → t σ H fun vs H1 => spC X.K C.call f ps.length (vs ++ []) H1 Q E0 := fun t hq σ H Q ⟨ρ, Z, en, r, ρ', hm, q⟩ => by
    unfold callP at hm
    obtain ⟨vs, ρ1, h1, hm⟩ := R.bind_ok hm
    obtain ⟨⟨as, ls⟩, ρ2, h2, hm⟩ := R.bind_ok hm
    simp only at hm
    split at hm
    · rename_i d fr back hc
      split at hm
      · rename_i ρ3 hgb
        cases hm
        refine hq ρ Z σ H vs ρ1 _ en h1 fun us H1 Z1 ex1 en1 ⟨fs, ha⟩ => ?_
        rw [List.append_nil]
        have fn : ∀ a ∈ fs, H a = none := ha.new
        obtain ⟨Z2, A⟩ := args2_ok es us vs fs ms ρ1 Z1 as ls ρ2 en1 ha.there ha h2
        have hl2 := args2_len es vs ms ρ1 ρ2 (as, ls) h2
        have al : us.length = as.length := Paired.length A.args
        refine ⟨al.trans (hlen as d fr back hc), as, Z2, A.env.zt, A.args, A.ap, d, fr, back, hc, fun v H2 Z3 kp dm zm zg zt B hv => ?_⟩
        have e2 : EnvR X.K Z3 ρ2 σ H2 := A.env.stay (fun a o h hh => kp a o h fun m => hh.elim (A.ma a m).2.2 (A.ma a m).2.1) zm zt fun a z m => by
          rcases zg a z with w | w | w
          · exact A.env.zm a w m
          · exact (A.ma a w).2.2 m
          · exact A.env.muThere m w
        obtain ⟨e3, g1, g2, g3⟩ := giveBack_ok A.lend back ρ2 ρ' e2 hl2 B A.ap (fun a m => (A.ma a m).2.2) hgb
        have ma1 : ∀ a, MA us as a → Mu ρ σ a ∨ H a = none := fun a m => (A.ma a m).1.elim (ex1.mg a) fun z => .inr (fn a z)
        have la1 : ∀ a, LA us as a → MA us as a := fun a ⟨i, s, k1, k2, k3⟩ => ⟨i, s, k1, by rw [k2]; rfl, k3⟩
        refine q v H2 Z3 ⟨fun a o h n => ?_, fun a h => ex1.dom a (dm a h), fun a m => ?_, fun a m => ?_, fun j a m => ?_, fun a z => zm a (A.zm a (ex1.zm a z)), fun a z => ?_⟩ e3 ?_
        · refine kp a o (ex1.keep a o h n) fun m => ?_
          rcases ma1 a m with z | z
          · exact n z
          · have h' : H a = some o := h
            rw [z] at h'; cases h'
        · rcases g1 a m with m | m
          · exact ex1.mg a (A.sub.mu m)
          · exact ma1 a (la1 a m)
        · rcases g2 a m with m | m
          · exact ex1.og a (A.sub.ow m)
          · exact ex1.og a m
        · rcases g3 j a m with m | m
          · exact ex1.lt j a (A.la j a m)
          · exact ex1.lt j a m
        · rcases zg a z with w | w | w
          · rcases A.zg a w with w | w | w
            · exact ex1.zg a w
            · exact (ex1.mg a w).elim (fun m => .inr (.inl m)) fun z => .inr (.inr z)
            · exact .inr (.inr (fn a w))
          · exact (ma1 a w).elim (fun m => .inr (.inl m)) fun z => .inr (.inr z)
          · exact .inr (.inr (ex1.dom a w))
        · unfold Val
          by_cases hfr : fr = true
          · rw [if_pos hfr] at hv
            rw [if_pos hfr]
            obtain ⟨a, ev, ho, nz, nl, hat⟩ := hv
            refine ⟨a, ev, ho.elim (fun o => fn a (A.oa a o)) (ex1.dom a), nz, fun m => ?_, hat⟩
            rcases g1 a m with m | ⟨i, s, k1, k2, k3⟩
            · rcases ho with o | o
              · obtain ⟨i, s, k1, k2, k3⟩ := o
                exact (A.ma a ⟨i, s, k1, own_mut k2, k3⟩).2.2 m
              · exact A.env.muThere m o
            · exact nl i s k1 k2 k3
          · rw [if_neg hfr] at hv
            rw [if_neg hfr]
            exact hv
      · cases hm
    · split at hm <;> cases hm
    · cases hm
  by_cases hst : ∀ e ∈ es, starred e = false
  · cases es with
    | nil => exact PE.imp (pe_call0 F hr hgl hm hk hb .nil pass0 hdb) (main tNil fun ρ Z σ H ds ρ' Q e h q => by cases h; exact q [] H Z .refl e ⟨[], .nil⟩)
    | cons e es =>
      obtain ⟨t, ht, hq⟩ := args1_ok c S (e :: es)
      exact PE.imp (pe_call F hr hgl hm hk hb .nil pass0 ht hdb (star_cons (hst e List.mem_cons_self)) (star_any es fun x hx => hst x (List.mem_cons_of_mem _ hx))) (main t hq)
  · refine PE.no fun σ H Q ⟨ρ, Z, en, r, ρ', hm, q⟩ => ?_
    unfold callP at hm
    obtain ⟨vs, ρ1, h1, _⟩ := R.bind_ok hm
    exact hst (args1_star es ρ ρ1 vs h1)
end
end TW

set_option Elab.async false
set_option maxRecDepth 100000
set_option maxHeartbeats 1000000
/-! Tw8: expressions. -/
namespace TW
open PySem PySem.Spec PyProof.Rows L2
section
variable {K : PySem.W.Frag} {ρ ρ1 : PEnv} {σ : L2.St} {Z Z1 : Addr → Prop} {H H1 : Hp}
theorem kn_of {r : VR} {Q : VK} (ex : Ex ρ σ Z H ρ1 σ Z1 H1) (en : EnvR K Z1 ρ1 σ H1) (q : ∀ v H' Z', Ex ρ σ Z H ρ1 σ Z' H' → EnvR K Z' ρ1 σ H' → Val K H (Mu ρ1 σ) Z' H' v r → Q v H') : Kn K Z1 H1 r Q := fun v H' Z' g h => by
  refine q v H' Z' (ex.trans g.ext) (g.env en) ?_
  unfold Val
  by_cases f : r.2 = true
  · rw [if_pos f] at h ⊢
    obtain ⟨a, ev, h0, nz, hat⟩ := h
    exact ⟨a, ev, ex.dom a h0, nz, fun m => en.muThere m h0, hat⟩
  · rw [if_neg f] at h ⊢
    exact h
end
section
variable {X : Cx} {C : Ctx} {E : Ev}
theorem pk2m_ok (c : CtxOk X C) (S : SoundE X C E) (a b : Expr) : ∃ ta tb : TE, PE X a ta ∧ PE X b tb ∧
    ∀ ρ Z σ H p ρ' (P : V → Hp → Prop) (Q : V → V → Hp → Prop), EnvR X.K Z ρ σ H → pk2m C E a b ρ = .ok p ρ' → (∀ x H1 Z1 d, Pk X.K Z1 H1 x d → kd d = kd p.1 → P x H1) →
      (∀ x y H' Z', Ex ρ σ Z H ρ' σ Z' H' → EnvR X.K Z' ρ' σ H' → Pk X.K Z' H' x p.1 → Pk X.K Z' H' y p.2 → Q x y H') → ta σ H fun x H1 => P x H1 ∧ tb σ H1 fun y H2 => Q x y H2 := by
  have gen : (∀ ρ, pk2m C E a b ρ = (E.ev a ρ).bind fun x ρ1 => (pkE C E b ρ1).bind fun y ρ2 => .ok (x.1, y) ρ2) → ∃ ta tb : TE, PE X a ta ∧ PE X b tb ∧
    ∀ ρ Z σ H p ρ' (P : V → Hp → Prop) (Q : V → V → Hp → Prop), EnvR X.K Z ρ σ H → pk2m C E a b ρ = .ok p ρ' → (∀ x H1 Z1 d, Pk X.K Z1 H1 x d → kd d = kd p.1 → P x H1) →
      (∀ x y H' Z', Ex ρ σ Z H ρ' σ Z' H' → EnvR X.K Z' ρ' σ H' → Pk X.K Z' H' x p.1 → Pk X.K Z' H' y p.2 → Q x y H') → ta σ H fun x H1 => P x H1 ∧ tb σ H1 fun y H2 => Q x y H2 := fun he => by
    refine ⟨_, _, S.ev a, pkE_ok c S b, fun ρ Z σ H p ρ' P Q en hm hP q => ?_⟩
    rw [he] at hm
    obtain ⟨x, ρ1, h1, h2⟩ := R.bind_ok hm
    obtain ⟨y, ρ2, h3, h4⟩ := R.bind_ok h2
    cases h4
    refine ⟨ρ, Z, en, x, ρ1, h1, fun v H1 Z1 ex1 en1 hv => ⟨hP v H1 Z1 _ hv.pk rfl, ρ1, Z1, en1, y, _, h3, fun u H2 Z2 ex2 en2 hu => ?_⟩⟩
    exact q v u H2 Z2 (ex1.trans ex2) en2 (hv.ext en1 ex2).pk hu
  cases a with
  | Name x p =>
    rcases pkName_ok c x p with h | ⟨tv, hp, h⟩
    · refine ⟨fun _ _ _ => False, _, PE.no fun _ _ _ => id, pkE_ok c S b, fun ρ Z σ H p ρ' P Q en hm hP q => ?_⟩
      obtain ⟨w, ρ0, h0, h1⟩ := R.bind_ok (show (ofO (pkName C x ρ) ρ).bind _ = _ from hm)
      obtain ⟨h5, _⟩ := ofO_ok h0
      rw [h ρ] at h5
      cases h5
    · refine ⟨_, _, hp, pkE_ok c S b, fun ρ Z σ H p ρ' P Q en hm hP q => ?_⟩
      obtain ⟨w, ρ0, h0, h0'⟩ := R.bind_ok (show (ofO (pkName C x ρ) ρ).bind _ = _ from hm)
      obtain ⟨h00, rfl⟩ := ofO_ok h0
      obtain ⟨y, ρ1, h1, h2⟩ := R.bind_ok h0'
      obtain ⟨z, ρ2, h3, h4⟩ := R.bind_ok h2
      obtain ⟨h5, rfl⟩ := ofO_ok h3
      split at h4
      · rename_i hk
        cases h4
        exact h _ Z σ H w _ en h00 fun v hv => ⟨hP v H Z w (hv _ Z H w en h00) hk, _, Z, en, y, _, h1, fun u H2 Z2 ex2 en2 hu => q v u H2 Z2 ex2 en2 (hv _ Z2 H2 z en2 h5) hu⟩
      · cases h4
  | _ => exact gen fun ρ => rfl
theorem constP_ok {cst : Const} {k : Nat} {pos : Pos} : PE X (.Constant cst k pos) (tEv X.K fun ρ => (ofO (constP cst) ρ).bind fun d ρ' => .ok (d, false) ρ') := by
  have go : ∀ (v : V) (d : PyData), PE X (.Constant cst k pos) (tC v) → constP cst = some d → (∀ Z H, Rp X.K Z H v d) → PE X (.Constant cst k pos) (tEv X.K fun ρ => (ofO (constP cst) ρ).bind fun d ρ' => .ok (d, false) ρ') := fun v d hp he hr =>
    PE.imp hp fun σ H Q ⟨ρ, Z, en, r, ρ', hm, q⟩ => by
      rw [he] at hm
      cases hm
      exact q v H Z .refl en (.fz (hr Z H))
  cases cst with
  | none => exact go .non _ pe_non rfl fun _ _ => .non
  | bool b => exact go (.bl b) _ pe_bl rfl fun _ _ => .bl b
  | int i => exact go (.int i) _ pe_int rfl fun _ _ => .int i
  | str x => exact go (.str x) _ pe_str rfl fun _ _ => .str x
  | _ => exact PE.no fun σ H Q ⟨ρ, Z, en, r, ρ', hm, q⟩ => by cases hm
theorem bin_ok (c : CtxOk X C) (S : SoundE X C E) (a b : Expr) (op : Operator) (pos : Pos) : PE X (.BinOp a op b pos) (tEv X.K fun ρ => (pk2 C E a b ρ).bind fun p ρ' => (ofO (binP op p.1 p.2) ρ').bind fun d ρ'' => .ok (d, isCt d) ρ'') := by
  obtain ⟨ta, tb, ha, hb, h⟩ := pk2_ok c S a b
  refine PE.imp (pe_op (op_bin op) ha hb) fun σ H Q ⟨ρ, Z, en, r, ρ', hm, q⟩ => ?_
  obtain ⟨p, ρ1, h1, h2⟩ := R.bind_ok hm
  obtain ⟨d, ρ2, h3, h4⟩ := R.bind_ok h2
  obtain ⟨g3, rfl⟩ := ofO_ok h3
  cases h4
  exact h ρ Z σ H p _ _ en h1 fun x y H' Z' ex en' px py => ⟨Z', p.1, p.2, d, en'.zt, px, py, g3, kn_of ex en' q⟩
theorem un_ok (S : SoundE X C E) (a : Expr) (op : UnaryOp) (pos : Pos) : PE X (.UnaryOp op a pos) (tEv X.K fun ρ => (E.ev a ρ).bind fun v ρ' => (ofO (unP op v.1) ρ').bind fun d ρ'' => .ok (d, false) ρ'') := by
  refine PE.imp (pe_un (op_un op) (S.ev a)) fun σ H Q ⟨ρ, Z, en, r, ρ', hm, q⟩ => ?_
  obtain ⟨v, ρ1, h1, h2⟩ := R.bind_ok hm
  obtain ⟨d, ρ2, h3, h4⟩ := R.bind_ok h2
  obtain ⟨g3, rfl⟩ := ofO_ok h3
  cases h4
  exact ⟨ρ, Z, en, v, _, h1, fun x H' Z' ex en' hv => ⟨Z', v.1, d, hv.pk, g3, kn_of ex en' q⟩⟩
theorem not_ok (c : CtxOk X C) (S : SoundE X C E) (a : Expr) (pos : Pos) : PE X (.UnaryOp .Not a pos) (tEv X.K fun ρ => (pkE C E a ρ).bind fun d ρ' => (ofO (truP d) ρ').bind fun b ρ'' => .ok (.bool (!b), false) ρ'') := by
  refine PE.imp (pe_notT (pkE_ok c S a)) fun σ H Q ⟨ρ, Z, en, r, ρ', hm, q⟩ => ?_
  obtain ⟨d, ρ1, h1, h2⟩ := R.bind_ok hm
  obtain ⟨b, ρ2, h3, h4⟩ := R.bind_ok h2
  obtain ⟨g3, rfl⟩ := ofO_ok h3
  cases h4
  exact ⟨ρ, Z, en, d, _, h1, fun x H' Z' ex en' px => ⟨b, tru_of px g3, q _ H' Z' ex en' (.fz (.bl _))⟩⟩
theorem boolV_ok (S : SoundE X C E) (op : BoolOp) (pos : Pos) : ∀ vs : List Expr, PE X (.BoolOp op vs pos) (tEv X.K (boolV E op vs))
  | [] => PE.no fun σ H Q ⟨ρ, Z, en, r, ρ', hm, q⟩ => by cases hm
  | [x] => PE.imp (pe_one (S.ev x)) fun σ H Q h => h
  | x :: y :: r => by
    have ih := boolV_ok S op pos (y :: r)
    cases op with
    | And =>
      refine PE.imp (pe_and (S.ev x) ih) fun σ H Q ⟨ρ, Z, en, r, ρ', hm, q⟩ => ?_
      unfold boolV at hm
      obtain ⟨⟨v, f⟩, ρ1, h1, h2⟩ := R.bind_ok hm
      refine ⟨ρ, Z, en, (v, f), ρ1, h1, fun u H1 Z1 ex1 en1 hv => ?_⟩
      cases v with
      | bool b =>
        have hb := hv.pk.bl
        subst hb
        cases b with
        | true => exact ⟨true, rfl, ⟨ρ1, Z1, en1, r, ρ', h2, fun w H2 Z2 ex2 en2 hw => q w H2 Z2 (ex1.trans ex2) en2 (by
            unfold Val at hw ⊢
            by_cases hf : r.2 = true
            · rw [if_pos hf] at hw ⊢
              obtain ⟨a, e, h0, rest⟩ := hw
              exact ⟨a, e, ex1.dom a h0, rest⟩
            · rw [if_neg hf] at hw ⊢; exact hw)⟩⟩
        | false => cases h2; exact ⟨false, rfl, q _ H1 Z1 ex1 en1 (.fz (.bl false))⟩
      | _ => cases h2
    | Or =>
      refine PE.imp (pe_or (S.ev x) ih) fun σ H Q ⟨ρ, Z, en, r, ρ', hm, q⟩ => ?_
      unfold boolV at hm
      obtain ⟨⟨v, f⟩, ρ1, h1, h2⟩ := R.bind_ok hm
      refine ⟨ρ, Z, en, (v, f), ρ1, h1, fun u H1 Z1 ex1 en1 hv => ?_⟩
      cases v with
      | bool b =>
        have hb := hv.pk.bl
        subst hb
        cases b with
        | false => exact ⟨false, rfl, ⟨ρ1, Z1, en1, r, ρ', h2, fun w H2 Z2 ex2 en2 hw => q w H2 Z2 (ex1.trans ex2) en2 (by
            unfold Val at hw ⊢
            by_cases hf : r.2 = true
            · rw [if_pos hf] at hw ⊢
              obtain ⟨a, e, h0, rest⟩ := hw
              exact ⟨a, e, ex1.dom a h0, rest⟩
            · rw [if_neg hf] at hw ⊢; exact hw)⟩⟩
        | true => cases h2; exact ⟨true, rfl, q _ H1 Z1 ex1 en1 (.fz (.bl true))⟩
      | _ => cases h2
theorem noSet_ok {op : CmpOp} {r : Expr} (h : noSet r = true) : behindInMarks op r = false := by
  cases r <;> first | rfl | cases h
theorem cmp1_ok (c : CtxOk X C) (S : SoundE X C E) (l r : Expr) (op : CmpOp) (pos : Pos) : PE X (.Compare l [op] [r] pos) (tEv X.K fun ρ => (cmp1 C E l op r ρ).bind fun b ρ' => .ok (.bool b, false) ρ') ∧ PT X (.Compare l [op] [r] pos) (tTs X.K (cmp1 C E l op r)) := by
  by_cases hn : noSet r = true
  · obtain ⟨ta, tb, ha, hb, h⟩ := pk2_ok c S l r
    have hu : X.A.units + 64 < cLine := by have := c.hu; omega
    refine ⟨PE.imp (pe_cmpR (op_cmp hu op) ha hb (noSet_ok hn)) fun σ H Q ⟨ρ, Z, en, r, ρ', hm, q⟩ => ?_, PT.imp (pt_cmpR (op_cmp hu op) ha hb (noSet_ok hn)) fun σ H Q ⟨ρ, Z, en, b, ρ', hm, q⟩ => ?_⟩
    · obtain ⟨b, ρ1, h1, h2⟩ := R.bind_ok hm
      unfold cmp1 at h1
      rw [if_pos hn] at h1
      obtain ⟨p, ρ2, h3, h4⟩ := R.bind_ok h1
      obtain ⟨g4, rfl⟩ := ofO_ok h4
      cases h2
      exact h ρ Z σ H p _ _ en h3 fun x y H' Z' ex en' px py => ⟨Z', p.1, p.2, b, px, py, g4, q _ H' Z' ex en' (.fz (.bl b))⟩
    · unfold cmp1 at hm
      rw [if_pos hn] at hm
      obtain ⟨p, ρ2, h3, h4⟩ := R.bind_ok hm
      obtain ⟨g4, rfl⟩ := ofO_ok h4
      exact h ρ Z σ H p _ _ en h3 fun x y H' Z' ex en' px py => ⟨Z', p.1, p.2, b, px, py, g4, b, rfl, q H' Z' ex en'⟩
  · refine ⟨PE.no fun σ H Q ⟨ρ, Z, en, r, ρ', hm, q⟩ => ?_, PT.no fun σ H Q ⟨ρ, Z, en, b, ρ', hm, q⟩ => ?_⟩
    · obtain ⟨b, ρ1, h1, h2⟩ := R.bind_ok hm
      unfold cmp1 at h1
      rw [if_neg hn] at h1
      cases h1
    · unfold cmp1 at hm
      rw [if_neg hn] at hm
      cases hm
theorem cmp2_ok (c : CtxOk X C) (S : SoundE X C E) (l b d : Expr) (op op' : CmpOp) (pos : Pos) : PE X (.Compare l [op, op'] [b, d] pos) (tEv X.K fun ρ => (cmp2 C E l op op' b d ρ).bind fun b ρ' => .ok (.bool b, false) ρ') ∧ PT X (.Compare l [op, op'] [b, d] pos) (tTs X.K (cmp2 C E l op op' b d)) := by
  by_cases hn : (noSet b && noSet d) = true
  · have hu : X.A.units + 64 < cLine := by have := c.hu; omega
    have hl : lastMarks [op, op'] [b, d] = false := by
      rw [Bool.and_eq_true] at hn
      show behindInMarks op' d = false
      exact noSet_ok hn.2
    have core : ∀ σ H (Q : VK) ρ Z k ρ', EnvR X.K Z ρ σ H → cmp2 C E l op op' b d ρ = .ok k ρ' → (∀ H' Z', Ex ρ σ Z H ρ' σ Z' H' → EnvR X.K Z' ρ' σ H' → Q (.bl k) H') → tChain (rC X.K op) (rC X.K op') (tEv X.K (E.ev l)) (tEv X.K (E.ev b)) (tEv X.K (E.ev d)) σ H Q := fun σ H Q ρ Z k ρ' en hm q => by
      unfold cmp2 at hm
      rw [if_pos hn] at hm
      obtain ⟨x, ρ1, h1, hm⟩ := R.bind_ok hm
      obtain ⟨y, ρ2, h2, hm⟩ := R.bind_ok hm
      obtain ⟨k1, ρ3, h3, hm⟩ := R.bind_ok hm
      obtain ⟨h3, e3⟩ := ofO_ok h3
      rw [e3] at hm
      refine ⟨ρ, Z, en, x, ρ1, h1, fun v H1 Z1 ex1 en1 hv => ⟨ρ1, Z1, en1, y, ρ2, h2, fun u H2 Z2 ex2 en2 hu2 => ?_⟩⟩
      refine ⟨Z2, x.1, y.1, k1, (hv.ext en1 ex2).pk, hu2.pk, h3, k1, rfl, ?_⟩
      cases k1 with
      | true =>
        rw [if_pos rfl] at hm ⊢
        obtain ⟨z, ρ4, h4, hm⟩ := R.bind_ok hm
        obtain ⟨h5, rfl⟩ := ofO_ok hm
        exact ⟨ρ2, Z2, en2, z, _, h4, fun w H3 Z3 ex3 en3 hw => ⟨Z3, y.1, z.1, k, (hu2.ext en2 ex3).pk, hw.pk, h5, q H3 Z3 ((ex1.trans ex2).trans ex3) en3⟩⟩
      | false =>
        rw [if_neg Bool.false_ne_true] at hm ⊢
        cases hm
        exact q H2 Z2 (ex1.trans ex2) en2
    refine ⟨PE.imp (pe_chain (op_cmp hu op) (op_cmp hu op') (S.ev l) (S.ev b) (S.ev d) hl) fun σ H Q ⟨ρ, Z, en, r, ρ', hm, q⟩ => ?_, PT.imp (pt_chain (op_cmp hu op) (op_cmp hu op') (S.ev l) (S.ev b) (S.ev d) hl) fun σ H Q ⟨ρ, Z, en, k, ρ', hm, q⟩ => ?_⟩
    · obtain ⟨k, ρ1, h1, h2⟩ := R.bind_ok hm
      cases h2
      exact core σ H Q ρ Z k _ en h1 fun H' Z' ex en' => q _ H' Z' ex en' (.fz (.bl k))
    · exact core σ H _ ρ Z k _ en hm fun H' Z' ex en' => ⟨k, rfl, q H' Z' ex en'⟩
  · refine ⟨PE.no fun σ H Q ⟨ρ, Z, en, r, ρ', hm, q⟩ => ?_, PT.no fun σ H Q ⟨ρ, Z, en, b', ρ', hm, q⟩ => ?_⟩
    · obtain ⟨k, ρ1, h1, h2⟩ := R.bind_ok hm
      unfold cmp2 at h1
      rw [if_neg hn] at h1
      cases h1
    · unfold cmp2 at hm
      rw [if_neg hn] at hm
      cases hm
theorem ite_ok (S : SoundE X C E) (t a b : Expr) (pos : Pos) : PE X (.IfExp t a b pos) (tEv X.K fun ρ => (E.ts t ρ).bind fun k ρ' => if k then E.ev a ρ' else E.ev b ρ') := by
  refine PE.imp (pe_ifExp (S.ts t) (S.ev a) (S.ev b)) fun σ H Q ⟨ρ, Z, en, r, ρ', hm, q⟩ => ?_
  obtain ⟨k, ρ1, h1, h2⟩ := R.bind_ok hm
  have up : ∀ {H1 : Hp} {Z1 : Addr → Prop}, Ex ρ σ Z H ρ1 σ Z1 H1 → ∀ w H2 Z2, Ex ρ1 σ Z1 H1 ρ' σ Z2 H2 → EnvR X.K Z2 ρ' σ H2 → Val X.K H1 (Mu ρ' σ) Z2 H2 w r → Q w H2 := fun {H1 Z1} ex1 w H2 Z2 ex2 en2 hw => by
    refine q w H2 Z2 (ex1.trans ex2) en2 ?_
    unfold Val at hw ⊢
    by_cases hf : r.2 = true
    · rw [if_pos hf] at hw ⊢
      obtain ⟨a, e, h0, rest⟩ := hw
      exact ⟨a, e, ex1.dom a h0, rest⟩
    · rw [if_neg hf] at hw ⊢; exact hw
  refine ⟨ρ, Z, en, k, ρ1, h1, fun H1 Z1 ex1 en1 => ?_⟩
  cases k with
  | true => rw [if_pos rfl] at h2 ⊢; exact ⟨ρ1, Z1, en1, r, ρ', h2, up ex1⟩
  | false => rw [if_neg Bool.false_ne_true] at h2 ⊢; exact ⟨ρ1, Z1, en1, r, ρ', h2, up ex1⟩
theorem tup_ok (S : SoundE X C E) (es : List Expr) (k : Nat) (pos : Pos) : PE X (.Tuple es k pos) (tEv X.K fun ρ => (items E es ρ).bind fun ds ρ' => if ds.length ≤ sizeLine then .ok (.tuple ds, false) ρ' else .no) := by
  obtain ⟨t, ht, h⟩ := items_ok S es
  refine PE.imp (pe_tup ht) fun σ H Q ⟨ρ, Z, en, r, ρ', hm, q⟩ => ?_
  obtain ⟨ds, ρ1, h1, h2⟩ := R.bind_ok hm
  split at h2
  · rename_i hl
    cases h2
    exact h ρ Z σ H ds _ _ en h1 fun vs H' Z' ex en' hr => ⟨by rw [hr.length]; exact hl, fun p hp => Kn.nt (kn_of ex en' q) hp hr⟩
  · cases h2
theorem lst_ok (S : SoundE X C E) (es : List Expr) (pos : Pos) : PE X (.List es pos) (tEv X.K fun ρ => (items E es ρ).bind fun ds ρ' => if ds.length ≤ sizeLine then .ok (.list ds, true) ρ' else .no) := by
  obtain ⟨t, ht, h⟩ := items_ok S es
  refine PE.imp (pe_lst ht) fun σ H Q ⟨ρ, Z, en, r, ρ', hm, q⟩ => ?_
  obtain ⟨ds, ρ1, h1, h2⟩ := R.bind_ok hm
  split at h2
  · rename_i hl
    cases h2
    exact h ρ Z σ H ds _ _ en h1 fun vs H' Z' ex en' hr => ⟨by rw [hr.length]; exact hl, fun p hp => Kn.nl (kn_of ex en' q) en'.zt hp hr⟩
  · cases h2
end
end TW

set_option Elab.async false
set_option maxRecDepth 100000
set_option maxHeartbeats 1000000
/-! Tw9: slices, subscripts, built-ins, dicts. -/
namespace TW
open PySem PySem.Spec PyProof.Rows L2
section
variable {X : Cx} {C : Ctx} {E : Ev}
theorem part_ok (S : SoundE X C E) (o : Option Expr) : ∃ t : TO, PO X o t ∧ ∀ ρ Z σ H l ρ' (Q : Option Int → Hp → Prop), EnvR X.K Z ρ σ H → partP C E o ρ = .ok l ρ' →
    (∀ H' Z', Ex ρ σ Z H ρ' σ Z' H' → EnvR X.K Z' ρ' σ H' → Q l H') → t σ H Q := by
  cases o with
  | none => exact ⟨_, po_none, fun ρ Z σ H l ρ' Q en h q => by cases h; exact q H Z .refl en⟩
  | some e =>
    refine ⟨_, po_some (S.ev e), fun ρ Z σ H l ρ' Q en h q => ?_⟩
    obtain ⟨⟨v, f⟩, ρ1, h1, h2⟩ := R.bind_ok (show (E.ev e ρ).bind _ = _ from h)
    refine ⟨ρ, Z, en, (v, f), ρ1, h1, fun u H1 Z1 ex1 en1 hv => ?_⟩
    cases v with
    | int i => cases h2; exact ⟨i, hv.pk.int, q H1 Z1 ex1 en1⟩
    | _ => cases h2
theorem sl3_ok (c : CtxOk X C) (S : SoundE X C E) (a : Expr) (lo hi : Option Expr) : ∃ (ta : TE) (tl th : TO), PE X a ta ∧ PO X lo tl ∧ PO X hi th ∧
    ∀ ρ Z σ H p ρ' (Q : V → Option Int → Option Int → Hp → Prop), EnvR X.K Z ρ σ H → sl3 C E a lo hi ρ = .ok p ρ' →
      (∀ x H' Z', Ex ρ σ Z H ρ' σ Z' H' → EnvR X.K Z' ρ' σ H' → Pk X.K Z' H' x p.1 → Q x p.2.1 p.2.2 H') → ta σ H fun x H1 => tl σ H1 fun l H2 => th σ H2 fun u H3 => Q x l u H3 := by
  obtain ⟨tl, hl, ql⟩ := part_ok (C := C) S lo
  obtain ⟨th, hh, qh⟩ := part_ok (C := C) S hi
  have gen : (∀ ρ, sl3 C E a lo hi ρ = (E.ev a ρ).bind fun x ρ1 => (partP C E lo ρ1).bind fun l ρ2 => (partP C E hi ρ2).bind fun h ρ3 => .ok (x.1, l, h) ρ3) → ∃ (ta : TE) (tl th : TO), PE X a ta ∧ PO X lo tl ∧ PO X hi th ∧
    ∀ ρ Z σ H p ρ' (Q : V → Option Int → Option Int → Hp → Prop), EnvR X.K Z ρ σ H → sl3 C E a lo hi ρ = .ok p ρ' →
      (∀ x H' Z', Ex ρ σ Z H ρ' σ Z' H' → EnvR X.K Z' ρ' σ H' → Pk X.K Z' H' x p.1 → Q x p.2.1 p.2.2 H') → ta σ H fun x H1 => tl σ H1 fun l H2 => th σ H2 fun u H3 => Q x l u H3 := fun he => by
    refine ⟨_, tl, th, S.ev a, hl, hh, fun ρ Z σ H p ρ' Q en hm q => ?_⟩
    rw [he] at hm
    obtain ⟨x, ρ1, h1, hm⟩ := R.bind_ok hm
    obtain ⟨l, ρ2, h2, hm⟩ := R.bind_ok hm
    obtain ⟨u, ρ3, h3, hm⟩ := R.bind_ok hm
    cases hm
    refine ⟨ρ, Z, en, x, ρ1, h1, fun v H1 Z1 ex1 en1 hv => ql ρ1 Z1 σ H1 l ρ2 _ en1 h2 fun H2 Z2 ex2 en2 => qh ρ2 Z2 σ H2 u _ _ en2 h3 fun H3 Z3 ex3 en3 => ?_⟩
    exact q v H3 Z3 ((ex1.trans ex2).trans ex3) en3 ((hv.ext en1 ex2).ext en2 ex3).pk
  cases a with
  | Name x p =>
    rcases pkName_ok c x p with h | ⟨tv, hp, h⟩
    · refine ⟨fun _ _ _ => False, tl, th, PE.no fun _ _ _ => id, hl, hh, fun ρ Z σ H p ρ' Q en hm q => ?_⟩
      obtain ⟨w, ρ0, h0, h1⟩ := R.bind_ok (show (ofO (pkName C x ρ) ρ).bind _ = _ from hm)
      obtain ⟨h5, _⟩ := ofO_ok h0
      rw [h ρ] at h5
      cases h5
    · refine ⟨_, tl, th, hp, hl, hh, fun ρ Z σ H p ρ' Q en hm q => ?_⟩
      obtain ⟨w, ρ0, h0, g1⟩ := R.bind_ok (show (ofO (pkName C x ρ) ρ).bind _ = _ from hm)
      obtain ⟨h00, rfl⟩ := ofO_ok h0
      obtain ⟨l, ρ1, h2, g2⟩ := R.bind_ok g1
      obtain ⟨u, ρ2, h3, g3⟩ := R.bind_ok g2
      obtain ⟨z, ρ3, h4, g4⟩ := R.bind_ok g3
      obtain ⟨h5, rfl⟩ := ofO_ok h4
      cases g4
      exact h _ Z σ H w _ en h00 fun v hv => ql _ Z σ H l ρ1 _ en h2 fun H2 Z2 ex2 en2 => qh ρ1 Z2 σ H2 u _ _ en2 h3 fun H3 Z3 ex3 en3 => q v H3 Z3 (ex2.trans ex3) en3 (hv _ Z3 H3 z en3 h5)
  | _ => exact gen fun ρ => rfl
theorem slc_ok (c : CtxOk X C) (S : SoundE X C E) (a : Expr) (lo hi : Option Expr) (p2 pos : Pos) : PE X (.Subscript a (.Slice lo hi none p2) pos) (tEv X.K fun ρ => (sl3 C E a lo hi ρ).bind fun p ρ' => (ofO (slcP p.1 p.2.1 p.2.2) ρ').bind fun d ρ'' => .ok (d, isCt d) ρ'') := by
  obtain ⟨ta, tl, th, ha, hl, hh, h⟩ := sl3_ok c S a lo hi
  refine PE.imp (pe_slice sl_all ha hl hh) fun σ H Q ⟨ρ, Z, en, r, ρ', hm, q⟩ => ?_
  obtain ⟨p, ρ1, h1, h2⟩ := R.bind_ok hm
  obtain ⟨d, ρ2, h3, h4⟩ := R.bind_ok h2
  obtain ⟨g3, rfl⟩ := ofO_ok h3
  cases h4
  exact h ρ Z σ H p _ _ en h1 fun x H' Z' ex en' px => ⟨Z', p.1, d, en'.zt, px, g3, kn_of ex en' q⟩
theorem noSlice_ok {b : Expr} (h : noSlice b = true) : PlainIx b := by
  intro o i
  cases b with
  | Slice lo hi st p => cases st with
    | none => cases h
    | some e => rfl
  | _ => rfl
theorem sub_ok (c : CtxOk X C) (S : SoundE X C E) (a b : Expr) (pos : Pos) : PE X (.Subscript a b pos) (tEv X.K fun ρ => if noSlice b then (pk2 C E a b ρ).bind fun p ρ' => (ofO (idxP p.1 p.2) ρ').bind fun d ρ'' => .ok (d, false) ρ'' else .no) := by
  by_cases hn : noSlice b = true
  · obtain ⟨ta, tb, ha, hb, h⟩ := pk2_ok c S a b
    have hu : X.A.units + 1 < cLine := by have := c.hu; omega
    refine PE.imp (pe_ix (ix_all hu) ha hb (noSlice_ok hn)) fun σ H Q ⟨ρ, Z, en, r, ρ', hm, q⟩ => ?_
    dsimp only at hm
    rw [if_pos hn] at hm
    obtain ⟨p, ρ1, h1, h2⟩ := R.bind_ok hm
    obtain ⟨d, ρ2, h3, h4⟩ := R.bind_ok h2
    obtain ⟨g3, rfl⟩ := ofO_ok h3
    cases h4
    exact h ρ Z σ H p _ _ en h1 fun x y H' Z' ex en' px py => ⟨Z', p.1, p.2, d, px, py, g3, fun v hv => q v H' Z' ex en' (.fz hv)⟩
  · exact PE.no fun σ H Q ⟨ρ, Z, en, r, ρ', hm, q⟩ => by dsimp only at hm; rw [if_neg hn] at hm; cases hm

/-! ### built-ins -/
theorem star1 {e : Expr} {env : Env} (h : starred e = false) : starEach [e] env = [(false, eval e env)] := star_cons h
theorem callB1_ok (c : CtxOk X C) (S : SoundE X C E) (f : Str) (p pos : Pos) (a : Expr) (hf : isBlt C f = true) (hs : starred a = false) : PE X (.Call (.Name f p) [a] [] pos) (tEv X.K fun ρ => (pkE C E a ρ).bind fun d ρ' => ofO (bi1P f d) ρ') := by
  obtain ⟨g1, g2, g3, g4⟩ := glOf c hf
  have pa : PA X [a] (tCons (tPk X.K (pkE C E a)) tNil) := pa_cons (pkE_ok c S a) pa_nil (star_cons hs)
  have main : ∀ σ H Q, tEv X.K (fun ρ => (pkE C E a ρ).bind fun d ρ' => ofO (bi1P f d) ρ') σ H Q → tCB (rB1 X.K f) (tCons (tPk X.K (pkE C E a)) tNil) σ H Q := fun σ H Q ⟨ρ, Z, en, r, ρ', hm, q⟩ => by
    obtain ⟨d, ρ1, h1, h2⟩ := R.bind_ok hm
    obtain ⟨g3, rfl⟩ := ofO_ok h2
    exact ⟨ρ, Z, en, d, _, h1, fun x H' Z' ex en' px => ⟨Z', x, d, r, en'.zt, rfl, px, g3, kn_of ex en' q⟩⟩
  rcases bi1_ok (X := X) c.calm f with (⟨h, k⟩ | ⟨h, k⟩) | h
  · exact PE.imp (pe_callB k g1 g2 h pa g3 g4 (star_cons hs) rfl) main
  · exact PE.imp (pe_callTy k g1 g2 h pa g3 g4 (star_cons hs) rfl) main
  · refine PE.no fun σ H Q ⟨ρ, Z, en, r, ρ', hm, q⟩ => ?_
    obtain ⟨d, ρ1, h1, h2⟩ := R.bind_ok hm
    rw [h d] at h2
    cases h2
theorem callB2_ok (c : CtxOk X C) (S : SoundE X C E) (f : Str) (p pos : Pos) (a b : Expr) (hi : (isGlo C.sc f && okNm f) = true) (hf : (if f = "gcd" then C.gcd else C.blt f) = true) (hs : starred a = false) (hs2 : starred b = false) :
    PE X (.Call (.Name f p) [a, b] [] pos) (tEv X.K fun ρ => (pk2 C E a b ρ).bind fun p ρ' => ofO (bi2P f p.1 p.2) ρ') := by
  obtain ⟨ta, tb, ha, hb, h⟩ := pk2_ok c S a b
  have pa : PA X [a, b] (tCons ta (tCons tb tNil)) := pa_cons ha (pa_cons hb pa_nil (star_cons hs2)) (star_cons hs)
  have sp : (backTo pos (starEach [b] X.env)).any (·.1) = false := by rw [star1 hs2]; rfl
  have main : ∀ σ H Q, tEv X.K (fun ρ => (pk2 C E a b ρ).bind fun p ρ' => ofO (bi2P f p.1 p.2) ρ') σ H Q → tCB (rB2 X.K f) (tCons ta (tCons tb tNil)) σ H Q := fun σ H Q ⟨ρ, Z, en, r, ρ', hm, q⟩ => by
    obtain ⟨d, ρ1, h1, h2⟩ := R.bind_ok hm
    obtain ⟨g3, rfl⟩ := ofO_ok h2
    exact h ρ Z σ H d _ _ en h1 fun x y H' Z' ex en' px py => ⟨Z', x, y, d.1, d.2, r, rfl, px, py, g3, kn_of ex en' q⟩
  by_cases hg : f = "gcd"
  · subst hg
    rw [if_pos rfl] at hf
    rw [Bool.and_eq_true] at hi
    exact PE.imp (pe_callBfun gcd_ok (show X.env.scope.names.lookup ("gcd" : Str) = some NameKind.globalImplicit by rw [← c.sc]; exact isGlo_ok hi.1) (c.gcd hf) pa (okNm_ok hi.2).1 (star_cons hs) sp) main
  · rw [if_neg hg] at hf
    obtain ⟨g1, g2, g3, g4⟩ := glOf (x := f) c (by unfold isBlt; rw [hi, hf]; rfl)
    rcases bi2_ok (X := X) c.calm f hg with (⟨h, k⟩ | ⟨h, k⟩) | h
    · exact PE.imp (pe_callB k g1 g2 h pa g3 g4 (star_cons hs) sp) main
    · exact PE.imp (pe_callTy k g1 g2 h pa g3 g4 (star_cons hs) sp) main
    · refine PE.no fun σ H Q ⟨ρ, Z, en, r, ρ', hm, q⟩ => ?_
      obtain ⟨d, ρ1, h1, h2⟩ := R.bind_ok hm
      rw [h d.1 d.2] at h2
      cases h2
theorem isi_pe (c : CtxOk X C) (S : SoundE X C E) (T : Str) (p pT pos : Pos) (a : Expr) (hf : isBlt C "isinstance" = true) (hT : isBlt C T = true) (hs : starred a = false) :
    PE X (.Call (.Name "isinstance" p) [a, .Name T pT] [] pos) (tEv X.K fun ρ => (pkE C E a ρ).bind fun d ρ' => (ofO (isiP d T) ρ').bind fun k ρ'' => .ok (.bool k, false) ρ'') := by
  obtain ⟨g1, g2, g3, g4⟩ := glOf c hf
  obtain ⟨k1, k2, k3, k4⟩ := glOf c hT
  cases hn : isiP .none T with
  | none =>
    refine PE.no fun σ H Q ⟨ρ, Z, en, r, ρ', hm, q⟩ => ?_
    obtain ⟨d, ρ1, h1, h2⟩ := R.bind_ok hm
    obtain ⟨b, ρ2, h3, h4⟩ := R.bind_ok h2
    obtain ⟨h5, _⟩ := ofO_ok h3
    unfold isiP at hn h5
    split at hn
    · cases hn
    · rename_i n1; rw [if_neg n1] at h5; split at hn
      · cases hn
      · rename_i n1; rw [if_neg n1] at h5; split at hn
        · cases hn
        · rename_i n1; rw [if_neg n1] at h5; split at hn
          · cases hn
          · rename_i n1; rw [if_neg n1] at h5; split at hn
            · cases hn
            · rename_i n1; rw [if_neg n1] at h5; cases h5
  | some b0 =>
    obtain ⟨n, hb, _⟩ := isi_ok hn
    have pT : PE X (.Name T pT) (tC (.ty n)) := pe_bltn k1 k2 hb rfl k3 k4
    have pa : PA X [a, .Name T _] (tCons (tPk X.K (pkE C E a)) (tCons (tC (.ty n)) tNil)) := pa_cons (pkE_ok c S a) (pa_cons pT pa_nil rfl) (star_cons hs)
    refine PE.imp (pe_callB call_isi g1 g2 PyProof.Rows.boot_isinstance pa g3 g4 (star_cons hs) rfl) fun σ H Q ⟨ρ, Z, en, r, ρ', hm, q⟩ => ?_
    obtain ⟨d, ρ1, h1, h2⟩ := R.bind_ok hm
    obtain ⟨b, ρ2, h3, h4⟩ := R.bind_ok h2
    obtain ⟨h5, rfl⟩ := ofO_ok h3
    cases h4
    obtain ⟨n', hb', hk⟩ := isi_ok h5
    rw [hb] at hb'
    cases hb'
    exact ⟨ρ, Z, en, d, _, h1, fun x H' Z' ex en' px => ⟨x, .ty n, .type (tyP d), .type n, b, rfl, .ty n, px.ty, kit_ty hk, q _ H' Z' ex en' (.fz (.bl b))⟩⟩
theorem noSuper_ok {o : Expr} {m : Str} {env : Env} {k : Sem Value} (h : noSuper o = true) : attributeBase o m env k = k := by
  cases o <;> first | rfl | cases h
theorem kd_str {d : PyData} {z : Str} (h : kd d = kd (.str z)) : ∃ y, d = .str y := by
  cases d with
  | str y => exact ⟨y, rfl⟩
  | _ => cases h
theorem mt1_ok (c : CtxOk X C) (S : SoundE X C E) (o a : Expr) (m : Str) (apos pos : Pos) (hl : (apos.endLine == pos.line) = true) (hs : starred a = false) (ho : noSuper o = true) :
    PE X (.Call (.Attribute o m apos) [a] [] pos) (tEv X.K fun ρ => (pk2m C E o a ρ).bind fun p ρ' => (ofO (mt1P m p.1 p.2) ρ').bind fun d ρ'' => .ok (d, false) ρ'') := by
  by_cases hm : m = "join"
  · subst hm
    obtain ⟨ta, tb, ha, hb, h⟩ := pk2m_ok c S o a
    refine PE.imp (pe_join ha hb (star1 hs) (noSuper_ok ho) hl) fun σ H Q ⟨ρ, Z, en, r, ρ', hm, q⟩ => ?_
    obtain ⟨p, ρ1, h1, h2⟩ := R.bind_ok hm
    obtain ⟨d, ρ2, h3, h4⟩ := R.bind_ok h2
    obtain ⟨g3, rfl⟩ := ofO_ok h3
    cases h4
    obtain ⟨p1, p2⟩ := p
    unfold mt1P at g3
    rw [if_pos rfl] at g3
    have fin : ∀ (z : Str) (ds : List PyData), p1 = .str z → ((strsP ds).bind fun ys => if joinLen z ys ≤ 16777216 then some (.str (Str.join z ys)) else none) = some d →
        (∀ y H' Z', Pk X.K Z' H' y p2 → ∃ a xs, y = .ref a ∧ (SqL X.K H' a xs ∨ SqT X.K H' a xs) ∧ RpA X.K Z' H' xs ds) →
        tM1 (fun x xs H Q => ∃ a p, ∃ ys : List Str, x = .str a ∧ xs = [.ref p] ∧ (SqL X.K H p (ys.map V.str) ∨ SqT X.K H p (ys.map V.str)) ∧
      (ys.map (·.length)).sum + ys.length * a.length ≤ 16777216 ∧ Q (.str (Txt.join a ys)) H) ta tb σ H Q := fun z ds e1 e2 look => by
      subst e1
      cases hy : strsP ds with
      | none => rw [hy] at e2; cases e2
      | some ys =>
        rw [hy] at e2
        have e2 : (if joinLen z ys ≤ 16777216 then some (PyData.str (Str.join z ys)) else none) = some d := e2
        split at e2
        · rename_i hl
          cases e2
          refine h ρ Z σ H (.str z, p2) _ (fun x H1 => ∃ a, x = .str a) _ en h1 (fun x H1 Z1 d1 px hk => ?_) fun x y H' Z' ex en' px py => ?_
          · obtain ⟨w, rfl⟩ := kd_str hk
            exact ⟨w, px.str⟩
          · obtain ⟨a', xs, rfl, hsq, hr⟩ := look y H' Z' py
            obtain rfl := hr.strs hy
            refine ⟨z, a', ys, px.str, rfl, hsq, ?_, ?_⟩
            · unfold joinLen at hl
              rw [Nat.mul_comm] at hl
              exact hl
            · rw [TL.join_eq]
              exact q _ H' Z' ex en' (.fz (.str _))
        · cases e2
    split at g3
    · rename_i z xs e1 e2
      exact fin z xs e1 g3 fun y H' Z' py => by
        have e2 : p2 = .list xs := e2
        rw [e2] at py
        obtain ⟨a, xs, e, h1, h2⟩ := py.lst
        exact ⟨a, xs, e, .inl h1, h2⟩
    · rename_i z xs e1 e2
      exact fin z xs e1 g3 fun y H' Z' py => by
        have e2 : p2 = .tuple xs := e2
        rw [e2] at py
        obtain ⟨a, xs, e, h1, h2⟩ := py.tup
        exact ⟨a, xs, e, .inr h1, h2⟩
    · cases g3
  · refine PE.no fun σ H Q ⟨ρ, Z, en, r, ρ', h, q⟩ => ?_
    obtain ⟨p, ρ1, h1, h2⟩ := R.bind_ok h
    obtain ⟨d, ρ2, h3, h4⟩ := R.bind_ok h2
    obtain ⟨h5, rfl⟩ := ofO_ok h3
    unfold mt1P at h5
    rw [if_neg hm] at h5
    cases h5
end
end TW

set_option Elab.async false
set_option maxRecDepth 100000
set_option maxHeartbeats 1000000
/-! Tw10: dicts, targets, what is walked. -/
namespace TW
open PySem PySem.Spec PyProof.Rows L2
section
variable {K : PySem.W.Frag} {ρ ρ1 ρ0 : PEnv} {σ σ0 : L2.St} {Z Z1 Z0 : Addr → Prop} {H H1 H0 : Hp}
theorem upd_keepZ {p : Addr} {o : HO} (nz : ¬ Z p) : ∀ a u, Z a → Rd H a u → Rd (upd H p o) a u := fun a u z h => by
  have ne : a ≠ p := fun e => nz (e ▸ z)
  rcases h with h | ⟨ob, h⟩
  · exact .inl (by rw [upd_ne ne]; exact h)
  · exact .inr ⟨ob, by rw [upd_ne ne]; exact h⟩
/-- an object of nobody's is changed -/
theorem EnvR.updF {p : Addr} {o : HO} (e : EnvR K Z ρ σ H) (nz : ¬ Z p) (nm : ¬ Mu ρ σ p) : EnvR K Z ρ σ (upd H p o) where
  zt := fun a z => by
    by_cases q : a = p
    · rw [q, upd_same]; exact fun z => nomatch z
    · rw [upd_ne q]; exact e.zt a z
  len := e.len
  ap := e.ap
  sl := fun i s hs => by
    obtain ⟨v, h1, h2⟩ := e.sl i s hs
    refine ⟨v, h1, ?_⟩
    cases ms : isMutT s.t with
    | true =>
      obtain ⟨a, rfl, na, ha⟩ := h2.mut ms
      have ne : a ≠ p := fun q => nm ⟨i, s, hs, ms, q ▸ h1⟩
      exact .of_mut ms na (ha.mono (fun _ h => h) (upd_keepZ nz) (fun {o'} h => by rw [upd_ne ne]; exact h))
    | false => exact .of_fz ms ((h2.fz ms).mono (fun _ h => h) (upd_keepZ nz))
theorem Ext.updN {s s' : SS} (x : Ext s s') {p : Addr} {o : HO} (hp : s.H p = none) : Ext s { s' with H := upd s'.H p o } :=
  { keep := fun a u h n => by
      have ne : a ≠ p := fun e => by rw [e, hp] at h; cases h
      show upd s'.H p o a = some u
      rw [upd_ne ne]; exact x.keep a u h n
    dom := fun a h => by
      by_cases q : a = p
      · rw [q]; exact hp
      · have h : upd s'.H p o a = none := h
        rw [upd_ne q] at h; exact x.dom a h
    mg := x.mg, og := x.og, lt := x.lt, zm := x.zm, zg := x.zg }
theorem Ext.out {s s' : SS} (x : Ext s s') {p : Addr} (ht : s.H p ≠ none) (hz : ¬ s.Z p) (hm : ¬ s.M p) : ¬ s'.Z p ∧ ¬ s'.M p :=
  ⟨fun z => (x.zg p z).elim hz fun q => q.elim hm ht, fun z => (x.mg p z).elim hm ht⟩
theorem Gr.ex (g : Gr Z H Z1 H1) : Ex ρ σ Z H ρ σ Z1 H1 := g.ext

/-! ### dicts -/
def PsR (K : PySem.W.Frag) (Z : Addr → Prop) (H : Hp) (ps : List (V × V)) (r : List (PyData × PyData)) : Prop := RpA K Z H (ps.map Prod.fst) (r.map Prod.fst) ∧ RpA K Z H (ps.map Prod.snd) (r.map Prod.snd)
theorem mrg_ok : ∀ {r acc z : List (PyData × PyData)} {ps : List (V × V)} {kvs0 : List (Key × V)}, mrg r acc = some z → PsR K Z H ps r → RpK K Z H kvs0 acc →
    ∃ kvs, ps = kvs.map (fun kv => (kV kv.1, kv.2)) ∧ RpK K Z H (mergeK kvs0 kvs) z
  | [], acc, z, ps, kvs0, h, hp, ha => by
    cases h
    cases ps with
    | nil => exact ⟨[], rfl, ha⟩
    | cons p ps => have := hp.1; cases this
  | (d, v) :: r, acc, z, ps, kvs0, h, hp, ha => by
    cases ps with
    | nil => have := hp.1; cases this
    | cons p ps =>
      obtain ⟨x, y⟩ := p
      obtain ⟨p1, p2⟩ := hp
      have p1 : RpA K Z H (x :: ps.map Prod.fst) (d :: r.map Prod.fst) := p1
      have p2 : RpA K Z H (y :: ps.map Prod.snd) (v :: r.map Prod.snd) := p2
      cases p1 with
      | cons a1 b1 => cases p2 with
        | cons a2 b2 =>
          unfold mrg at h
          split at h
          · rename_i k hk
            have ex := keyP_kV (.rp a1) hk
            subst ex
            obtain ⟨kvs, e, hz⟩ := mrg_ok h ⟨b1, b2⟩ (RpK.put (k := k) a2 ha)
            exact ⟨(k, y) :: kvs, by rw [e]; rfl, hz⟩
          · cases h
end
section
variable {X : Cx} {C : Ctx} {E : Ev}
theorem disp_ok (S : SoundE X C E) (pos : Pos) : ∀ (ks : List (Option Expr)) (vs : List Expr), ks.all (·.isSome) = true → ks.length = vs.length → ∃ trs, PPs X pos ks vs trs ∧
    ∀ ρ Z σ H r ρ' (Q : List (V × V) → Hp → Prop), EnvR X.K Z ρ σ H → dispP C E ks vs ρ = .ok r ρ' → (∀ ps H' Z', Ex ρ σ Z H ρ' σ Z' H' → EnvR X.K Z' ρ' σ H' → PsR X.K Z' H' ps r → Q ps H') → tPairs trs σ H Q
  | [], [], _, _ => ⟨[], pps_nil, fun ρ Z σ H r ρ' Q en h q => by cases h; exact q [] H Z .refl en ⟨.nil, .nil⟩⟩
  | some k :: ks, v :: vs, h1, h2 => by
    obtain ⟨trs, ht, hq⟩ := disp_ok S pos ks vs (by simpa using h1) (by simpa using h2)
    refine ⟨_, pps_cons (kpE_ok S k) (kpE_ok S v) ht, fun ρ Z σ H r ρ' Q en h q => ?_⟩
    unfold dispP at h
    obtain ⟨x, ρ1, a1, g1⟩ := R.bind_ok h
    obtain ⟨y, ρ2, a2, g2⟩ := R.bind_ok g1
    obtain ⟨s, ρ3, a3, g3⟩ := R.bind_ok g2
    cases g3
    refine ⟨ρ, Z, en, x, ρ1, a1, fun u H1 Z1 ex1 en1 r1 => ⟨ρ1, Z1, en1, y, ρ2, a2, fun w H2 Z2 ex2 en2 r2 => hq ρ2 Z2 σ H2 s _ _ en2 a3 fun ps H3 Z3 ex3 en3 r3 => ?_⟩⟩
    exact q _ H3 Z3 ((ex1.trans ex2).trans ex3) en3 ⟨.cons ((r1.ext ex2 en1.zm).ext ex3 en2.zm) r3.1, .cons (r2.ext ex3 en2.zm) r3.2⟩
  | none :: _, _, h, _ => by simp at h
  | some _ :: _, [], _, h => by simp at h
  | [], _ :: _, _, h => by simp at h
theorem disp_len : ∀ (ks : List (Option Expr)) (vs : List Expr) (ρ ρ' : PEnv) (r : List (PyData × PyData)), dispP C E ks vs ρ = .ok r ρ' → ks.all (·.isSome) = true ∧ ks.length = vs.length ∧ r.length = ks.length
  | [], [], ρ, ρ', r, h => by cases h; exact ⟨rfl, rfl, rfl⟩
  | some k :: ks, v :: vs, ρ, ρ', r, h => by
    unfold dispP at h
    obtain ⟨x, ρ1, a1, g1⟩ := R.bind_ok h
    obtain ⟨y, ρ2, a2, g2⟩ := R.bind_ok g1
    obtain ⟨s, ρ3, a3, g3⟩ := R.bind_ok g2
    cases g3
    obtain ⟨h1, h2, h3⟩ := disp_len ks vs _ _ _ a3
    exact ⟨by simpa using h1, congrArg (· + 1) h2, congrArg (· + 1) h3⟩
  | none :: _, [], _, _, _, h => by cases h
  | none :: _, _ :: _, _, _, _, h => by cases h
  | some _ :: _, [], _, _, _, h => by cases h
  | [], _ :: _, _, _, _, h => by cases h
theorem dict_ok (S : SoundE X C E) (ks : List (Option Expr)) (vs : List Expr) (pos : Pos) : PE X (.Dict ks vs pos) (tEv X.K fun ρ => if ks.length ≤ 15 then (dispP C E ks vs ρ).bind fun r ρ' => (ofO (mrg r []) ρ').bind fun z ρ'' => .ok (.dict z, true) ρ'' else .no) := by
  by_cases hc : ks.length ≤ 15 ∧ ks.all (·.isSome) = true ∧ ks.length = vs.length
  · obtain ⟨h15, hall, hl⟩ := hc
    cases ks with
    | nil =>
      cases vs with
      | nil =>
        refine PE.imp pe_dnewK fun σ H Q ⟨ρ, Z, en, r, ρ', hm, q⟩ p hp => ?_
        cases hm
        have g : Gr Z H Z (upd H p (.dK [])) := .new hp
        refine q _ _ Z g.ex (g.env en) ?_
        show ∃ a, _
        exact ⟨p, rfl, hp, fun z => en.zt p z hp, fun m => en.muThere m hp, .dct upd_same .nil⟩
      | cons v vs => cases hl
    | cons k ks =>
      obtain ⟨trs, ht, hq⟩ := disp_ok (C := C) S pos (k :: ks) vs hall hl
      refine PE.imp (pe_disp ht hall hl (fun z => nomatch z) h15) fun σ H Q ⟨ρ, Z, en, r, ρ', hm, q⟩ p hp => ?_
      dsimp only at hm
      rw [if_pos h15] at hm
      obtain ⟨rr, ρ1, a1, g1⟩ := R.bind_ok hm
      obtain ⟨z, ρ2, a2, g2⟩ := R.bind_ok g1
      obtain ⟨a3, rfl⟩ := ofO_ok a2
      cases g2
      have g : Gr Z H Z (upd H p (.dK [])) := .new hp
      have hpt : upd H p (.dK []) p ≠ none := by rw [upd_same]; exact fun z => nomatch z
      have nz0 : ¬ Z p := fun z => en.zt p z hp
      have nm0 : ¬ Mu ρ σ p := fun m => en.muThere m hp
      refine hq ρ Z σ _ rr _ _ (g.env en) a1 fun ps H2 Z2 ex2 en2 hps => ?_
      obtain ⟨nz2, nm2⟩ := ex2.out (p := p) hpt nz0 nm0
      obtain ⟨kvs, ep, hk⟩ := mrg_ok a3 hps .nil
      refine ⟨ex2.keep p _ upd_same nm0, kvs, ep, ?_, ?_⟩
      · have e1 := (disp_len _ _ _ _ _ a1).2.2
        have e2 := hps.1.length
        rw [List.length_map, List.length_map, ep, List.length_map] at e2
        omega
      · refine q _ _ Z2 (Ext.updN (g.ex.trans ex2) hp) (en2.updF nz2 nm2) ?_
        show ∃ a, _
        exact ⟨p, rfl, hp, nz2, nm2, .dct upd_same (hk.mono (fun _ h => h) (upd_keepZ nz2))⟩
  · refine PE.no fun σ H Q ⟨ρ, Z, en, r, ρ', hm, q⟩ => ?_
    dsimp only at hm
    split at hm
    · rename_i h15
      obtain ⟨rr, ρ1, a1, g1⟩ := R.bind_ok hm
      obtain ⟨h1, h2, _⟩ := disp_len _ _ _ _ _ a1
      exact hc ⟨h15, h1, h2⟩
    · cases hm
end

/-! ### targets -/
theorem wipe_set {σ : L2.St} {i : Nat} {x : Option V} : ∀ {vs : List Nat}, i ∈ vs → wipe (σ.set i x) vs = wipe σ vs
  | [], h => nomatch h
  | v :: vs, h => by
    unfold wipe
    by_cases e : v = i
    · subst e
      by_cases h2 : v ∈ vs
      · rw [wipe_set h2]
      · have key : ∀ us : List Nat, v ∉ us → wipe (σ.set v x) us = (wipe σ us).set v x := fun us => by
          induction us with
          | nil => intro _; rfl
          | cons u us ih =>
            intro hn
            have h3 : v ≠ u := fun e => hn (e ▸ List.mem_cons_self)
            unfold wipe
            rw [ih fun z => hn (List.mem_cons_of_mem _ z), List.set_comm _ _ h3]
        rw [key vs h2, List.set_set]
    · rw [wipe_set ((List.mem_cons.mp h).resolve_left fun z => e z.symm)]
/-- a value as a slot is to keep it -/
def SvR (K : PySem.W.Frag) (H0 : Hp) (M Z : Addr → Prop) (H : Hp) (v : V) (s : Sl) : Prop := (s.t = .fz ∧ Rp K Z H v s.d) ∨ (s.t = .own ∧ ∃ a, v = .ref a ∧ H0 a = none ∧ ¬ Z a ∧ ¬ M a ∧ At K Z H a s.d)
section
variable {K : PySem.W.Frag} {ρ ρ1 ρ0 : PEnv} {σ σ0 : L2.St} {Z Z1 Z0 : Addr → Prop} {H H1 H0 : Hp}
theorem EnvR.store (e : EnvR K Z ρ σ H) {s0 : SS} (x : Ext s0 (sS ρ σ Z H)) {i : Nat} (hi : i < ρ.length) {v : V} {s : Sl} (hv : SvR K s0.H (Mu ρ σ) Z H v s) : EnvR K Z (ρ.set i (some s)) (σ.set i (some v)) H ∧ Ext s0 (sS (ρ.set i (some s)) (σ.set i (some v)) Z H) := by
  have hi2 : i < σ.length := e.len ▸ hi
  have g1 := get_set (l := ρ) (x := some s) hi
  have g2 := get_set (l := σ) (x := some v) hi2
  have hsl : SlotR K Z H v s := by
    rcases hv with ⟨t, h⟩ | ⟨t, a, rfl, _, nz, _, h⟩
    · exact .of_fz (by rw [t]; rfl) h
    · exact .of_mut (by rw [t]; rfl) nz h
  -- the address of the new slot, if it may change
  have new : isMutT s.t = true → ∃ a, v = .ref a ∧ s0.H a = none ∧ ¬ Mu ρ σ a := fun m => by
    rcases hv with ⟨t, h⟩ | ⟨t, a, rfl, h0, nz, nm, h⟩
    · rw [t] at m; cases m
    · exact ⟨a, rfl, h0, nm⟩
  have nl : isLentT s.t = false := by
    rcases hv with ⟨t, h⟩ | ⟨t, _⟩
    · rw [t]; rfl
    · rw [t]; rfl
  have muI : ∀ a, Mu (ρ.set i (some s)) (σ.set i (some v)) a → Mu ρ σ a ∨ s0.H a = none := fun a ⟨j, u, h1, h2, h3⟩ => by
    rw [g1] at h1
    rw [g2] at h3
    by_cases q : i = j
    · rw [if_pos q] at h1 h3
      cases h1
      obtain ⟨b, e1, e2, _⟩ := new h2
      rw [e1] at h3
      cases h3
      exact .inr e2
    · rw [if_neg q] at h1 h3
      exact .inl ⟨j, u, h1, h2, h3⟩
  refine ⟨⟨e.zt, by rw [List.length_set, List.length_set]; exact e.len, fun j u h => ?_, fun j k s1 s2 a h1 h2 f1 f2 h3 h4 => ?_⟩, ?_⟩
  · rw [g1] at h
    by_cases q : i = j
    · rw [if_pos q] at h
      cases h
      exact ⟨v, by rw [g2, if_pos q], hsl⟩
    · rw [if_neg q] at h
      obtain ⟨w, hw, r⟩ := e.sl j u h
      exact ⟨w, by rw [g2, if_neg q]; exact hw, r⟩
  · rw [g1] at h1 h2
    rw [g2] at h3 h4
    by_cases q : i = j
    · by_cases q2 : i = k
      · rw [← q, ← q2]
      · rw [if_pos q] at h1 h3
        rw [if_neg q2] at h2 h4
        cases h1
        rw [fz_mut] at f1 f2
        obtain ⟨b, e1, _, e3⟩ := new (by simpa using f1)
        rw [e1] at h3
        cases h3
        exact (e3 ⟨k, s2, h2, by simpa using f2, h4⟩).elim
    · by_cases q2 : i = k
      · rw [if_neg q] at h1 h3
        rw [if_pos q2] at h2 h4
        cases h2
        rw [fz_mut] at f1 f2
        obtain ⟨b, e1, _, e3⟩ := new (by simpa using f2)
        rw [e1] at h4
        cases h4
        exact (e3 ⟨j, s1, h1, by simpa using f1, h3⟩).elim
      · rw [if_neg q] at h1 h3
        rw [if_neg q2] at h2 h4
        exact e.ap j k s1 s2 a h1 h2 f1 f2 h3 h4
  · refine { keep := x.keep, dom := x.dom, mg := fun a h => (muI a h).elim (x.mg a) .inr, og := fun a ⟨j, u, h1, h2, h3⟩ => ?_, lt := fun j a ⟨u, h1, h2, h3⟩ => ?_, zm := x.zm, zg := x.zg }
    · rw [g1] at h1
      rw [g2] at h3
      by_cases q : i = j
      · rw [if_pos q] at h1 h3
        cases h1
        obtain ⟨b, e1, e2, _⟩ := new (own_mut h2)
        rw [e1] at h3
        cases h3
        exact .inr e2
      · rw [if_neg q] at h1 h3
        exact x.og a ⟨j, u, h1, h2, h3⟩
    · rw [g1] at h1
      rw [g2] at h3
      by_cases q : i = j
      · rw [if_pos q] at h1
        cases h1
        rw [nl] at h2
        cases h2
      · rw [if_neg q] at h1 h3
        exact x.lt j a ⟨u, h1, h2, h3⟩
end
section
variable {X : Cx} {C : Ctx} {E : Ev}
/-- the slots of the names that are stored are among vs -/
def StoIn (C : Ctx) (vs : List Nat) : Prop := ∀ x i, isSto C x = true → TW.ixN C.N x = some i → i ∈ vs
theorem setSl_ok (c : CtxOk X C) (x : Str) (p : Pos) : (∀ s ρ, setSl C x s ρ = none) ∨ ∃ i, X.N[i]? = some x ∧ Loc X.env.scope x ∧ (X.fn x = true ∨ X.env.scope.names.lookup x = some .local) ∧ (∀ vs, StoIn C vs → i ∈ vs) ∧ ∀ s ρ ρ', setSl C x s ρ = some ρ' → i < ρ.length ∧ ρ' = ρ.set i (some s) := by
  by_cases h : (isSto C x && okNm x) = true
  · cases hi : TW.ixN C.N x with
    | none =>
      refine .inl fun s ρ => ?_
      unfold setSl
      rw [if_pos h, hi]
    | some i =>
      have hx : Loc X.env.scope x ∧ (X.fn x = true ∨ X.env.scope.names.lookup x = some .local) := by
        rw [Bool.and_eq_true] at h
        have h1 := h.1
        unfold isSto at h1
        rw [c.sc] at h1
        split at h1
        · rename_i q; exact ⟨.inl q, .inr q⟩
        · rename_i q; exact ⟨.inr q, .inl (c.own x h1)⟩
        · cases h1
      refine .inr ⟨i, by rw [← c.N]; exact ixN_ok hi, hx.1, hx.2, fun vs hv => hv x i (Bool.and_eq_true _ _ ▸ h).1 hi, fun s ρ ρ' hs => ?_⟩
      unfold setSl at hs
      rw [if_pos h, hi] at hs
      simp only at hs
      split at hs
      · cases hs
      · cases hs
      · rename_i o ho
        cases hs
        exact ⟨some_lt ho, rfl⟩
      · cases hs
  · refine .inl fun s ρ => ?_
    unfold setSl
    rw [if_neg h]
def tgQ (K : PySem.W.Frag) (C : Ctx) (ρ : PEnv) (σ : L2.St) (Z : Addr → Prop) (H : Hp) (ρ' : PEnv) (Q : L2.St → Hp → Prop) : Prop := ∀ σ', Ex ρ σ Z H ρ' σ' Z H → EnvR K Z ρ' σ' H → (∀ vs, StoIn C vs → wipe σ' vs = wipe σ vs) → Q σ' H
theorem names_ok (c : CtxOk X C) : ∀ ts : List Expr, (∀ ds ρ, setNames C ts ds ρ = none) ∨ ∃ t : TGs, PGs X ts t ∧ (assignEach ts X.env).length = ts.length ∧ (assignEach ts X.env).findIdx? (·.1) = none ∧
    ∀ ρ Z σ H ds ρ' vs (Q : L2.St → Hp → Prop), EnvR X.K Z ρ σ H → setNames C ts ds ρ = some ρ' → RpA X.K Z H vs ds → tgQ X.K C ρ σ Z H ρ' Q → t vs σ H Q
  | [] => .inr ⟨gNil, pgs_nil, rfl, rfl, fun ρ Z σ H ds ρ' vs Q en h r q => by
      cases ds with
      | nil => cases h; cases r; exact ⟨rfl, q σ .refl en fun _ _ => rfl⟩
      | cons d ds => cases h⟩
  | e :: ts => by
    cases e with
    | Name x p =>
      rcases setSl_ok c x p with h | ⟨i, h1, h2, h3, h4, h5⟩
      · refine .inl fun ds ρ => ?_
        cases ds with
        | nil => rfl
        | cons d ds => show (setSl C x ⟨.fz, d⟩ ρ).bind _ = none; rw [h]; rfl
      · rcases names_ok c ts with h | ⟨t, ht, hl, hf, hq⟩
        · refine .inl fun ds ρ => ?_
          cases ds with
          | nil => rfl
          | cons d ds =>
            show (setSl C x ⟨.fz, d⟩ ρ).bind _ = none
            cases setSl C x ⟨.fz, d⟩ ρ with
            | none => rfl
            | some ρ1 => exact h ds ρ1
        · refine .inr ⟨_, pgs_cons (pg_name c.nd h1 h2 h3) ht rfl, congrArg (· + 1) hl, ?_, fun ρ Z σ H ds ρ' vs Q en h r q => ?_⟩
          · show List.findIdx? (·.1) ((false, assign (.Name x p) X.env) :: assignEach ts X.env) = none
            rw [List.findIdx?_cons, hf]
            rfl
          · cases ds with
            | nil => cases h
            | cons d ds =>
              cases r with
              | cons r1 r2 =>
                have h : (setSl C x ⟨.fz, d⟩ ρ).bind (fun ρ' => setNames C ts ds ρ') = some ρ' := h
                cases hs : setSl C x ⟨.fz, d⟩ ρ with
                | none => rw [hs] at h; cases h
                | some ρ1 =>
                  rw [hs] at h
                  obtain ⟨hi, rfl⟩ := h5 _ _ _ hs
                  obtain ⟨en1, ex1⟩ := en.store (s0 := sS ρ σ Z H) (s := ⟨.fz, d⟩) .refl hi (.inl ⟨rfl, r1⟩)
                  refine ⟨_, _, rfl, hq _ Z _ H ds ρ' _ Q en1 h r2 fun σ' ex2 en2 hw => q σ' (ex1.trans ex2) en2 fun vs hv => ?_⟩
                  rw [hw vs hv, wipe_set (h4 vs hv)]
    | _ => exact .inl fun ds ρ => by cases ds <;> rfl
/-- a loop's target -/
theorem tg_ok (c : CtxOk X C) (e : Expr) : (∀ d ρ, setTg C e d ρ = none) ∨ ∃ t : TG, PG X e t ∧
    ∀ ρ Z σ H d ρ' v (Q : L2.St → Hp → Prop), EnvR X.K Z ρ σ H → setTg C e d ρ = some ρ' → Rp X.K Z H v d → tgQ X.K C ρ σ Z H ρ' Q → t v σ H Q := by
  cases e with
  | Name x p =>
    rcases setSl_ok c x p with h | ⟨i, h1, h2, h3, h4, h5⟩
    · exact .inl fun d ρ => h _ ρ
    · refine .inr ⟨_, pg_name c.nd h1 h2 h3, fun ρ Z σ H d ρ' v Q en h r q => ?_⟩
      obtain ⟨hi, rfl⟩ := h5 _ _ _ (show setSl C x ⟨.fz, d⟩ ρ = some ρ' from h)
      obtain ⟨en1, ex1⟩ := en.store (s0 := sS ρ σ Z H) (s := ⟨.fz, d⟩) .refl hi (.inl ⟨rfl, r⟩)
      exact q _ ex1 en1 fun vs hv => wipe_set (h4 vs hv)
  | Tuple ts k p =>
    rcases names_ok c ts with h | ⟨t, ht, hl, hf, hq⟩
    · refine .inl fun d ρ => ?_
      cases d with
      | tuple ds => exact h ds ρ
      | _ => rfl
    · refine .inr ⟨_, pg_tup c.calm ht hl hf, fun ρ Z σ H d ρ' v Q en h r q => ?_⟩
      cases d with
      | tuple ds =>
        obtain ⟨a, xs, rfl, hs, hr⟩ := (Pk.rp r).tup
        have h : setNames C ts ds ρ = some ρ' := h
        refine ⟨a, xs, rfl, hs, ?_, hq ρ Z σ H ds ρ' xs Q en h hr q⟩
        rw [hr.length]
        have key : ∀ (ts : List Expr) (ds : List PyData) (ρ ρ' : PEnv), setNames C ts ds ρ = some ρ' → ds.length = ts.length := fun ts => by
          induction ts with
          | nil => intro ds ρ ρ' h; cases ds with
            | nil => rfl
            | cons d ds => cases h
          | cons t ts ih =>
            intro ds ρ ρ' h
            cases ds with
            | nil => cases t <;> cases h
            | cons d ds =>
              cases t with
              | Name x p =>
                have h : (setSl C x ⟨.fz, d⟩ ρ).bind (fun ρ' => setNames C ts ds ρ') = some ρ' := h
                cases hs : setSl C x ⟨.fz, d⟩ ρ with
                | none => rw [hs] at h; cases h
                | some ρ1 => rw [hs] at h; exact congrArg (· + 1) (ih ds ρ1 ρ' h)
              | _ => cases h
        exact key ts ds ρ ρ' h
      | _ => cases h
  | _ => exact .inl fun d ρ => by cases d <;> rfl

/-! ### what is walked -/
def ItOk (K : PySem.W.Frag) (J : It) (ds : List PyData) (Z : Addr → Prop) (H : Hp) : Prop := ∃ (G : Hp → Prop) (Y : Nat → Hp → V → Hp → Prop), Walk J ds.length G Y ∧
  ∀ (Z' : Addr → Prop) H', (∀ a, Z a → Z' a) → (∀ a u, Z a → Rd H a u → Rd H' a u) → G H' ∧ ∀ i x H2 d, Y i H' x H2 → ds[i]? = some d → ∃ Z2, Gr Z' H' Z2 H2 ∧ Rp K Z2 H2 x d
def tIt (K : PySem.W.Frag) (m : PEnv → R (List PyData)) : TI := fun σ H R => ∃ ρ Z, EnvR K Z ρ σ H ∧ ∃ ds ρ', m ρ = .ok ds ρ' ∧ ∀ J H' Z', Ex ρ σ Z H ρ' σ Z' H' → EnvR K Z' ρ' σ H' → ItOk K J ds Z' H' → R J H'
theorem PI.imp {tg e : Expr} {t t' : TI} (h : PI X tg e t) (i : ∀ σ H Q, t' σ H Q → t σ H Q) : PI X tg e t' := ⟨fun pins s σ H R I q => h.run pins s σ H R I (i σ H R q)⟩
theorem PI.no {tg e : Expr} {t : TI} (i : ∀ σ H Q, ¬ t σ H Q) : PI X tg e t := ⟨fun pins s σ H R I q => (i σ H R q).elim⟩
def iAny (K : PySem.W.Frag) (te : TE) : TI := fun σ H R => te σ H fun x H1 => (∃ a, x = .ref a ∧ (∃ xs, SqL K H1 a xs) ∧ R (Itl K a) H1) ∨ (∃ a, x = .ref a ∧ (∃ xs, SqT K H1 a xs) ∧ R (Itt K a) H1) ∨ (∃ z, x = .str z ∧ R (Its z) H1)
theorem pi_any {tg l : Expr} {tl : TE} (hl : PE X l tl) : PI X tg l (iAny X.K tl) := by
  refine ⟨fun pins s σ H R I h => ?_⟩
  refine thn (hl.run pins s σ H _ I h) fun v s1 ⟨x, H1, I1, r1, q1⟩ => ?_
  rcases q1 with q1 | q1 | q1
  · obtain ⟨a, e, ⟨xs, hq⟩, q⟩ := q1
    subst e
    cases r1
    obtain ⟨its, rv, p, hz⟩ := I1.list hq
    refine wpAny_pyIter_list p.isList ?_
    refine ⟨s1.heap.objs.size, [s1.heap.objs.size], _, _, H1, rfl, I1.kept (t' := s1.toks) fun b o e => Heap.get?_push_of_some _ e, turn_list a _, ⟨_, Heap.get?_push_size _ rfl, rfl, rfl⟩, fun b hb => ?_, q⟩
    have e : b = s1.heap.objs.size := by simpa using hb
    subst e
    exact I1.fpOk (Nat.le_refl _) (I1.hok.fresh (Nat.le_refl _))
  · obtain ⟨a, e, ⟨xs, hq⟩, q⟩ := q1
    subst e
    cases r1
    obtain ⟨its, rv, p, hz⟩ := I1.tuple hq
    refine wpAny_pyIter_tuple (show s1.heap.IsTuple a its.toArray from p) ?_
    refine ⟨s1.heap.objs.size, [s1.heap.objs.size], _, _, H1, rfl, I1.kept (t' := s1.toks) fun b o e => Heap.get?_push_of_some _ e, turn_tuple a _, ⟨_, Heap.get?_push_size _ rfl, rfl, rfl⟩, fun b hb => ?_, q⟩
    have e : b = s1.heap.objs.size := by simpa using hb
    subst e
    exact I1.fpOk (Nat.le_refl _) (I1.hok.fresh (Nat.le_refl _))
  · obtain ⟨x, ex, q⟩ := q1
    subst ex
    obtain ⟨t, rfl⟩ := r1
    cases ha : x.cps.all (· < 128)
    · exact wpAny_pyIter_wide ha (pi_one (tk := s1.toks) I1 _ (turn_str _ x t "str_iterator" (.inr rfl)) ⟨_, Heap.get?_push_size _ rfl, rfl, rfl⟩ q)
    · exact wpAny_pyIter_ascii ha (pi_one (tk := s1.toks) I1 _ (turn_str _ x t "str_ascii_iterator" (.inl rfl)) ⟨_, Heap.get?_push_size _ rfl, rfl, rfl⟩ q)
theorem it_list {K : PySem.W.Frag} {Z : Addr → Prop} {H : Hp} {a : Addr} {xs : List V} {ds : List PyData} (h : (Z a ∧ Rd H a (.lst xs)) ∨ LstK K a xs) (r : RpA K Z H xs ds) : ItOk K (Itl K a) ds Z H := by
  refine ⟨fun H => SqL K H a xs, YAt xs, r.length ▸ walk_list, fun Z' H' hz hk => ⟨h.elim (fun h => .inl (hk a _ h.1 h.2)) .inr, fun i x H2 d y hd => ?_⟩⟩
  obtain ⟨rfl, hx⟩ := y
  obtain ⟨v, h1, h2⟩ := r.get hd
  rw [hx] at h1
  cases h1
  exact ⟨Z', .refl, h2.mono hz hk⟩
theorem it_tup {K : PySem.W.Frag} {Z : Addr → Prop} {H : Hp} {a : Addr} {xs : List V} {ds : List PyData} (h : (Z a ∧ Rd H a (.tup xs)) ∨ TupK K a xs) (r : RpA K Z H xs ds) : ItOk K (Itt K a) ds Z H := by
  refine ⟨fun H => SqT K H a xs, YAt xs, r.length ▸ walk_tup, fun Z' H' hz hk => ⟨?_, fun i x H2 d y hd => ?_⟩⟩
  · rcases h with ⟨z, h⟩ | h
    · exact .inl (hk a _ z h)
    · exact .inr h
  · obtain ⟨rfl, hx⟩ := y
    obtain ⟨v, h1, h2⟩ := r.get hd
    rw [hx] at h1
    cases h1
    exact ⟨Z', .refl, h2.mono hz hk⟩
theorem it_str {K : PySem.W.Frag} {Z : Addr → Prop} {H : Hp} {z : Str} : ItOk K (Its z) (z.cps.toList.map fun c => .str ⟨#[c]⟩) Z H := by
  refine ⟨fun _ => True, _, (by rw [List.length_map, Array.length_toList]; exact walk_str), fun Z' H' hz hk => ⟨True.intro, fun i x H2 d y hd => ?_⟩⟩
  obtain ⟨rfl, c, hc, rfl⟩ := y
  rw [List.getElem?_map, Array.getElem?_toList, hc] at hd
  cases hd
  exact ⟨Z', .refl, .str _⟩
theorem it_rng {K : PySem.W.Frag} {Z : Addr → Prop} {H : Hp} {a b : Int} : ItOk K (Itr a (b - a).toNat) (rngL a b) Z H := by
  have hl : (rngL a b).length = (b - a).toNat := by unfold rngL; rw [List.length_map, List.length_range]
  refine ⟨fun _ => True, YFn fun i => .int (a + i), hl ▸ walk_range, fun Z' H' hz hk => ⟨True.intro, fun i x H2 d y hd => ?_⟩⟩
  obtain ⟨rfl, rfl⟩ := y
  unfold rngL at hd
  rw [List.getElem?_map] at hd
  cases h : (List.range (b - a).toNat)[i]? with
  | none => rw [h] at hd; cases hd
  | some j =>
    rw [h] at hd
    cases hd
    have e : j = i := by
      rw [List.getElem?_eq_some_iff] at h
      obtain ⟨h1, h2⟩ := h
      rw [List.getElem_range] at h2
      exact h2.symm
    subst e
    exact ⟨Z', .refl, .int _⟩
theorem rngOk_ok {a b : Int} (h : rngOk a b = true) : -(2 ^ 62) ≤ a ∧ a < 2 ^ 62 ∧ -(2 ^ 62) ≤ b ∧ b < 2 ^ 62 := by
  unfold rngOk at h
  simp only [Bool.and_eq_true, decide_eq_true_eq] at h
  exact ⟨h.1.1.1, h.1.1.2, h.1.2, h.2⟩
/-- of any kind, by its value -/
theorem iterV_ok (S : SoundE X C E) (tg e : Expr) : PI X tg e (tIt X.K (iterV E e)) := by
  refine PI.imp (pi_any (S.ev e)) fun σ H _ ⟨ρ, Z, en, ds, ρ', hm, q⟩ => ?_
  obtain ⟨⟨v, f⟩, ρ1, h1, h2⟩ := R.bind_ok hm
  obtain ⟨h3, rfl⟩ := ofO_ok h2
  refine ⟨ρ, Z, en, (v, f), _, h1, fun u H' Z' ex en' hv => ?_⟩
  have hd : isDc v = false := by
    cases v with
    | dict _ => cases h3
    | _ => rfl
  obtain ⟨Z2, ex2, en2, r⟩ := hv.keep hd en' ex fun _ h => h
  cases v with
  | list xs =>
    cases h3
    cases r with
    | lst z h r => exact .inl ⟨_, rfl, ⟨_, .inl h⟩, q _ H' Z2 ex2 en2 (it_list (.inl ⟨z, h⟩) r)⟩
    | lstK h r => exact .inl ⟨_, rfl, ⟨_, .inr h⟩, q _ H' Z2 ex2 en2 (it_list (.inr h) r)⟩
  | tuple xs =>
    cases h3
    cases r with
    | tup z h r => exact .inr (.inl ⟨_, rfl, ⟨_, .inl h⟩, q _ H' Z2 ex2 en2 (it_tup (.inl ⟨z, h⟩) r)⟩)
    | tupK h r => exact .inr (.inl ⟨_, rfl, ⟨_, .inr h⟩, q _ H' Z2 ex2 en2 (it_tup (.inr h) r)⟩)
  | str z =>
    cases h3
    cases r
    exact .inr (.inr ⟨z, rfl, q _ H' Z2 ex2 en2 it_str⟩)
  | _ => cases h3
theorem rng1_ok (c : CtxOk X C) (S : SoundE X C E) (tg a : Expr) (p pos : Pos) (hf : isBlt C "range" = true) (hs : starred a = false) : PI X tg (.Call (.Name "range" p) [a] [] pos) (tIt X.K fun ρ => (E.ev a ρ).bind fun v ρ' => match v.1 with
      | .int n => if rngOk 0 n then .ok (rngL 0 n) ρ' else .no
      | _ => .no) := by
  obtain ⟨g1, g2, _, _⟩ := glOf c hf
  refine PI.imp (pi_range1 g1 g2 (pa_cons (S.ev a) pa_nil (star_cons hs)) (star1 hs)) fun σ H _ ⟨ρ, Z, en, ds, ρ', hm, q⟩ => ?_
  obtain ⟨⟨v, f⟩, ρ1, h1, h2⟩ := R.bind_ok hm
  refine ⟨ρ, Z, en, (v, f), ρ1, h1, fun u H' Z' ex en' hv => ?_⟩
  cases v with
  | int n =>
    dsimp only at h2
    split at h2
    · rename_i hk
      cases h2
      have k := rngOk_ok hk
      refine ⟨n, by rw [hv.pk.int], k.2.2.1, k.2.2.2, q _ H' Z' ex en' ?_⟩
      have w := it_rng (K := X.K) (Z := Z') (H := H') (a := 0) (b := n)
      rw [Int.sub_zero] at w
      exact w
    · cases h2
  | _ => cases h2
theorem rng2_ok (c : CtxOk X C) (S : SoundE X C E) (tg a b : Expr) (p pos : Pos) (hf : isBlt C "range" = true) (hs : starred a = false) (hs2 : starred b = false) : PI X tg (.Call (.Name "range" p) [a, b] [] pos) (tIt X.K fun ρ => (E.ev a ρ).bind fun v ρ1 => (E.ev b ρ1).bind fun u ρ2 => match v.1, u.1 with
      | .int i, .int j => if rngOk i j then .ok (rngL i j) ρ2 else .no
      | _, _ => .no) := by
  obtain ⟨g1, g2, _, _⟩ := glOf c hf
  refine PI.imp (pi_range2 g1 g2 (pa_cons (S.ev a) (pa_cons (S.ev b) pa_nil (star_cons hs2)) (star_cons hs)) (by rw [star_cons hs, star1 hs2]) (star1 hs2)) fun σ H _ ⟨ρ, Z, en, ds, ρ', hm, q⟩ => ?_
  obtain ⟨⟨v, f⟩, ρ1, h1, h2⟩ := R.bind_ok hm
  obtain ⟨⟨w, f'⟩, ρ2, h3, h4⟩ := R.bind_ok h2
  refine ⟨ρ, Z, en, (v, f), ρ1, h1, fun u H' Z' ex en' hv => ⟨ρ1, Z', en', (w, f'), ρ2, h3, fun u2 H2 Z2 ex2 en2 hw => ?_⟩⟩
  cases v with
  | int i =>
    cases w with
    | int j =>
      dsimp only at h4
      split at h4
      · rename_i hk
        cases h4
        exact ⟨i, j, by rw [hv.pk.int, hw.pk.int], rngOk_ok hk, q _ H2 Z2 (ex.trans ex2) en2 it_rng⟩
      · cases h4
    | _ => cases h4
  | _ => cases h4
theorem iter_ok (c : CtxOk X C) (S : SoundE X C E) (tg e : Expr) : PI X tg e (tIt X.K (iterP C E e)) := by
  have gen : iterP C E e = iterV E e → PI X tg e (tIt X.K (iterP C E e)) := fun h => by rw [h]; exact iterV_ok S tg e
  unfold iterP
  split
  · rename_i f p a pos
    by_cases h : ((decide (f = "range") && isBlt C f) && !starred a) = true
    · simp only [h, if_true]
      simp only [Bool.and_eq_true, decide_eq_true_eq, Bool.not_eq_true'] at h
      obtain ⟨⟨rfl, h1⟩, h2⟩ := h
      exact rng1_ok c S tg a p pos h1 h2
    · simp only [h]
      exact iterV_ok S tg _
  · rename_i f p a b pos
    by_cases h : (((decide (f = "range") && isBlt C f) && !starred a) && !starred b) = true
    · simp only [h, if_true]
      simp only [Bool.and_eq_true, decide_eq_true_eq, Bool.not_eq_true'] at h
      obtain ⟨⟨⟨rfl, h1⟩, h2⟩, h3⟩ := h
      exact rng2_ok c S tg a b p pos h1 h2 h3
    · simp only [h]
      exact iterV_ok S tg _
  · exact iterV_ok S tg _
end
end TW

set_option Elab.async false
set_option maxRecDepth 100000
set_option maxHeartbeats 1000000
/-! Tw11: comprehensions; the step of an expression. -/
namespace TW
open PySem PySem.Spec PyProof.Rows L2
/-! ### hidden slots -/
theorem wipeP_some {s : Sl} {j : Nat} {ρ : PEnv} : ∀ {vs : List Nat}, (wipeP ρ vs)[j]? = some (some s) → j ∉ vs ∧ ρ[j]? = some (some s)
  | [], h => ⟨(fun z => nomatch z), h⟩
  | v :: vs, h => by
    unfold wipeP at h
    rw [List.getElem?_set] at h
    by_cases q : v = j
    · rw [if_pos q] at h; split at h <;> cases h
    · rw [if_neg q] at h
      obtain ⟨h1, h2⟩ := wipeP_some h
      exact ⟨fun z => (List.mem_cons.mp z).elim (fun e => q e.symm) h1, h2⟩
theorem wipeP_length (ρ : PEnv) : ∀ vs : List Nat, (wipeP ρ vs).length = ρ.length
  | [] => rfl
  | v :: vs => by unfold wipeP; rw [List.length_set, wipeP_length ρ vs]
theorem unhide_some {s : Sl} {j : Nat} {ρ0 ρ : PEnv} : ∀ {vs : List Nat}, (unhide ρ0 vs ρ)[j]? = some (some s) → (j ∈ vs ∧ ρ0[j]? = some (some s)) ∨ (j ∉ vs ∧ ρ[j]? = some (some s))
  | [], h => .inr ⟨(fun z => nomatch z), h⟩
  | v :: vs, h => by
    unfold unhide at h
    rw [List.getElem?_set] at h
    by_cases q : v = j
    · rw [if_pos q] at h
      split at h
      · have h := Option.some.inj h
        refine .inl ⟨q ▸ List.mem_cons_self, ?_⟩
        rw [q] at h
        cases e : ρ0[j]? with
        | none => rw [e] at h; cases h
        | some o => rw [e] at h; exact congrArg some h
      · cases h
    · rw [if_neg q] at h
      rcases unhide_some h with ⟨h1, h2⟩ | ⟨h1, h2⟩
      · exact .inl ⟨List.mem_cons_of_mem _ h1, h2⟩
      · exact .inr ⟨fun z => (List.mem_cons.mp z).elim (fun e => q e.symm) h1, h2⟩
theorem unhide_length (ρ0 ρ : PEnv) : ∀ vs : List Nat, (unhide ρ0 vs ρ).length = ρ.length
  | [] => rfl
  | v :: vs => by unfold unhide; rw [List.length_set, unhide_length ρ0 ρ vs]
theorem hidOk_ok {ρ : PEnv} {vs : List Nat} (h : hidOk ρ vs = true) {j : Nat} {s : Sl} (hj : j ∈ vs) (hs : ρ[j]? = some (some s)) : s.t = .fz := by
  unfold hidOk at h
  have h1 := List.all_eq_true.mp h j hj
  rw [hs] at h1
  obtain ⟨t, d⟩ := s
  cases t <;> first | rfl | cases h1
section
variable {K : PySem.W.Frag} {ρ ρ1 ρ0 : PEnv} {σ σ' σ0 : L2.St} {Z Z1 Z0 : Addr → Prop} {H H1 H0 : Hp}
theorem EnvR.hid (e : EnvR K Z ρ σ H) (vs : List Nat) (h1 : ∀ j, j ∉ vs → σ'[j]? = σ[j]?) (h2 : σ'.length = σ.length) : EnvR K Z (wipeP ρ vs) σ' H ∧ Ex ρ σ Z H (wipeP ρ vs) σ' Z H := by
  have back : ∀ {j : Nat} {s : Sl}, (wipeP ρ vs)[j]? = some (some s) → ρ[j]? = some (some s) ∧ σ'[j]? = σ[j]? := fun {j s} h =>
    let ⟨a, b⟩ := wipeP_some h
    ⟨b, h1 j a⟩
  refine ⟨⟨e.zt, by rw [wipeP_length, h2]; exact e.len, fun i s h => ?_, fun i j s u a a1 a2 f1 f2 a3 a4 => ?_⟩, ?_⟩
  · obtain ⟨b1, b2⟩ := back h
    rw [b2]
    exact e.sl i s b1
  · obtain ⟨b1, b2⟩ := back a1
    obtain ⟨c1, c2⟩ := back a2
    rw [b2] at a3
    rw [c2] at a4
    exact e.ap i j s u a b1 c1 f1 f2 a3 a4
  · exact { keep := fun _ _ h _ => h
            dom := fun _ h => h
            mg := fun a ⟨i, s, a1, a2, a3⟩ => by
              obtain ⟨b1, b2⟩ := back a1
              rw [b2] at a3
              exact .inl ⟨i, s, b1, a2, a3⟩
            og := fun a ⟨i, s, a1, a2, a3⟩ => by
              obtain ⟨b1, b2⟩ := back a1
              rw [b2] at a3
              exact .inl ⟨i, s, b1, a2, a3⟩
            lt := fun i a ⟨s, a1, a2, a3⟩ => by
              obtain ⟨b1, b2⟩ := back a1
              rw [b2] at a3
              exact ⟨s, b1, a2, a3⟩
            zm := fun _ h => h
            zg := fun _ h => .inl h }
/-- the hidden slots come back -/
theorem EnvR.unh {vs : List Nat} (e : EnvR K Z ρ (wipe σ vs) H) (e1 : EnvR K Z1 ρ1 σ H1) (hh : hidOk ρ1 vs = true) (x : Ex ρ1 σ Z1 H1 ρ (wipe σ vs) Z H) : EnvR K Z (unhide ρ1 vs ρ) σ H ∧ Ex ρ1 σ Z1 H1 (unhide ρ1 vs ρ) σ Z H ∧ ∀ a, Mu (unhide ρ1 vs ρ) σ a → Mu ρ (wipe σ vs) a := by
  have mu : ∀ {j : Nat} {s : Sl} {a : Addr}, (unhide ρ1 vs ρ)[j]? = some (some s) → isFz s.t = false ∨ isLentT s.t = true → σ[j]? = some (some (V.ref a)) → ρ[j]? = some (some s) ∧ (wipe σ vs)[j]? = some (some (V.ref a)) := fun {j s a} h f h2 => by
    rcases unhide_some h with ⟨h1, h3⟩ | ⟨h1, h3⟩
    · have := hidOk_ok hh h1 h3
      rw [this] at f
      rcases f with f | f <;> cases f
    · exact ⟨h3, by rw [wipe_out h1]; exact h2⟩
  have muA : ∀ a, Mu (unhide ρ1 vs ρ) σ a → Mu ρ (wipe σ vs) a := fun a ⟨j, s, a1, a2, a3⟩ => by
    obtain ⟨b1, b2⟩ := mu a1 (.inl (by rw [fz_mut, a2]; rfl)) a3
    exact ⟨j, s, b1, a2, b2⟩
  refine ⟨⟨e.zt, by rw [unhide_length, e.len, wipe_length], fun i s h => ?_, fun i j s u a a1 a2 f1 f2 a3 a4 => ?_⟩, { keep := x.keep, dom := x.dom, mg := fun a h => x.mg a (muA a h), og := fun a ⟨j, s, a1, a2, a3⟩ => ?_, lt := fun j a ⟨s, a1, a2, a3⟩ => ?_, zm := x.zm, zg := x.zg }, muA⟩
  · rcases unhide_some h with ⟨h1, h3⟩ | ⟨h1, h3⟩
    · have ht := hidOk_ok hh h1 h3
      obtain ⟨v, h4, h5⟩ := e1.sl i s h3
      refine ⟨v, h4, .of_fz (by rw [ht]; rfl) ?_⟩
      exact (h5.fz (by rw [ht]; rfl)).ext x e1.zm
    · obtain ⟨v, h4, h5⟩ := e.sl i s h3
      rw [wipe_out h1] at h4
      exact ⟨v, h4, h5⟩
  · obtain ⟨b1, b2⟩ := mu a1 (.inl f1) a3
    obtain ⟨c1, c2⟩ := mu a2 (.inl f2) a4
    exact e.ap i j s u a b1 c1 f1 f2 b2 c2
  · obtain ⟨b1, b2⟩ := mu a1 (.inl (by rw [fz_mut, own_mut a2]; rfl)) a3
    exact x.og a ⟨j, s, b1, a2, b2⟩
  · obtain ⟨b1, b2⟩ := mu a1 (.inr a2) a3
    exact x.lt j a ⟨s, b1, a2, b2⟩
end
/-! ### the block's context -/
theorem relS_lookup {scope sc : Scope} {x : Str} {k : NameKind} (h : (relS scope sc).names.lookup x = some k) : ∃ k0, scope.names.lookup x = some k0 ∧ (k0 = k ∨ (k0 = .free ∧ k = .cell)) := by
  have key : ∀ l : List (Str × NameKind), (l.map fun (n, k) => if (k == NameKind.free && sc.kind == .function && sc.names.lookup n == some .cell) then (n, NameKind.cell) else (n, k)).lookup x = some k → ∃ k0, l.lookup x = some k0 ∧ (k0 = k ∨ (k0 = .free ∧ k = .cell)) := fun l => by
    induction l with
    | nil => intro h; cases h
    | cons y l ih =>
      obtain ⟨n, k1⟩ := y
      intro h
      rw [List.map_cons] at h
      by_cases q : (k1 == NameKind.free && sc.kind == .function && sc.names.lookup n == some .cell) = true
      · simp only [q, if_true] at h
        rw [List.lookup_cons] at h ⊢
        cases e : x == n with
        | true =>
          rw [e] at h
          refine ⟨k1, rfl, .inr ⟨?_, (Option.some.inj h).symm⟩⟩
          simp only [Bool.and_eq_true] at q
          have := q.1.1
          cases k1 <;> first | rfl | cases this
        | false => rw [e] at h; exact ih h
      · simp only [q] at h
        rw [List.lookup_cons]
        have h : List.lookup x ((n, k1) :: _) = some k := h
        rw [List.lookup_cons] at h
        cases e : x == n with
        | true => rw [e] at h; exact ⟨k1, rfl, .inl (Option.some.inj h)⟩
        | false => rw [e] at h; exact ih h
  exact key _ h
theorem lookup_memK : ∀ {l : List (Str × NameKind)} {x : Str} {k : NameKind}, l.lookup x = some k → (x, k) ∈ l
  | [], _, _, h => by cases h
  | (n, k1) :: l, x, k, h => by
    rw [List.lookup_cons] at h
    cases e : x == n with
    | true =>
      rw [e] at h
      have e1 : x = n := by simpa using e
      have e2 : k1 = k := Option.some.inj h
      subst e1 e2
      exact List.mem_cons_self
    | false => rw [e] at h; exact List.mem_cons_of_mem _ (lookup_memK h)
section
variable {X : Cx} {C : Ctx}
theorem CtxOk.blk (c : CtxOk X C) (scope : Scope) (s : Shared) (H : Hp) (A : Addr) (cl : List (Str × Addr)) (fp : List Addr) : CtxOk (X.blk s H scope (compEnvC scope cl A X.env) fp) (inBlk C scope) where
  N := c.N
  sc := by
    show relS scope C.sc = relabel scope X.env
    rw [c.sc]
    rfl
  nd := c.nd
  calm := c.calm
  hu := c.hu
  po := PassesOwn.never
  glo := c.glo
  blt := c.blt
  gcd := c.gcd
  own := fun x h => h
  call := c.call
theorem stoIn_blk (scope : Scope) : StoIn (inBlk C scope) ((ownOf C.N scope).map (·.2)) := by
  intro x i h hi
  have hi : TW.ixN C.N x = some i := hi
  have mem : ∀ k, (k = NameKind.local ∨ k = .cell) → scope.names.lookup x = some k → i ∈ (ownOf C.N scope).map (·.2) := fun k hk hl => by
    refine List.mem_map.mpr ⟨(x, i), List.mem_filterMap.mpr ⟨(x, k), lookup_memK hl, ?_⟩, rfl⟩
    rcases hk with rfl | rfl
    · show (TW.ixN C.N x).map _ = _
      rw [hi]; rfl
    · show (TW.ixN C.N x).map _ = _
      rw [hi]; rfl
  unfold isSto at h
  split at h
  · rename_i q
    obtain ⟨k0, h1, h2 | ⟨_, h2⟩⟩ := relS_lookup (show (relS scope C.sc).names.lookup x = _ from q)
    · exact mem _ (.inl h2) h1
    · cases h2
  · have h : (scope.names.lookup x == some .cell) = true := h
    have h : scope.names.lookup x = some .cell := by
      cases e : scope.names.lookup x with
      | none => rw [e] at h; cases h
      | some k => rw [e] at h; cases k <;> first | rfl | cases h
    exact mem _ (.inr rfl) h
  · cases h
def tTg (K : PySem.W.Frag) (C : Ctx) (e : Expr) : TG := fun v σ H Q => ∃ ρ Z d ρ', EnvR K Z ρ σ H ∧ setTg C e d ρ = some ρ' ∧ Rp K Z H v d ∧ tgQ K C ρ σ Z H ρ' Q
theorem tgT_ok (c : CtxOk X C) (e : Expr) : PG X e (tTg X.K C e) := by
  rcases tg_ok c e with h | ⟨t, ht, hq⟩
  · exact ⟨fun pins s σ H v u Q I r ⟨ρ, Z, d, ρ', en, hs, _⟩ => by rw [h] at hs; cases hs⟩
  · exact ⟨fun pins s σ H v u Q I r ⟨ρ, Z, d, ρ', en, hs, rp, q⟩ => ht.run pins s σ H v u Q I r (hq ρ Z σ H d ρ' v Q en hs rp q)⟩
def tTests (K : PySem.W.Frag) (E : Ev) (ifs : List Expr) : TT := match ifs with
  | [] => tYes
  | [c] => tTs K (E.ts c)
  | _ => fun _ _ _ => False
theorem tests_ok {E : Ev} (S : SoundE X C E) (ifs : List Expr) : PTs X ifs (tTests X.K E ifs) := by
  match ifs with
  | [] => exact pts_nil
  | [c] => exact pts_one (S.ts c)
  | _ :: _ :: _ => exact ⟨fun pins s σ H Q I h => h.elim⟩
theorem tests_dyn {K : PySem.W.Frag} {Z : Addr → Prop} {σ : L2.St} {H : Hp} (E : Ev) (ifs : List Expr) (ρ ρ' : PEnv) (b : Bool) (h : (match ifs with
      | [] => R.ok true ρ
      | [c] => E.ts c ρ
      | _ => R.no) = .ok b ρ') (en : EnvR K Z ρ σ H) (Q : Bool → Hp → Prop) (q : ∀ H' Z', Ex ρ σ Z H ρ' σ Z' H' → EnvR K Z' ρ' σ H' → Q b H') : tTests K E ifs σ H Q := by
  match ifs, h with
  | [], h => cases h; exact q H Z .refl en
  | [cd], h => exact ⟨ρ, Z, en, b, ρ', h, fun H3 Z3 exb enb => q H3 Z3 exb enb⟩
  | _ :: _ :: _, h => cases h
theorem noSetF {e : Expr} {env : Env} (h : noSet e = true) : ∀ x, foldedSetIterable e env x = pure x := fun x => by
  cases e <;> first | rfl | cases h
/-- a comprehension's value -/
def lcF (C : Ctx) (E : Ctx → Ev) (el tg it : Expr) (ifs : List Expr) (scope : Scope) : PEnv → R VR := (fun ρ => if L2.blkC C.N C.sc scope (ownOf C.N scope) && noSet it then (iterP C (E C) it ρ).bind fun xs ρ1 =>
      if hidOk ρ1 ((ownOf C.N scope).map (·.2)) then
        (compGo (inBlk C scope) (E (inBlk C scope)) tg ifs el ((ownOf C.N scope).map (·.2)) xs [] (wipeP ρ1 ((ownOf C.N scope).map (·.2)))).bind fun ds ρ2 =>
          .ok (.list ds, true) (unhide ρ1 ((ownOf C.N scope).map (·.2)) ρ2)
      else .no
    else .no)
theorem lc_dyn (E : Ctx → Ev) (el tg it : Expr) (ifs : List Expr) (scope : Scope) (hb : (L2.blkC C.N C.sc scope (ownOf C.N scope) && noSet it) = true) (K : PySem.W.Frag) (σ : L2.St) (H : Hp) (Q : VK) (h : tEv K (lcF C E el tg it ifs scope) σ H Q) :
    tLc (tIt K (iterP C (E C) it)) (tTg K (inBlk C scope) tg) (tTests K (E (inBlk C scope)) ifs) (tKp K (kpE (E (inBlk C scope)) el)) ((ownOf C.N scope).map (·.2)) σ H Q := by
  obtain ⟨ρ, Z, en, r, ρ', hm, q⟩ := h
  unfold lcF at hm
  generalize hvs : (ownOf C.N scope).map (·.2) = vs at hm ⊢
  rw [if_pos hb] at hm
  obtain ⟨xs, ρ1, a1, g1⟩ := R.bind_ok hm
  split at g1
  · rename_i hh
    obtain ⟨ds, ρ2, a2, g2⟩ := R.bind_ok g1
    cases g2
    refine ⟨ρ, Z, en, xs, ρ1, a1, fun J H1 Z1 ex1 en1 ⟨G, Y, w, hw⟩ D hD => ?_⟩
    have hDu : upd H1 D (.lst []) D ≠ none := by rw [upd_same]; exact fun z => nomatch z
    obtain ⟨enW, exW⟩ := en1.hid vs (σ' := wipe σ vs) (fun j hj => wipe_out hj) (wipe_length σ vs)
    have gN : Gr Z1 H1 Z1 (upd H1 D (.lst [])) := .new hD
    have enN : EnvR K Z1 (wipeP ρ1 vs) (wipe σ vs) (upd H1 D (.lst [])) := gN.env enW
    refine lc_it w (fun i H' => ∃ acc vals ρi Zi, H' D = some (.lst vals) ∧ RpA K Zi H' vals acc ∧ EnvR K Zi ρi (wipe σ vs) H' ∧ ¬ Zi D ∧ ¬ Mu ρi (wipe σ vs) D ∧ Ext (sS (wipeP ρ1 vs) (wipe σ vs) Z1 H1) (sS ρi (wipe σ vs) Zi H') ∧ compGo (inBlk C scope) (E (inBlk C scope)) tg ifs el vs (xs.drop i) acc ρi = .ok ds ρ2) ?_ ?_ ?_ ?_
    · exact ⟨[], [], _, Z1, upd_same, .nil, enN, fun z => en1.zt D z hD, fun m => enW.muThere m hD, gN.ex, a2⟩
    · rintro i H' hi ⟨acc, vals, ρi, Zi, hd, hr, eni, nz, nm, exi, hgo⟩
      exact (hw Zi H' exi.zm fun a u z h => rd_ext exi (enW.zm a z) h).1
    · rintro i x H' H2 hi ⟨acc, vals, ρi, Zi, hd, hr, eni, nz, nm, exi, hgo⟩ hy
      have hx : xs[i]? = some xs[i] := List.getElem?_eq_getElem hi
      rw [List.drop_eq_getElem_cons hi] at hgo
      generalize xs[i] = d at hx hgo
      obtain ⟨Z2, g2, rx⟩ := (hw Zi H' exi.zm fun a u z h => rd_ext exi (enW.zm a z) h).2 i x H2 d hy hx
      have en2 := g2.env eni
      obtain ⟨en3, ex3⟩ := en2.hid vs (σ' := wipe σ vs) (fun j hj => rfl) rfl
      unfold compGo at hgo
      split at hgo
      · cases hgo
      · rename_i ρa hset
        refine ⟨wipeP ρi vs, Z2, d, ρa, en3, hset, rx, fun σ2 exa ena hwp => ?_⟩
        have ew : wipe σ2 vs = wipe σ vs := by
          have w1 := hwp vs (hvs ▸ stoIn_blk scope)
          have w2 : wipe (wipe σ vs) vs = wipe σ vs := by
            apply List.ext_getElem?
            intro j
            by_cases hj : j ∈ vs
            · have k1 : ∀ (τ : L2.St) (us : List Nat), j ∈ us → (wipe τ us)[j]? = if j < τ.length then some none else none := fun τ us => by
                induction us with
                | nil => intro z; cases z
                | cons u us ih =>
                  intro z
                  unfold wipe
                  rw [List.getElem?_set, wipe_length]
                  by_cases q : u = j
                  · rw [if_pos q, q]
                  · rw [if_neg q]
                    exact ih ((List.mem_cons.mp z).resolve_left fun e => q e.symm)
              rw [k1 _ vs hj, k1 _ vs hj, wipe_length]
            · rw [wipe_out hj]
          rw [w1, w2]
        refine ⟨ew, ?_⟩
        obtain ⟨b, ρb, t1, t2⟩ := R.bind_ok hgo
        -- all up to the store
        have exS : Ext (sS ρi (wipe σ vs) Zi H') (sS ρa σ2 Z2 H2) := (g2.ex.trans ex3).trans exa
        have hdu : H' D ≠ none := by rw [hd]; exact fun z => nomatch z
        have hdS : H2 D = some (.lst vals) := g2.keep D _ hd
        have hrS := g2.rpA hr
        -- behind the tests
        have tail : ∀ H3 Z3, Ex ρa σ2 Z2 H2 ρb σ2 Z3 H3 → EnvR K Z3 ρb σ2 H3 → if b = true then tKp K (kpE (E (inBlk C scope)) el) σ2 H3 fun y H4 => ∃ acc, H4 D = some (.lst acc) ∧ acc.length < sizeLine ∧ (fun H' => ∃ acc vals ρi Zi, H' D = some (.lst vals) ∧ RpA K Zi H' vals acc ∧ EnvR K Zi ρi (wipe σ vs) H' ∧ ¬ Zi D ∧ ¬ Mu ρi (wipe σ vs) D ∧ Ext (sS (wipeP ρ1 vs) (wipe σ vs) Z1 H1) (sS ρi (wipe σ vs) Zi H') ∧ compGo (inBlk C scope) (E (inBlk C scope)) tg ifs el vs (xs.drop (i + 1)) acc ρi = .ok ds ρ2) (upd H4 D (.lst (acc ++ [y]))) else ∃ acc vals ρi Zi, H3 D = some (.lst vals) ∧ RpA K Zi H3 vals acc ∧ EnvR K Zi ρi (wipe σ vs) H3 ∧ ¬ Zi D ∧ ¬ Mu ρi (wipe σ vs) D ∧ Ext (sS (wipeP ρ1 vs) (wipe σ vs) Z1 H1) (sS ρi (wipe σ vs) Zi H3) ∧ compGo (inBlk C scope) (E (inBlk C scope)) tg ifs el vs (xs.drop (i + 1)) acc ρi = .ok ds ρ2 := fun H3 Z3 exb enb => by
          cases b with
          | true =>
            rw [if_pos rfl] at t2 ⊢
            obtain ⟨v, ρc, u1, u2⟩ := R.bind_ok t2
            split at u2
            · rename_i hlen
              refine ⟨ρb, Z3, enb, v, ρc, u1, fun y H4 Z4 exc enc ry => ?_⟩
              have exT := (exS.trans exb).trans exc
              obtain ⟨nz4, nm4⟩ := exT.out hdu nz nm
              have hd4 : H4 D = some (.lst vals) := exc.keep D _ (exb.keep D _ hdS fun m => (exS.out hdu nz nm).2 m) fun m => ((exS.trans exb).out hdu nz nm).2 m
              have hr4 := (hrS.ext exb ena.zm).ext exc enb.zm
              refine ⟨vals, hd4, hr.length ▸ hlen, ?_⟩
              obtain ⟨enD, exD⟩ := enc.hid vs (σ' := wipe σ2 vs) (fun j hj => wipe_out hj) (wipe_length σ2 vs)
              rw [ew] at enD exD
              obtain ⟨nz5, nm5⟩ := (exT.trans exD).out hdu nz nm
              refine ⟨acc ++ [v], vals ++ [y], wipeP ρc vs, Z4, upd_same, (hr4.append (.cons ry .nil)).mono (fun _ h => h) (upd_keepZ nz4), enD.updF nz4 nm5, nz4, nm5, ?_, u2⟩
              exact Ext.updN (exi.trans (exT.trans exD)) hD
            · cases u2
          | false =>
            rw [if_neg Bool.false_ne_true] at t2 ⊢
            have exT := exS.trans exb
            obtain ⟨nz3, nm3⟩ := exT.out hdu nz nm
            obtain ⟨enD, exD⟩ := enb.hid vs (σ' := wipe σ2 vs) (fun j hj => wipe_out hj) (wipe_length σ2 vs)
            rw [ew] at enD exD
            exact ⟨acc, vals, wipeP ρb vs, Z3, exb.keep D _ hdS fun m => (exS.out hdu nz nm).2 m, hrS.ext exb ena.zm, enD, nz3, ((exT.trans exD).out hdu nz nm).2, exi.trans (exT.trans exD), t2⟩
        exact tests_dyn (E (inBlk C scope)) ifs ρa ρb b t1 ena _ tail
    · rintro H' ⟨acc, vals, ρi, Zi, hd, hr, eni, nz, nm, exi, hgo⟩
      rw [List.drop_length] at hgo
      cases hgo
      have exA : Ex ρ1 σ Z1 H1 ρ2 (wipe σ vs) Zi H' := exW.trans exi
      obtain ⟨enU, exU, muU⟩ := eni.unh en1 hh exA
      refine q (.ref D) H' Zi (ex1.trans exU) enU ?_
      show ∃ a, _
      exact ⟨D, rfl, ex1.dom D hD, nz, fun m => nm (muU D m), .lst hd hr⟩
  · cases g1
theorem lc_ok (E : Ctx → Ev) (ih : ∀ X C, CtxOk X C → SoundE X C (E C)) (c : CtxOk X C) (el tg it : Expr) (ifs : List Expr) (scope : Scope) (pos : Pos) :
    PE X (.ListComp el [⟨tg, it, ifs, 0⟩] scope pos) (tEv X.K (lcF C E el tg it ifs scope)) := by
  by_cases hb : (L2.blkC C.N C.sc scope (ownOf C.N scope) && noSet it) = true
  · have hb' := hb
    rw [Bool.and_eq_true] at hb'
    obtain ⟨hb1, hb2⟩ := hb'
    rw [c.sc] at hb1
    have hb1 : L2.blkC X.N X.env.scope scope (ownOf C.N scope) = true := by rw [← c.N]; exact hb1
    have SB : ∀ (s : Shared) (H : Hp) (A : Addr) (cl : List (Str × Addr)) (fp : List Addr), SoundE (X.blk s H scope (compEnvC scope cl A X.env) fp) (inBlk C scope) (E (inBlk C scope)) := fun s H A cl fp => ih _ _ (c.blk scope s H A cl fp)
    have P := pe_lc (te := tKp X.K (kpE (E (inBlk C scope)) el)) (tt := tTests X.K (E (inBlk C scope)) ifs) (g := tTg X.K (inBlk C scope) tg) (elt := el) (tg := tg) (iter := it) (ifs := ifs) (pos := pos) c.calm c.nd (iter_ok c (ih X C c) tg it) (blkOk_by hb1) (fun s H A cl fp => tgT_ok (c.blk scope s H A cl fp) tg) (fun s H A cl fp => tests_ok (SB s H A cl fp) ifs) (fun s H A cl fp => kpE_ok (SB s H A cl fp) el) (noSetF hb2)
    exact PE.imp P fun σ H Q h => lc_dyn E el tg it ifs scope hb X.K σ H Q h
  · refine PE.no fun σ H Q ⟨ρ, Z, en, r, ρ', hm, q⟩ => ?_
    unfold lcF at hm
    rw [if_neg hb] at hm
    cases hm
/-- name = [..], the name a local -/
theorem lcA_ok (E : Ctx → Ev) (ih : ∀ X C, CtxOk X C → SoundE X C (E C)) (c : CtxOk X C) (el tg it : Expr) (ifs : List Expr) (scope : Scope) (pos : Pos) {y : Str} {py spos : Pos} {i : Nat} (hy : X.N[i]? = some y) (hyl : X.env.scope.names.lookup y = some .local)
    (hsw : swapsWith (.ListComp el [⟨tg, it, ifs, 0⟩] scope pos) (some (.Name y py)) spos.line X.env = pure true) :
    PS X (.Assign [.Name y py] (.ListComp el [⟨tg, it, ifs, 0⟩] scope pos) spos) (tAsg (tEv X.K (lcF C E el tg it ifs scope)) (gName i)) := by
  by_cases hb : (L2.blkC C.N C.sc scope (ownOf C.N scope) && noSet it) = true
  · have hb' := hb
    rw [Bool.and_eq_true] at hb'
    obtain ⟨hb1, hb2⟩ := hb'
    rw [c.sc] at hb1
    have hb1 : L2.blkC X.N X.env.scope scope (ownOf C.N scope) = true := by rw [← c.N]; exact hb1
    have SB : ∀ (s : Shared) (H : Hp) (A : Addr) (cl : List (Str × Addr)) (fp : List Addr), SoundE (X.blk s H scope (compEnvC scope cl A X.env) fp) (inBlk C scope) (E (inBlk C scope)) := fun s H A cl fp => ih _ _ (c.blk scope s H A cl fp)
    have P := ps_setLc (py := py) (spos := spos) (te := tKp X.K (kpE (E (inBlk C scope)) el)) (tt := tTests X.K (E (inBlk C scope)) ifs) (g := tTg X.K (inBlk C scope) tg) (elt := el) (tg := tg) (iter := it) (ifs := ifs) (pos := pos) c.calm c.nd hy hyl hsw (iter_ok c (ih X C c) tg it) (blkOk_by hb1) (fun s H A cl fp => tgT_ok (c.blk scope s H A cl fp) tg) (fun s H A cl fp => tests_ok (SB s H A cl fp) ifs) (fun s H A cl fp => kpE_ok (SB s H A cl fp) el) (noSetF hb2)
    exact PS.imp P fun σ H D h => lc_dyn E el tg it ifs scope hb X.K σ H _ h
  · refine PS.no fun σ H D ⟨ρ, Z, en, r, ρ', hm, q⟩ => ?_
    unfold lcF at hm
    rw [if_neg hb] at hm
    cases hm
end
end TW

set_option Elab.async false
set_option maxRecDepth 100000
set_option maxHeartbeats 1000000
/-! Tw12: the steps of an expression and of a test. -/
namespace TW
open PySem PySem.Spec PyProof.Rows L2
section
variable {X : Cx} {C : Ctx}
theorem PE.none {e : Expr} : PE X e (tEv X.K fun _ => .no) := PE.no fun σ H Q ⟨ρ, Z, en, d, ρ', hm, q⟩ => by cases hm
theorem PT.none {e : Expr} : PT X e (tTs X.K fun _ => .no) := PT.no fun σ H Q ⟨ρ, Z, en, d, ρ', hm, q⟩ => by cases hm
theorem ev_ok (E : Ctx → Ev) (ih : ∀ X C, CtxOk X C → SoundE X C (E C)) (c : CtxOk X C) (e : Expr) : PE X e (tEv X.K (evStep E C e)) := by
  have S := ih X C c
  unfold evStep
  split
  · exact rdName_ok c _ _
  · exact constP_ok
  · exact bin_ok c S _ _ _ _
  · exact not_ok c S _ _
  · exact un_ok S _ _ _
  · exact boolV_ok S _ _ _
  · exact (cmp1_ok c S _ _ _ _).1
  · exact (cmp2_ok c S _ _ _ _ _ _).1
  · exact ite_ok S _ _ _ _
  · exact tup_ok S _ _ _
  · exact lst_ok S _ _
  · exact dict_ok S _ _ _
  · exact slc_ok c S _ _ _ _ _
  · exact sub_ok c S _ _ _
  · rename_i f p args pos
    by_cases h : (isGlo C.sc f && okNm f) = true
    · simp only [h, if_true]
      cases hf : C.fns f with
      | some ms => exact call_ok c S f ms hf h args p pos
      | none =>
        simp only
        match args with
        | [] => exact PE.none
        | [a] =>
          simp only
          by_cases h1 : (C.blt f && !starred a) = true
          · simp only [h1, if_true]
            simp only [Bool.and_eq_true, Bool.not_eq_true'] at h1
            exact callB1_ok c S f p pos a (by unfold isBlt; rw [h, h1.1]; rfl) h1.2
          · simp only [h1]
            exact PE.none
        | [a, b] =>
          simp only
          by_cases h1 : (starred a || starred b) = true
          · simp only [h1, if_true]
            exact PE.none
          · simp only [h1]
            simp only [Bool.or_eq_true, not_or, Bool.not_eq_true] at h1
            by_cases h2 : f = "isinstance"
            · subst h2
              simp only [if_true]
              by_cases h3 : C.blt "isinstance" = true
              · simp only [h3, if_true]
                cases b with
                | Name T pT =>
                  simp only
                  by_cases h4 : isBlt C T = true
                  · simp only [h4, if_true]
                    exact isi_pe c S T p pT pos a (by unfold isBlt; rw [h, h3]; rfl) h4 h1.1
                  · simp only [h4]
                    exact PE.none
                | _ => exact PE.none
              · simp only [h3]
                exact PE.none
            · simp only [h2, if_false]
              by_cases h3 : (if f = "gcd" then C.gcd else C.blt f) = true
              · simp only [h3, if_true]
                exact callB2_ok c S f p pos a b h h3 h1.1 h1.2
              · simp only [h3]
                exact PE.none
        | _ :: _ :: _ :: _ => exact PE.none
    · simp only [h]
      exact PE.none
  · rename_i o m apos a pos
    by_cases h : ((apos.endLine == pos.line && !starred a) && noSuper o) = true
    · simp only [h, if_true]
      simp only [Bool.and_eq_true, Bool.not_eq_true'] at h
      exact mt1_ok c S o a m apos pos h.1.1 h.1.2 h.2
    · simp only [h]
      exact PE.none
  · exact lc_ok E ih c _ _ _ _ _ _
  · exact PE.none
theorem allT_ok {E : Ev} (S : SoundE X C E) (pos : Pos) : ∀ vs : List Expr, PW X (.BoolOp .And vs pos) (tTs X.K (allT E .And vs)) ∧ PW X (.BoolOp .Or vs pos) (tTs X.K (allT E .Or vs))
  | [] => ⟨⟨fun wh pins s σ H Q I ⟨ρ, Z, en, b, ρ', hm, q⟩ => by cases hm⟩, ⟨fun wh pins s σ H Q I ⟨ρ, Z, en, b, ρ', hm, q⟩ => by cases hm⟩⟩
  | [x] => ⟨pw_and1 (S.ts x), pw_or1 (S.ts x)⟩
  | x :: y :: r => by
    obtain ⟨h1, h2⟩ := allT_ok S pos (y :: r)
    refine ⟨⟨fun wh pins s σ H Q I ⟨ρ, Z, en, b, ρ', hm, q⟩ => (pw_and (S.ts x) h1).run wh pins s σ H Q I ?_⟩, ⟨fun wh pins s σ H Q I ⟨ρ, Z, en, b, ρ', hm, q⟩ => (pw_or (S.ts x) h2).run wh pins s σ H Q I ?_⟩⟩
    · unfold allT at hm
      obtain ⟨k, ρ1, a1, g1⟩ := R.bind_ok hm
      refine ⟨ρ, Z, en, k, ρ1, a1, fun H1 Z1 ex1 en1 => ?_⟩
      cases k with
      | true => exact ⟨ρ1, Z1, en1, b, ρ', g1, fun H2 Z2 ex2 en2 => q H2 Z2 (ex1.trans ex2) en2⟩
      | false => cases g1; exact q H1 Z1 ex1 en1
    · unfold allT at hm
      obtain ⟨k, ρ1, a1, g1⟩ := R.bind_ok hm
      refine ⟨ρ, Z, en, k, ρ1, a1, fun H1 Z1 ex1 en1 => ?_⟩
      cases k with
      | false => exact ⟨ρ1, Z1, en1, b, ρ', g1, fun H2 Z2 ex2 en2 => q H2 Z2 (ex1.trans ex2) en2⟩
      | true => cases g1; exact q H1 Z1 ex1 en1
theorem ts_ok (E : Ctx → Ev) (ih : ∀ X C, CtxOk X C → SoundE X C (E C)) (c : CtxOk X C) (e : Expr) : PT X e (tTs X.K (tsStep E C e)) := by
  have S := ih X C c
  have gen : (∀ whole, isTrue e X.env whole = (do let v ← whole; standAt e.pos; holding [v] (truthy v))) → PT X e (tTs X.K fun ρ => (pkE C (E C) e ρ).bind fun d ρ' => ofO (truP d) ρ') := fun he =>
    PT.imp (pt_truth (pkE_ok c S e) he) fun σ H Q ⟨ρ, Z, en, b, ρ', hm, q⟩ => by
      obtain ⟨d, ρ1, a1, g1⟩ := R.bind_ok hm
      obtain ⟨g2, rfl⟩ := ofO_ok g1
      exact ⟨ρ, Z, en, d, _, a1, fun x H' Z' ex en' px => ⟨b, tru_of px g2, q H' Z' ex en'⟩⟩
  unfold tsStep
  split
  · refine PT.imp (pt_not (S.ts _)) fun σ H Q ⟨ρ, Z, en, b, ρ', hm, q⟩ => ?_
    obtain ⟨k, ρ1, a1, g1⟩ := R.bind_ok hm
    cases g1
    exact ⟨ρ, Z, en, k, _, a1, q⟩
  · rename_i op vs pos
    cases op with
    | And => exact (allT_ok S pos vs).1.pt
    | Or => exact (allT_ok S pos vs).2.pt
  · exact PT.none
  · exact (cmp1_ok c S _ _ _ _).2
  · exact (cmp2_ok c S _ _ _ _ _ _).2
  · exact PT.none
  · rename_i n1 n2 n3 n4 n5 n6
    refine gen ?_
    cases e with
    | UnaryOp op a p => cases op <;> first | (intro _; rfl) | exact (n1 _ _ rfl).elim
    | BoolOp op vs p => exact (n2 _ _ _ rfl).elim
    | IfExp t a b p => exact (n3 _ _ _ _ rfl).elim
    | Compare l ops rs p => exact (n6 _ _ _ _ rfl).elim
    | _ => intro _; rfl
end
end TW

set_option Elab.async false
set_option maxRecDepth 100000
set_option maxHeartbeats 1000000
/-! Tw13: statements. -/
namespace TW
open PySem PySem.Spec PyProof.Rows L2
/-! ### ends -/
def EndsOk (K : PySem.W.Frag) (s0 : SS) (D : Ends) : SR → Prop
  | .nx ρ' => ∀ σ' H' Z', Ext s0 (sS ρ' σ' Z' H') → EnvR K Z' ρ' σ' H' → D.nx σ' H'
  | .bk ρ' => ∀ σ' H' Z', Ext s0 (sS ρ' σ' Z' H') → EnvR K Z' ρ' σ' H' → D.bk σ' H'
  | .ct ρ' => ∀ σ' H' Z', Ext s0 (sS ρ' σ' Z' H') → EnvR K Z' ρ' σ' H' → D.ct σ' H'
  | .rt d f ρ' => ∀ v σ' H' Z', Ext s0 (sS ρ' σ' Z' H') → EnvR K Z' ρ' σ' H' → ValS K s0.O s0.H (Mu ρ' σ') Z' H' v (d, f) → D.rt v H'
  | .ex _ _ => False
  | .no => False
theorem tSt_eq (K : PySem.W.Frag) (m : PEnv → SR) (D : Ends) (σ : L2.St) (H : Hp) : tSt K m D σ H ↔ ∃ ρ Z, EnvR K Z ρ σ H ∧ EndsOk K (sS ρ σ Z H) D (m ρ) := by
  unfold tSt
  constructor
  · rintro ⟨ρ, Z, en, h⟩
    refine ⟨ρ, Z, en, ?_⟩
    cases e : m ρ <;> rw [e] at h <;> exact h
  · rintro ⟨ρ, Z, en, h⟩
    refine ⟨ρ, Z, en, ?_⟩
    cases e : m ρ <;> rw [e] at h <;> exact h
theorem EndsOk.from {K : PySem.W.Frag} {s0 s1 : SS} {D : Ends} {r : SR} (h : EndsOk K s0 D r) (x : Ext s0 s1) : EndsOk K s1 D r := by
  cases r with
  | nx ρ' => exact fun σ' H' Z' ex en => h σ' H' Z' (x.trans ex) en
  | bk ρ' => exact fun σ' H' Z' ex en => h σ' H' Z' (x.trans ex) en
  | ct ρ' => exact fun σ' H' Z' ex en => h σ' H' Z' (x.trans ex) en
  | rt d f ρ' =>
    refine fun v σ' H' Z' ex en hv => h v σ' H' Z' (x.trans ex) en ?_
    unfold ValS at hv ⊢
    by_cases hf : f = true
    · rw [if_pos hf] at hv ⊢
      obtain ⟨a, e, ho, rest⟩ := hv
      refine ⟨a, e, ?_, rest⟩
      rcases ho with ho | ho
      · exact x.og a ho
      · exact .inr (x.dom a ho)
    · rw [if_neg hf] at hv ⊢
      exact hv
  | ex e ρ' => exact h
  | no => exact h
theorem R.toS_ok {α : Type} {K : PySem.W.Frag} {s0 : SS} {D : Ends} {m : R α} {f : α → PEnv → SR} (h : EndsOk K s0 D (m.toS f)) : ∃ a ρ1, m = .ok a ρ1 ∧ EndsOk K s0 D (f a ρ1) := by
  cases m with
  | ok a ρ1 => exact ⟨a, ρ1, rfl, h⟩
  | ex e ρ1 => exact h.elim
  | no => exact h.elim
theorem Val.valS {K : PySem.W.Frag} {O M' Z' : Addr → Prop} {H0 H' : Hp} {v : V} {r : VR} (h : Val K H0 M' Z' H' v r) : ValS K O H0 M' Z' H' v r := by
  unfold Val at h
  unfold ValS
  by_cases hf : r.2 = true
  · rw [if_pos hf] at h ⊢
    obtain ⟨a, e, h0, rest⟩ := h
    exact ⟨a, e, .inr h0, rest⟩
  · rw [if_neg hf] at h ⊢
    exact h
theorem nxO_ok {K : PySem.W.Frag} {s0 : SS} {D : Ends} {o : Option PEnv} (h : EndsOk K s0 D (nxO o)) : ∃ ρ', o = some ρ' ∧ ∀ σ' H' Z', Ext s0 (sS ρ' σ' Z' H') → EnvR K Z' ρ' σ' H' → D.nx σ' H' := by
  cases o with
  | none => exact h.elim
  | some ρ' => exact ⟨ρ', rfl, h⟩
section
variable {K : PySem.W.Frag} {ρ ρ1 ρ0 : PEnv} {σ σ0 : L2.St} {Z Z1 Z0 : Addr → Prop} {H H1 H0 : Hp}
/-- what stands in a slot is changed in place -/
theorem EnvR.write (e : EnvR K Z ρ σ H) {s0 : SS} (x : Ext s0 (sS ρ σ Z H)) {i : Nat} {a : Addr} {t : Tg} {d d' : PyData} {o : HO} (hi : ρ[i]? = some (some ⟨t, d⟩)) (m : isMutT t = true) (hs : σ[i]? = some (some (V.ref a))) (ha : At K Z (upd H a o) a d') :
    EnvR K Z (ρ.set i (some ⟨t, d'⟩)) σ (upd H a o) ∧ Ext s0 (sS (ρ.set i (some ⟨t, d'⟩)) σ Z (upd H a o)) := by
  have Ma : Mu ρ σ a := ⟨i, _, hi, m, hs⟩
  have nz : ¬ Z a := fun z => e.zm a z Ma
  have hlt := some_lt hi
  have g1 := get_set (l := ρ) (x := some (⟨t, d'⟩ : Sl)) hlt
  -- the slots as they were, but for the content
  have back : ∀ {j : Nat} {s : Sl}, (ρ.set i (some ⟨t, d'⟩))[j]? = some (some s) → ∃ u, ρ[j]? = some (some u) ∧ u.t = s.t := fun {j s} h => by
    rw [g1] at h
    by_cases q : i = j
    · rw [if_pos q] at h; cases h; exact ⟨⟨t, d⟩, by rw [← q]; exact hi, rfl⟩
    · rw [if_neg q] at h; exact ⟨s, h, rfl⟩
  refine ⟨⟨fun b z => ?_, by rw [List.length_set]; exact e.len, fun j s h => ?_, fun j k s u b h1 h2 f1 f2 h3 h4 => ?_⟩, { keep := fun b u h n => ?_, dom := fun b h => ?_, mg := fun b ⟨j, s, h1, h2, h3⟩ => ?_, og := fun b ⟨j, s, h1, h2, h3⟩ => ?_, lt := fun j b ⟨s, h1, h2, h3⟩ => ?_, zm := x.zm, zg := x.zg }⟩
  · by_cases q : b = a
    · rw [q, upd_same]; exact fun z => nomatch z
    · rw [upd_ne q]; exact e.zt b z
  · rw [g1] at h
    by_cases q : i = j
    · rw [if_pos q] at h
      cases h
      exact ⟨_, q ▸ hs, .of_mut m nz ha⟩
    · rw [if_neg q] at h
      obtain ⟨v, h1, h2⟩ := e.sl j s h
      refine ⟨v, h1, ?_⟩
      cases ms : isMutT s.t with
      | true =>
        obtain ⟨b, rfl, nb, hb⟩ := h2.mut ms
        have ne : b ≠ a := fun eb => by
          subst eb
          exact q (e.ap i j _ s b hi h (by rw [fz_mut, m]; rfl) (by rw [fz_mut, ms]; rfl) hs h1)
        exact .of_mut ms nb (hb.mono (fun _ h => h) (upd_keepZ nz) fun {o'} h => by rw [upd_ne ne]; exact h)
      | false => exact .of_fz ms ((h2.fz ms).mono (fun _ h => h) (upd_keepZ nz))
  · obtain ⟨s', a1, a2⟩ := back h1
    obtain ⟨u', b1, b2⟩ := back h2
    exact e.ap j k s' u' b a1 b1 (by rw [a2]; exact f1) (by rw [b2]; exact f2) h3 h4
  · by_cases q : b = a
    · subst q
      rcases x.mg b Ma with z | z
      · exact (n z).elim
      · rw [z] at h; cases h
    · show upd H a o b = some u
      rw [upd_ne q]; exact x.keep b u h n
  · have h : upd H a o b = none := h
    by_cases q : b = a
    · rw [q, upd_same] at h; cases h
    · rw [upd_ne q] at h; exact x.dom b h
  · obtain ⟨s', a1, a2⟩ := back h1
    exact x.mg b ⟨j, s', a1, by rw [a2]; exact h2, h3⟩
  · obtain ⟨s', a1, a2⟩ := back h1
    exact x.og b ⟨j, s', a1, by rw [a2]; exact h2, h3⟩
  · obtain ⟨s', a1, a2⟩ := back h1
    exact x.lt j b ⟨s', a1, by rw [a2]; exact h2, h3⟩
/-- a value as a name is to keep it -/
theorem ctName_ok {C : Ctx} {x : Str} {v : V} {d : PyData} {f : Bool} {s : Sl} (hv : Val K H1 (Mu ρ σ) Z H v (d, f)) (h : ctName C x d f = some s) (e : EnvR K Z ρ σ H) (ex : Ex ρ0 σ0 Z0 H0 ρ σ Z H) (h01 : ∀ a, H1 a = none → H0 a = none) :
    ∃ Z', Ex ρ0 σ0 Z0 H0 ρ σ Z' H ∧ EnvR K Z' ρ σ H ∧ SvR K H0 (Mu ρ σ) Z' H v s := by
  unfold ctName at h
  split at h
  · rename_i hc
    cases h
    rw [Bool.and_eq_true] at hc
    have hf := hc.1
    subst hf
    obtain ⟨a, e1, h0, nz, nm, hat⟩ := hv
    exact ⟨Z, ex, e, .inr ⟨rfl, a, e1, h01 a h0, nz, nm, hat⟩⟩
  · split at h
    · cases h
    · rename_i hd
      cases h
      obtain ⟨Z', ex', e', r⟩ := hv.keep (by simpa using hd) e ex h01
      exact ⟨Z', ex', e', .inl ⟨rfl, r⟩⟩
theorem mutSl_ok {C : Ctx} {x : Str} {i : Nat} {t : Tg} {d : PyData} (h : mutSl C x ρ = some (i, t, d)) : slotOf C x = some i ∧ ρ[i]? = some (some ⟨t, d⟩) ∧ isMutT t = true := by
  unfold mutSl at h
  split at h
  · rename_i j hj
    split at h
    · rename_i d0 h0; cases h; exact ⟨hj, h0, rfl⟩
    · rename_i d0 h0; cases h; exact ⟨hj, h0, rfl⟩
    · cases h
  · cases h
end
section
variable {X : Cx} {C : Ctx} {E : Ev}
theorem PS.from {s : Stmt} {t : TS} {m : PEnv → SR} (h : PS X s t) (q : ∀ D σ H ρ Z, EnvR X.K Z ρ σ H → EndsOk X.K (sS ρ σ Z H) D (m ρ) → t D σ H) : PS X s (tSt X.K m) :=
  PS.imp h fun σ H D hw => by
    obtain ⟨ρ, Z, en, h1⟩ := (tSt_eq X.K m D σ H).mp hw
    exact q D σ H ρ Z en h1
theorem PS.none {s : Stmt} : PS X s (tSt X.K fun _ => .no) := PS.no fun σ H D hw => by
  obtain ⟨ρ, Z, en, h1⟩ := (tSt_eq X.K _ D σ H).mp hw
  exact h1
theorem tSt_mk {K : PySem.W.Frag} {m : PEnv → SR} {D : Ends} {σ : L2.St} {H : Hp} {ρ : PEnv} {Z : Addr → Prop} (en : EnvR K Z ρ σ H) (h : EndsOk K (sS ρ σ Z H) D (m ρ)) : tSt K m D σ H := (tSt_eq K m D σ H).mpr ⟨ρ, Z, en, h⟩
theorem blk_ok (S : SoundE X C E) : ∀ body : List Stmt, PSs X body (tSt X.K (blk E body))
  | [] => PSs.imp pss_nil fun σ H D hw => by
      obtain ⟨ρ, Z, en, h⟩ := (tSt_eq _ _ _ _ _).mp hw
      exact h σ H Z .refl en
  | s :: r => PSs.imp (pss_cons (S.st s) (blk_ok S r)) fun σ H D hw => by
      obtain ⟨ρ, Z, en, h⟩ := (tSt_eq _ _ _ _ _).mp hw
      refine tSt_mk (D := { D with nx := tSt X.K (blk E r) D }) en ?_
      unfold blk at h
      cases e : E.st s ρ with
      | nx ρ' =>
        rw [e] at h
        exact fun σ' H' Z' ex en' => tSt_mk en' (h.from ex)
      | rt d f ρ' => rw [e] at h; exact h
      | bk ρ' => rw [e] at h; exact h
      | ct ρ' => rw [e] at h; exact h
      | ex x ρ' => rw [e] at h; exact h
      | no => rw [e] at h; exact h
/-- an expression first -/
theorem ev_first {K : PySem.W.Frag} {m : PEnv → R VR} {f : VR → PEnv → SR} {σ : L2.St} {H : Hp} {ρ : PEnv} {Z : Addr → Prop} {D : Ends} {Q : VK} (en : EnvR K Z ρ σ H) (h : EndsOk K (sS ρ σ Z H) D ((m ρ).toS f))
    (q : ∀ d ρ1 v H1 Z1, EndsOk K (sS ρ σ Z H) D (f d ρ1) → Ex ρ σ Z H ρ1 σ Z1 H1 → EnvR K Z1 ρ1 σ H1 → Val K H (Mu ρ1 σ) Z1 H1 v d → Q v H1) : tEv K m σ H Q := by
  obtain ⟨d, ρ1, h1, h2⟩ := R.toS_ok h
  exact ⟨ρ, Z, en, d, ρ1, h1, fun v H1 Z1 ex1 en1 hv => q d ρ1 v H1 Z1 h2 ex1 en1 hv⟩
theorem kp_first {K : PySem.W.Frag} {m : PEnv → R PyData} {f : PyData → PEnv → SR} {σ : L2.St} {H : Hp} {ρ : PEnv} {Z : Addr → Prop} {D : Ends} {Q : VK} {s0 : SS} (en : EnvR K Z ρ σ H) (h : EndsOk K s0 D ((m ρ).toS f)) (x : Ext s0 (sS ρ σ Z H))
    (q : ∀ d ρ1 v H1 Z1, EndsOk K s0 D (f d ρ1) → Ext s0 (sS ρ1 σ Z1 H1) → Ex ρ σ Z H ρ1 σ Z1 H1 → EnvR K Z1 ρ1 σ H1 → Rp K Z1 H1 v d → Q v H1) : tKp K m σ H Q := by
  obtain ⟨d, ρ1, h1, h2⟩ := R.toS_ok h
  exact ⟨ρ, Z, en, d, ρ1, h1, fun v H1 Z1 ex1 en1 hv => q d ρ1 v H1 Z1 h2 (x.trans ex1) ex1 en1 hv⟩
theorem ret_ok (c : CtxOk X C) (S : SoundE X C E) (e : Expr) (pos : Pos) : PS X (.Return (some e) pos) (tSt X.K fun ρ => match e with
      | .Name x _ => (match mutSl C x ρ with
        | some (i, .own, d) => .rt d true (ρ.set i none)
        | _ => (E.ev e ρ).toS fun v ρ' => .rt v.1 v.2 ρ')
      | e => (E.ev e ρ).toS fun v ρ' => .rt v.1 v.2 ρ') := by
  have gen : ∀ D σ H ρ Z, EnvR X.K Z ρ σ H → EndsOk X.K (sS ρ σ Z H) D ((E.ev e ρ).toS fun v ρ' => .rt v.1 v.2 ρ') → tRet (tEv X.K (E.ev e)) D σ H := fun D σ H ρ Z en h =>
    ev_first en h fun d ρ1 v H1 Z1 h2 ex1 en1 hv => h2 v σ H1 Z1 ex1 en1 hv.valS
  cases e with
  | Name x p =>
    cases hs : slotOf C x with
    | none =>
      refine PS.from (ps_ret (S.ev _)) fun D σ H ρ Z en h => gen D σ H ρ Z en ?_
      have e0 : mutSl C x ρ = none := by unfold mutSl; rw [hs]
      simp only [e0] at h
      exact h
    | some i =>
      -- either the name's slot is given away, or the value is read as ever: both by the name's own rule
      have hr := S.ev (.Name x p)
      have hv := pe_slot (p := p) c hs
      refine ⟨fun pins s σ H D I hw => ?_⟩
      obtain ⟨ρ, Z, en, h⟩ := (tSt_eq _ _ _ _ _).mp hw
      by_cases hm : ∃ d, mutSl C x ρ = some (i, .own, d)
      · obtain ⟨d, hd⟩ := hm
        refine (ps_ret hv).run pins s σ H D I ?_
        simp only [hd] at h
        obtain ⟨_, h1, _⟩ := mutSl_ok hd
        obtain ⟨v, h2, h3⟩ := en.sl i _ h1
        obtain ⟨a, rfl, nz, hat⟩ := h3.mut rfl
        obtain ⟨e1, s1, l1, nm⟩ := en.clear i
        refine ⟨_, h2, h _ σ H Z ?_ e1 ?_⟩
        · exact { keep := fun _ _ h _ => h, dom := fun _ h => h, mg := fun b m => .inl (s1.mu m), og := fun b m => .inl (s1.ow m), lt := l1, zm := fun _ h => h, zg := fun _ h => .inl h }
        · show ∃ a, _
          exact ⟨a, rfl, .inl ⟨i, _, h1, rfl, h2⟩, nz, nm _ h1 rfl a h2, hat⟩
      · refine (ps_ret hr).run pins s σ H D I (gen D σ H ρ Z en ?_)
        dsimp only at h
        split at h
        · rename_i j d hd
          obtain ⟨h1, _, _⟩ := mutSl_ok hd
          rw [hs] at h1
          cases h1
          exact (hm ⟨d, hd⟩).elim
        · exact h
  | _ => exact PS.from (ps_ret (S.ev _)) gen
theorem while_ok (c : CtxOk X C) (S : SoundE X C E) (t : Expr) (body : List Stmt) (pos : Pos) : PS X (.While t body [] pos) (tSt X.K (whileP E t body WF)) := by
  refine PS.from (ps_while c.po (S.ts t) (blk_ok S body)) fun D σ H ρ Z en h => ?_
  refine ⟨fun m σ1 H1 => ∃ ρ1 Z1, EnvR X.K Z1 ρ1 σ1 H1 ∧ Ext (sS ρ σ Z H) (sS ρ1 σ1 Z1 H1) ∧ EndsOk X.K (sS ρ σ Z H) D (whileP E t body m ρ1), ⟨WF, ρ, Z, en, .refl, h⟩, ?_⟩
  rintro m σ1 H1 ⟨ρ1, Z1, en1, ex1, h1⟩
  cases m with
  | zero => exact h1.elim
  | succ m =>
    unfold whileP at h1
    obtain ⟨b, ρ2, h2, h3⟩ := R.toS_ok h1
    refine ⟨ρ1, Z1, en1, b, ρ2, h2, fun H2 Z2 ex2 en2 => ?_⟩
    have exA := ex1.trans ex2
    cases b with
    | false =>
      rw [if_neg Bool.false_ne_true] at h3
      exact h3 σ1 H2 Z2 exA en2
    | true =>
      rw [if_pos rfl] at h3
      dsimp only
      rw [if_pos rfl]
      refine ⟨fun σ' H' => ∃ ρ1 Z1, EnvR X.K Z1 ρ1 σ' H' ∧ Ext (sS ρ σ Z H) (sS ρ1 σ' Z1 H') ∧ EndsOk X.K (sS ρ σ Z H) D (whileP E t body m ρ1), fun σ' H' w => ⟨m, Nat.lt_succ_self m, w⟩, tSt_mk en2 ?_⟩
      cases e : blk E body ρ2 with
      | nx ρ' => rw [e] at h3; exact fun σ' H' Z' ex en' => ⟨ρ', Z', en', exA.trans ex, h3⟩
      | ct ρ' => rw [e] at h3; exact fun σ' H' Z' ex en' => ⟨ρ', Z', en', exA.trans ex, h3⟩
      | bk ρ' => rw [e] at h3; exact fun σ' H' Z' ex en' => h3 σ' H' Z' (exA.trans ex) en'
      | rt d f ρ' => rw [e] at h3; exact EndsOk.from (D := D) (r := .rt d f ρ') h3 exA
      | ex x ρ' => rw [e] at h3; exact h3
      | no => rw [e] at h3; exact h3
theorem for_ok (c : CtxOk X C) (S : SoundE X C E) (tg it : Expr) (body : List Stmt) (pos : Pos) : PS X (.For tg it body [] pos) (tSt X.K fun ρ => if noSet it then (iterP C E it ρ).toS fun xs ρ' => forP C E tg body xs ρ' else .no) := by
  by_cases hn : noSet it = true
  · refine PS.from (ps_for c.po c.calm (iter_ok c S tg it) (tgT_ok c tg) (blk_ok S body) (noSetF hn)) fun D σ H ρ Z en h => ?_
    rw [if_pos hn] at h
    obtain ⟨xs, ρ1, h1, h2⟩ := R.toS_ok h
    refine ⟨ρ, Z, en, xs, ρ1, h1, fun J H1 Z1 ex1 en1 ⟨G, Y, w, hw⟩ => ?_⟩
    refine for_it w (fun i σ' H' => ∃ ρi Zi, EnvR X.K Zi ρi σ' H' ∧ Ext (sS ρ1 σ Z1 H1) (sS ρi σ' Zi H') ∧ EndsOk X.K (sS ρ σ Z H) D (forP C E tg body (xs.drop i) ρi)) ?_ ?_ ?_ ?_
    · exact ⟨ρ1, Z1, en1, .refl, h2⟩
    · rintro i σ' H' hi ⟨ρi, Zi, eni, exi, hgo⟩
      exact (hw Zi H' exi.zm fun a u z h => rd_ext exi (en1.zm a z) h).1
    · rintro i x σ' H' H2 hi ⟨ρi, Zi, eni, exi, hgo⟩ hy
      have hx : xs[i]? = some xs[i] := List.getElem?_eq_getElem hi
      rw [List.drop_eq_getElem_cons hi] at hgo
      generalize xs[i] = d at hx hgo
      obtain ⟨Z2, g2, rx⟩ := (hw Zi H' exi.zm fun a u z h => rd_ext exi (en1.zm a z) h).2 i x H2 d hy hx
      have en2 := g2.env eni
      unfold forP at hgo
      split at hgo
      · exact hgo.elim
      · rename_i ρa hset
        refine ⟨ρi, Z2, d, ρa, en2, hset, rx, fun σ2 exa ena _ => tSt_mk ena ?_⟩
        have exA := (exi.trans (g2.ex (ρ := ρi) (σ := σ'))).trans exa
        cases e : blk E body ρa with
        | nx ρ' => rw [e] at hgo; exact fun σ' H' Z' ex en' => ⟨ρ', Z', en', exA.trans ex, hgo⟩
        | ct ρ' => rw [e] at hgo; exact fun σ' H' Z' ex en' => ⟨ρ', Z', en', exA.trans ex, hgo⟩
        | bk ρ' => rw [e] at hgo; exact fun σ' H' Z' ex en' => hgo σ' H' Z' ((ex1.trans exA).trans ex) en'
        | rt dd f ρ' => rw [e] at hgo; exact EndsOk.from (D := D) (r := .rt dd f ρ') hgo (ex1.trans exA)
        | ex x ρ' => rw [e] at hgo; exact hgo
        | no => rw [e] at hgo; exact hgo
    · rintro σ' H' ⟨ρi, Zi, eni, exi, hgo⟩
      rw [List.drop_length] at hgo
      exact hgo σ' H' Zi (ex1.trans exi) eni
  · refine PS.no fun σ H D hw => ?_
    obtain ⟨ρ, Z, en, h⟩ := (tSt_eq _ _ _ _ _).mp hw
    rw [if_neg hn] at h
    exact h
end
end TW

set_option Elab.async false
set_option maxRecDepth 100000
set_option maxHeartbeats 1000000
/-! Tw14: stores. -/
namespace TW
open PySem PySem.Spec PyProof.Rows L2
theorem noComp_sw {e : Expr} {t : Option Expr} {l : Nat} {env : Env} (h : noComp e = true) : swapsWith e t l env = pure false := by
  cases e <;> first | rfl | cases h
theorem noComp_sw1 {e tg : Expr} {l : Nat} {env : Env} (h : noComp e = true) : swapsWithSole [tg] e l env = pure false := noComp_sw (t := some tg) (l := l) (env := env) h
theorem isFnK_ok {sc : Scope} (h : isFnK sc = true) : sc.kind = .function := by
  unfold isFnK at h
  split at h
  · assumption
  · cases h
theorem swP_ok {env : Env} {ts vs : List Expr} {k k2 : Nat} {p p2 : Pos} {r : Option (List Str)} (h : swP env.scope ts vs = some r) : swappedStores [.Tuple ts k p] (.Tuple vs k2 p2) env = pure r := by
  unfold swP at h
  split at h
  · cases h
  · rename_i hk
    have hk : env.scope.kind = .function := isFnK_ok (by simpa using hk)
    have hb : env.blockKind = .function := by unfold Env.blockKind; rw [hk]; rfl
    have e0 : swappedStores [.Tuple ts k p] (.Tuple vs k2 p2) env =
      (if !(ts.length == 2 || ts.length == 3) || vs.length != ts.length || env.blockKind != .function then pure none else
       if vs.any starred then pure none else
       if (swNs env.scope ts).length != ts.length || (swNs env.scope ts).eraseDups.length != (swNs env.scope ts).length then pure none else
       if vs.all (foldedForSure 8) then pure none else
       if vs.all (constantsAlone 8) then (do unsupported "assign.tuple-of-constant-expressions:order-of-the-stores"; pure (some (swNs env.scope ts))) else
       pure (some (swNs env.scope ts))) := rfl
    rw [e0]
    have hz : ((!(ts.length == 2 || ts.length == 3) || vs.length != ts.length) || env.blockKind != .function) = (!(ts.length == 2 || ts.length == 3) || vs.length != ts.length) := by
      rw [hb]
      show (_ || false) = _
      exact Bool.or_false _
    rw [hz]
    split at h
    · rename_i c1; rw [if_pos c1]; cases h; rfl
    · rename_i c1; rw [if_neg c1]
      split at h
      · rename_i c2; rw [if_pos c2]; cases h; rfl
      · rename_i c2; rw [if_neg c2]
        split at h
        · rename_i c3; rw [if_pos c3]; cases h; rfl
        · rename_i c3; rw [if_neg c3]
          split at h
          · rename_i c4; rw [if_pos c4]; cases h; rfl
          · rename_i c4; rw [if_neg c4]
            split at h
            · cases h
            · rename_i c5; rw [if_neg c5]; cases h; rfl
section
variable {X : Cx} {C : Ctx} {E : Ev}
theorem sw_bool {el : Expr} {gens : List Comprehension} {scope : Scope} {lp : Pos} {y : Str} {py : Pos} {l : Nat} {env : Env} : ∃ b, swapsWith (.ListComp el gens scope lp) (some (.Name y py)) l env = pure b ∧ (b = true → env.scope.names.lookup y = some .local) := by
  refine ⟨env.blockKind == .function && env.kindOf y == some .local && py.line == lp.line && !(scope.names.any fun (n, k) => n == y && (k == .local || k == .cell)), rfl, fun h => ?_⟩
  simp only [Bool.and_eq_true] at h
  have h1 := h.1.1.2
  have h1 : (env.scope.names.lookup y == some .local) = true := h1
  cases e : env.scope.names.lookup y with
  | none => rw [e] at h1; cases h1
  | some k => rw [e] at h1; cases k <;> first | rfl | cases h1
theorem asgN_ok (c : CtxOk X C) (S : SoundE X C E) (x : Str) (e : Expr) (p pos : Pos) (ha : okAsg e = true) : PS X (.Assign [.Name x p] e pos) (tSt X.K fun ρ => (E.ev e ρ).toS fun v ρ' => nxO ((ctName C x v.1 v.2).bind fun s => setSl C x s ρ')) := by
  rcases setSl_ok c x p with h | ⟨i, h1, h2, h3, h4, h5⟩
  · refine PS.no fun σ H D hw => ?_
    obtain ⟨ρ, Z, en, hr⟩ := (tSt_eq _ _ _ _ _).mp hw
    obtain ⟨v, ρ1, _, g1⟩ := R.toS_ok hr
    obtain ⟨ρ', g2, _⟩ := nxO_ok g1
    cases hc : ctName C x v.1 v.2 with
    | none => rw [hc] at g2; cases g2
    | some s => rw [hc] at g2; have g2 : setSl C x s ρ1 = some ρ' := g2; rw [h] at g2; cases g2
  · have core : ∀ D σ H ρ Z, EnvR X.K Z ρ σ H → EndsOk X.K (sS ρ σ Z H) D ((E.ev e ρ).toS fun v ρ' => nxO ((ctName C x v.1 v.2).bind fun s => setSl C x s ρ')) → tAsg (tEv X.K (E.ev e)) (gName i) D σ H := fun D σ H ρ Z en h =>
      ev_first en h fun d ρ1 v H1 Z1 g1 ex1 en1 hv => by
        obtain ⟨ρ', g2, g3⟩ := nxO_ok g1
        cases hc : ctName C x d.1 d.2 with
        | none => rw [hc] at g2; cases g2
        | some s =>
          rw [hc] at g2
          obtain ⟨hi, rfl⟩ := h5 _ _ _ (show setSl C x s ρ1 = some ρ' from g2)
          obtain ⟨Z', ex', en', sv⟩ := ctName_ok hv hc en1 ex1 fun _ h => h
          obtain ⟨en2, ex2⟩ := en'.store ex' hi sv
          exact g3 _ _ _ ex2 en2
    have plain : swapsWith e (some (.Name x p)) pos.line X.env = pure false → PS X (.Assign [.Name x p] e pos) (tSt X.K fun ρ => (E.ev e ρ).toS fun v ρ' => nxO ((ctName C x v.1 v.2).bind fun s => setSl C x s ρ')) := fun hs =>
      PS.from (ps_set c.nd h1 h2 (S.ev e) hs h3) core
    cases e with
    | ListComp el gens scope lp =>
      obtain ⟨b, hb, hl⟩ := sw_bool (el := el) (gens := gens) (scope := scope) (lp := lp) (y := x) (py := p) (l := pos.line) (env := X.env)
      cases b with
      | true => exact PS.from (S.lc el gens scope lp x p pos i h1 (hl rfl) hb) core
      | false => exact plain hb
    | SetComp a b d f => cases ha
    | DictComp a b d f g => cases ha
    | _ => exact plain rfl
def rAug (K : PySem.W.Frag) (op : Operator) : R2 := fun x y H Q => ∃ Z dx dy d, Pk K Z H x dx ∧ Pk K Z H y dy ∧ augP op dx dy = some d ∧ ∀ v, Rp K Z H v d → Q v H
theorem op_aug (op : Operator) : OpR X (inplaceOp op) (rAug X.K op) := by
  intro pins s σ H x y v u Q I rx ry ⟨Z, dx, dy, d, px, py, e, q⟩
  unfold augP at e
  split at e
  · cases e
    obtain rfl := px.int; obtain rfl := py.int
    exact iop_add pins s σ H _ _ v u Q I rx ry ⟨_, _, rfl, rfl, q _ (.int _)⟩
  · cases e
    obtain rfl := px.int; obtain rfl := py.int
    exact iop_sub pins s σ H _ _ v u Q I rx ry ⟨_, _, rfl, rfl, q _ (.int _)⟩
  · split at e
    · rename_i hk
      cases e
      obtain rfl := px.int; obtain rfl := py.int
      exact iop_mulT pins s σ H _ _ v u Q I rx ry ⟨_, _, rfl, rfl, hk, q _ (.int _)⟩
    · cases e
  · split at e
    · rename_i hk
      cases e
      obtain rfl := px.int; obtain rfl := py.int
      exact iop_divT pins s σ H _ _ v u Q I rx ry ⟨_, _, rfl, rfl, hk, q _ (.int _)⟩
    · cases e
  · split at e
    · rename_i hk
      cases e
      obtain rfl := px.str; obtain rfl := py.str
      exact iop_add_str pins s σ H _ _ v u Q I rx ry ⟨_, _, rfl, rfl, hk, q _ (.str _)⟩
    · cases e
  · cases e
theorem aug_ok (c : CtxOk X C) (S : SoundE X C E) (x : Str) (op : Operator) (e : Expr) (p pos : Pos) : PS X (.AugAssign (.Name x p) op e pos) (tSt X.K fun ρ => match slotOf C x with
      | some _ => (ofO (pkName C x ρ) ρ).toS fun _ ρ0 => (E.ev e ρ0).toS fun v ρ1 => (ofO (pkName C x ρ1) ρ1).toS fun u ρ2 => (match augP op u v.1 with
        | some d => nxO (setSl C x ⟨.fz, d⟩ ρ2)
        | none => .no)
      | none => .no) := by
  cases hs : slotOf C x with
  | none => exact PS.none
  | some i =>
    rcases setSl_ok c x p with h | ⟨j, h1, h2, h3, h4, h5⟩
    · refine PS.no fun σ H D hw => ?_
      obtain ⟨ρ, Z, en, hr⟩ := (tSt_eq _ _ _ _ _).mp hw
      obtain ⟨v, ρ1, _, g1⟩ := R.toS_ok hr
      obtain ⟨v, ρ1, _, g1⟩ := R.toS_ok g1
      obtain ⟨v, ρ1, _, g1⟩ := R.toS_ok g1
      split at g1
      · obtain ⟨ρ', g2, _⟩ := nxO_ok g1
        rw [h] at g2; cases g2
      · exact g1
    · have hij : i = j := by
        obtain ⟨hN, _, _, _⟩ := slotOf_ok c hs
        exact (List.getElem?_inj (some_lt hN) c.nd).mp (hN.trans h1.symm)
      subst hij
      refine PS.from (ps_aug c.nd h1 h2 (S.ev e) (op_aug op) h3) fun D σ H ρ Z en h => ?_
      obtain ⟨u0, ρ0, g0, g1⟩ := R.toS_ok h
      obtain ⟨g0, rfl⟩ := ofO_ok g0
      have key : ∀ {ρ Z H d}, EnvR X.K Z ρ σ H → pkName C x ρ = some d → ∃ v, σ[i]? = some (some v) ∧ Pk X.K Z H v d := fun {ρ Z H d} en h => by
        unfold pkName at h
        rw [hs] at h
        simp only at h
        split at h
        · rename_i s h0
          cases h
          obtain ⟨v, k1, k2⟩ := en.sl i _ h0
          exact ⟨v, k1, k2.pk⟩
        · cases h
      obtain ⟨w, hw, _⟩ := key en g0
      refine ⟨w, hw, ev_first en g1 fun d ρ1 v H1 Z1 g2 ex1 en1 hv => ?_⟩
      obtain ⟨u, ρ2, g3, g4⟩ := R.toS_ok g2
      obtain ⟨g3, rfl⟩ := ofO_ok g3
      obtain ⟨w', hw', pw⟩ := key en1 g3
      rw [hw] at hw'
      cases hw'
      split at g4
      · rename_i r hr
        obtain ⟨ρ', g5, g6⟩ := nxO_ok g4
        obtain ⟨hi, rfl⟩ := h5 _ _ _ g5
        refine ⟨Z1, u, d.1, r, pw, hv.pk, hr, fun z rz => ?_⟩
        obtain ⟨en2, ex2⟩ := en1.store (s := ⟨.fz, r⟩) ex1 hi (.inl ⟨rfl, rz⟩)
        exact g6 _ _ _ ex2 en2
      · exact g4.elim
/-! ### items set -/
def rSet (K : PySem.W.Frag) : TSet := fun o i v H Q => ∃ Z a d k r s, o = .ref a ∧ At K Z H a d ∧ Rp K Z H i k ∧ Rp K Z H v r ∧ setIt .own d k r = some s ∧ ∀ u, (∀ Z', (∀ b, Z b → Z' b) → ¬ Z' a → (∀ b, Z' b → Z b) → At K Z' (upd H a u) a s.d) → Q (upd H a u)
theorem setIt_t {t : Tg} {d k v : PyData} {s : Sl} (h : setIt t d k v = some s) : s.t = t ∧ ∀ t', setIt t' d k v = some ⟨t', s.d⟩ := by
  cases d with
  | list xs =>
    cases k with
    | int n =>
      have h : (L2.ixN xs.length n).map (fun l => (⟨t, .list (xs.set l v)⟩ : Sl)) = some s := h
      cases e : L2.ixN xs.length n with
      | none => rw [e] at h; cases h
      | some l =>
        rw [e] at h
        cases h
        refine ⟨rfl, fun t' => ?_⟩
        show (L2.ixN xs.length n).map (fun l => (⟨t', .list (xs.set l v)⟩ : Sl)) = _
        rw [e]; rfl
    | _ => cases h
  | dict kvs =>
    have h : (keyP k).bind (fun key => if kvs.length < sizeLine then some (⟨t, .dict (putK key v kvs)⟩ : Sl) else none) = some s := h
    cases e : keyP k with
    | none => rw [e] at h; cases h
    | some key =>
      rw [e] at h
      have h : (if kvs.length < sizeLine then some (⟨t, .dict (putK key v kvs)⟩ : Sl) else none) = some s := h
      split at h
      · rename_i hl
        cases h
        refine ⟨rfl, fun t' => ?_⟩
        show (keyP k).bind (fun key => if kvs.length < sizeLine then some (⟨t', .dict (putK key v kvs)⟩ : Sl) else none) = _
        rw [e]
        show (if kvs.length < sizeLine then some (⟨t', .dict (putK key v kvs)⟩ : Sl) else none) = _
        rw [if_pos hl]
      · cases h
  | _ => cases h
theorem set_any (hu : X.A.units + 1 < cLine) : PSet X (rSet X.K) := by
  intro pins s σ H o i v ov iv u Q I ro ri rv h
  obtain ⟨Z, a, d, k, r, sl, rfl, hat, hk, hr, hs, q⟩ := h
  have nz : ∀ {w : HO} (Z' : Addr → Prop), ¬ Z' a → (∀ b, Z' b → Z b) → ∀ b u, Z b → (¬ b = a) → Rd H b u → Rd (upd H a w) b u := fun {w} Z' _ _ b u _ ne hb => by
    rcases hb with hb | ⟨ob, hb⟩
    · exact .inl (by rw [upd_ne ne]; exact hb)
    · exact .inr ⟨ob, by rw [upd_ne ne]; exact hb⟩
  -- what is frozen is not the one that changes
  have mono : ∀ {w : HO} (Z' : Addr → Prop), (∀ b, Z b → Z' b) → ¬ Z' a → ∀ b u, Z b → Rd H b u → Rd (upd H a w) b u := fun {w} Z' hz n b u zb hb => by
    have ne : ¬ b = a := fun e => n (e ▸ hz b zb)
    rcases hb with hb | ⟨ob, hb⟩
    · exact .inl (by rw [upd_ne ne]; exact hb)
    · exact .inr ⟨ob, by rw [upd_ne ne]; exact hb⟩
  cases hat with
  | @lst xs ds hx hds =>
    unfold setIt at hs
    cases k with
    | int n =>
      cases hk
      have hs : (L2.ixN ds.length n).map (fun l => (⟨.own, .list (ds.set l r)⟩ : Sl)) = some sl := hs
      cases e : L2.ixN ds.length n with
      | none => rw [e] at hs; cases hs
      | some l =>
        rw [e] at hs
        cases hs
        refine set_list pins s σ H _ _ v ov iv u Q I ro ri rv ⟨a, xs, n, l, rfl, rfl, hx, by rw [hds.length]; exact e, q _ fun Z' hz n hb => ?_⟩
        exact .lst upd_same ((hds.set hr l).mono hz (mono Z' hz n))
    | _ => cases hs
  | @dct kvs ks hx hds =>
    unfold setIt at hs
    cases e : keyP k with
    | none => rw [e] at hs; cases hs
    | some key =>
      rw [e] at hs
      have hs : (if ks.length < sizeLine then some (⟨.own, .dict (putK key r ks)⟩ : Sl) else none) = some sl := hs
      split at hs
      · rename_i hl
        cases hs
        have ek := keyP_kV (.rp hk) e
        subst ek
        obtain rfl : ov = Value.ref a := ro
        refine d_setItem hu I (DPut.k hx (by rw [hds.length]; exact hl)) ri rv fun s4 I4 => ⟨_, I4, q _ fun Z' hz n hb => ?_⟩
        exact .dct upd_same ((RpK.put hr hds).mono hz (mono Z' hz n))
      · cases hs
theorem asgS_ok (c : CtxOk X C) (S : SoundE X C E) (x : Str) (i e : Expr) (p p2 pos : Pos) : PS X (.Assign [.Subscript (.Name x p) i p2] e pos) (tSt X.K fun ρ => if noSlice i && noComp e then (kpE E e ρ).toS fun v ρ1 => (match mutSl C x ρ1 with
      | some _ => (kpE E i ρ1).toS fun k ρ2 => (match mutSl C x ρ2 with
        | some (j, t, d) => (match setIt t d k v with
          | some s => .nx (ρ2.set j (some s))
          | none => .no)
        | none => .no)
      | none => .no) else .no) := by
  by_cases hn : (noSlice i && noComp e) = true
  · simp only [hn, if_true]
    rw [Bool.and_eq_true] at hn
    cases hs : slotOf C x with
    | none =>
      refine PS.no fun σ H D hw => ?_
      obtain ⟨ρ, Z, en, hr⟩ := (tSt_eq _ _ _ _ _).mp hw
      obtain ⟨v, ρ1, _, g1⟩ := R.toS_ok hr
      have e0 : mutSl C x ρ1 = none := by unfold mutSl; rw [hs]
      simp only [e0] at g1
      exact g1
    | some j =>
      have hu : X.A.units + 1 < cLine := by have := c.hu; omega
      have pg := pg_sub (pos := p2) (pe_slot (p := p) c hs) (kpE_ok S i) (set_any hu) (fun v => by cases i <;> first | rfl | (rename_i st _; cases st <;> first | rfl | cases hn.1))
      refine PS.from (ps_asg (kpE_ok S e) pg (noComp_sw1 hn.2) rfl rfl) fun D σ H ρ Z en h => ?_
      refine kp_first en h .refl fun v ρ1 vv H1 Z1 h1 _ ex1 en1 hv => ?_
      split at h1
      · rename_i w hw
        obtain ⟨j0, t0, d0⟩ := w
        obtain ⟨k1, k2, k3⟩ := mutSl_ok hw
        rw [hs] at k1
        cases k1
        obtain ⟨o, ho, _⟩ := en1.sl _ _ k2
        refine ⟨o, ho, kp_first en1 h1 ex1 fun k ρ2 kk H2 Z2 h2 ex2 ex12 en2 hk => ?_⟩
        split at h2
        · rename_i j1 t d hw2
          obtain ⟨m1, m2, m3⟩ := mutSl_ok hw2
          rw [hs] at m1
          cases m1
          split at h2
          · rename_i sl hsl
            obtain ⟨et, es⟩ := setIt_t hsl
            obtain ⟨o', ho', so⟩ := en2.sl _ _ m2
            rw [ho] at ho'
            cases ho'
            obtain ⟨a, rfl, nz, hat⟩ := so.mut m3
            refine ⟨Z2, a, d, k, v, _, rfl, hat, hk, hv.ext ex12 en1.zm, es .own, fun u hu => ?_⟩
            have := hu Z2 (fun _ h => h) nz fun _ h => h
            obtain ⟨en3, ex3⟩ := en2.write ex2 m2 m3 ho this
            obtain ⟨st, sd⟩ := sl
            cases et
            exact h2 σ _ Z2 ex3 en3
          · exact h2.elim
        · exact h2.elim
      · exact h1.elim
  · simp only [hn]
    exact PS.none
/-! ### append -/
theorem app_ok (c : CtxOk X C) (S : SoundE X C E) (x : Str) (args : List Expr) (px apos pos pos' : Pos) (m : Str) (hl : (apos.endLine == pos.line) = true) : PS X (.Expr (.Call (.Attribute (.Name x px) m apos) args [] pos) pos') (tSt X.K fun ρ => mutP C E x m args ρ) := by
  by_cases hm : m = "append"
  · subst hm
    match args with
    | [] =>
      refine PS.no fun σ H D hw => ?_
      obtain ⟨ρ, Z, en, hr⟩ := (tSt_eq _ _ _ _ _).mp hw
      exact hr
    | _ :: _ :: _ =>
      refine PS.no fun σ H D hw => ?_
      obtain ⟨ρ, Z, en, hr⟩ := (tSt_eq _ _ _ _ _).mp hw
      exact hr
    | [a] =>
      cases hst : starred a with
      | true =>
        refine PS.no fun σ H D hw => ?_
        obtain ⟨ρ, Z, en, hr⟩ := (tSt_eq _ _ _ _ _).mp hw
        unfold mutP at hr
        simp only [hst, if_true] at hr
        exact hr
      | false =>
        cases hs : slotOf C x with
        | none =>
          refine PS.no fun σ H D hw => ?_
          obtain ⟨ρ, Z, en, hr⟩ := (tSt_eq _ _ _ _ _).mp hw
          unfold mutP at hr
          have e0 : mutSl C x ρ = none := by unfold mutSl; rw [hs]
          simp only [hst, e0, if_true] at hr
          exact hr
        | some j =>
          have pe : PE X (.Call (.Attribute (.Name x px) "append" apos) [a] [] pos) _ := pe_bm F.plainAttrs_list F.slot_list_append F.type_list_append (show MtR X "list.append" rAppend from mt_append) (pe_slot (p := px) c hs) (pa_cons (kpE_ok S a) pa_nil (star_cons hst)) rfl
            (by rw [star1 hst]; rfl) hl (star_cons hst) rfl
          refine PS.from (ps_expr pe rfl) fun D σ H ρ Z en h => ?_
          unfold mutP at h
          simp only [hst, if_true] at h
          split at h
          · exact h.elim
          split at h
          · rename_i j0 t0 d0 hw
            split at h
            · rename_i hls
              obtain ⟨k1, k2, k3⟩ := mutSl_ok hw
              rw [hs] at k1
              cases k1
              obtain ⟨o, ho, so⟩ := en.sl _ _ k2
              obtain ⟨a0, rfl, nz, hat⟩ := so.mut k3
              refine ⟨_, ho, ?_, ?_⟩
              · cases d0 with
                | list xs0 =>
                  cases hat with
                  | lst hx hr => exact .inl ⟨rfl, _, .inl (.inl hx)⟩
                | _ => cases hls
              · refine kp_first en h .refl fun v ρ1 vv H1 Z1 h1 _ ex1 en1 hv => ?_
                split at h1
                · rename_i j1 t xs hw2
                  split at h1
                  · rename_i hlen
                    obtain ⟨m1, m2, m3⟩ := mutSl_ok hw2
                    rw [hs] at m1
                    cases m1
                    obtain ⟨o', ho', so'⟩ := en1.sl _ _ m2
                    rw [ho] at ho'
                    cases ho'
                    obtain ⟨a1, e1, nz1, hat1⟩ := so'.mut m3
                    cases e1
                    cases hat1 with
                    | @lst ys _ hx hr =>
                      refine ⟨a0, ys, vv, rfl, rfl, hx, by rw [hr.length]; exact hlen, ?_⟩
                      have := (hr.append (.cons hv .nil)).mono (fun _ h => h) (upd_keepZ (o := .lst (ys ++ [vv])) nz1)
                      obtain ⟨en3, ex3⟩ := en1.write ex1 m2 m3 ho (.lst upd_same this)
                      exact h1 σ _ Z1 ex3 en3
                  · exact h1.elim
                · exact h1.elim
            · exact h.elim
          · exact h.elim
  · refine PS.no fun σ H D hw => ?_
    obtain ⟨ρ, Z, en, hr⟩ := (tSt_eq _ _ _ _ _).mp hw
    unfold mutP at hr
    rw [if_neg hm] at hr
    exact hr
end
end TW

set_option Elab.async false
set_option maxRecDepth 100000
set_option maxHeartbeats 1000000
/-! Tw15: the steps of a statement; all steps. -/
namespace TW
open PySem PySem.Spec PyProof.Rows L2
section
variable {X : Cx} {C : Ctx} {E : Ev}
theorem asgT_ok (c : CtxOk X C) (S : SoundE X C E) (ts : List Expr) (k : Nat) (p pos : Pos) (e : Expr) (hn : noComp e = true) (hw : swappedStores [.Tuple ts k p] e X.env = pure none) :
    PS X (.Assign [.Tuple ts k p] e pos) (tSt X.K fun ρ => (E.ev e ρ).toS fun v ρ' => unpk C ts v.1 ρ') := by
  refine PS.from (ps_asg (S.ev e) (tgT_ok c (.Tuple ts k p)) (noComp_sw1 hn) hw rfl) fun D σ H ρ Z en h => ?_
  refine ev_first en h fun d ρ1 v H1 Z1 h1 ex1 en1 hv => ?_
  obtain ⟨d, f⟩ := d
  cases d with
  | tuple ds =>
    obtain ⟨ρ', h2, h3⟩ := nxO_ok (show EndsOk X.K (sS ρ σ Z H) D (nxO (setNames C ts ds ρ1)) from h1)
    exact ⟨ρ1, Z1, .tuple ds, ρ', en1, h2, hv.pk.rpT, fun σ' ex' en' _ => h3 σ' H1 Z1 (ex1.trans ex') en'⟩
  | _ => exact h1.elim
theorem isLc_ok {sc : Scope} {x : Str} (h : isLc sc x = true) : sc.names.lookup x = some .local := by
  unfold isLc at h
  split at h
  · assumption
  · cases h
end
section
variable {K : PySem.W.Frag} {ρ ρ1 : PEnv} {σ : L2.St} {Z Z1 : Addr → Prop} {H H0 H1 : Hp}
/-- values as slots are to keep them; fs: the new ones -/
inductive SvA (K : PySem.W.Frag) (H0 : Hp) (M Z : Addr → Prop) (H : Hp) : List V → List Sl → List Addr → Prop
  | nil : SvA K H0 M Z H [] [] []
  | fz {v : V} {s : Sl} {vs ss fs} : s.t = .fz → Rp K Z H v s.d → SvA K H0 M Z H vs ss fs → SvA K H0 M Z H (v :: vs) (s :: ss) fs
  | own {a : Addr} {s : Sl} {vs ss fs} : s.t = .own → H0 a = none → ¬ Z a → ¬ M a → At K Z H a s.d → a ∉ fs → SvA K H0 M Z H vs ss fs → SvA K H0 M Z H (.ref a :: vs) (s :: ss) (a :: fs)
theorem SvA.new {M : Addr → Prop} {vs ss fs} (h : SvA K H0 M Z H vs ss fs) : ∀ a ∈ fs, H0 a = none := by
  induction h with
  | nil => exact fun _ h => nomatch h
  | fz _ _ _ ih => exact ih
  | own _ h0 _ _ _ _ _ ih => exact fun a ha => (List.mem_cons.mp ha).elim (fun e => e ▸ h0) (ih a)
theorem SvA.weak {M : Addr → Prop} {vs ss fs} (h : SvA K H1 M Z H vs ss fs) (w : ∀ a, H1 a = none → H0 a = none) : SvA K H0 M Z H vs ss fs := by
  induction h with
  | nil => exact .nil
  | fz a b _ ih => exact .fz a b ih
  | own a b c d e f _ ih => exact .own a (w _ b) c d e f ih
theorem mu_set {i : Nat} {s : Sl} {v : V} {a : Addr} (hi : i < ρ.length) (hl : ρ.length = σ.length) (h : Mu (ρ.set i (some s)) (σ.set i (some v)) a) : Mu ρ σ a ∨ (isMutT s.t = true ∧ v = .ref a) := by
  obtain ⟨j, u, h1, h2, h3⟩ := h
  rw [get_set (l := ρ) (x := some s) hi] at h1
  rw [get_set (l := σ) (x := some v) (hl ▸ hi)] at h3
  by_cases q : i = j
  · rw [if_pos q] at h1 h3
    cases h1
    cases h3
    exact .inr ⟨h2, rfl⟩
  · rw [if_neg q] at h1 h3
    exact .inl ⟨j, u, h1, h2, h3⟩
/-- the rest behind a store -/
theorem SvA.rest {i : Nat} {s0 : Sl} {v0 : V} (hi : i < ρ.length) (hl : ρ.length = σ.length) {vs : List V} {ss : List Sl} {fs : List Addr} (h : SvA K H0 (Mu ρ σ) Z H vs ss fs) (n : ∀ a ∈ fs, isMutT s0.t = true → v0 ≠ .ref a) : SvA K H0 (Mu (ρ.set i (some s0)) (σ.set i (some v0))) Z H vs ss fs := by
  induction h with
  | nil => exact .nil
  | fz a b _ ih => exact .fz a b (ih n)
  | own a b c d e f _ ih => exact .own a b c (fun m => (mu_set hi hl m).elim d fun z => n _ List.mem_cons_self z.1 z.2) e f (ih fun a ha => n a (List.mem_cons_of_mem _ ha))
theorem SvA.store {s0 : SS} (e : EnvR K Z ρ σ H) (x : Ext s0 (sS ρ σ Z H)) {i : Nat} (hi : i < ρ.length) {v : V} {s : Sl} {vs : List V} {ss : List Sl} {fs : List Addr} (h : SvA K s0.H (Mu ρ σ) Z H (v :: vs) (s :: ss) fs) :
    EnvR K Z (ρ.set i (some s)) (σ.set i (some v)) H ∧ Ext s0 (sS (ρ.set i (some s)) (σ.set i (some v)) Z H) ∧ ∃ fs', SvA K s0.H (Mu (ρ.set i (some s)) (σ.set i (some v))) Z H vs ss fs' := by
  cases h with
  | fz a b r =>
    obtain ⟨e1, x1⟩ := e.store x hi (.inl ⟨a, b⟩)
    exact ⟨e1, x1, _, r.rest hi e.len fun _ _ m => by rw [a] at m; cases m⟩
  | own a b c d f g r =>
    obtain ⟨e1, x1⟩ := e.store x hi (.inr ⟨a, _, rfl, b, c, d, f⟩)
    exact ⟨e1, x1, _, r.rest hi e.len fun w hw _ q => by cases q; exact g hw⟩
end
section
variable {X : Cx} {C : Ctx} {E : Ev}
theorem parI_ok (S : SoundE X C E) : ∀ (xs : List Str) (es : List Expr), ∃ t, PA X es t ∧ ∀ ρ Z σ H ss ρ' (Q : List V → Hp → Prop), EnvR X.K Z ρ σ H → parI C E xs es ρ = .ok ss ρ' →
    (∀ vs H' Z', Ex ρ σ Z H ρ' σ Z' H' → EnvR X.K Z' ρ' σ H' → (∃ fs, SvA X.K H (Mu ρ' σ) Z' H' vs ss fs) → Q vs H') → t σ H Q
  | xs, [] => ⟨tNil, pa_nil, fun ρ Z σ H ss ρ' Q e h q => by
      cases xs with
      | nil => cases h; exact q [] H Z .refl e ⟨[], .nil⟩
      | cons x xs => cases h⟩
  | [], e :: es => ⟨fun _ _ _ => False, ⟨fun _ _ _ _ _ _ _ z => z.elim⟩, fun ρ Z σ H ss ρ' Q en h q => by cases h⟩
  | x :: xs, e :: es => by
    cases hs : starred e with
    | true => exact ⟨fun _ _ _ => False, ⟨fun _ _ _ _ _ _ _ z => z.elim⟩, fun ρ Z σ H ds ρ' Q en h q => by unfold parI at h; rw [hs, if_pos rfl] at h; cases h⟩
    | false =>
      obtain ⟨t, ht, hq⟩ := parI_ok S xs es
      refine ⟨_, pa_cons (S.ev e) ht (star_cons hs), fun ρ Z σ H ss ρ' Q en h q => ?_⟩
      unfold parI at h
      rw [hs, if_neg Bool.false_ne_true] at h
      obtain ⟨v, ρ1, h1, h2⟩ := R.bind_ok h
      obtain ⟨s, ρ2, h3, h4⟩ := R.bind_ok h2
      obtain ⟨h5, rfl⟩ := ofO_ok h3
      obtain ⟨sr, ρ3, h6, h7⟩ := R.bind_ok h4
      cases h7
      refine ⟨ρ, Z, en, v, _, h1, fun w H1 Z1 ex1 en1 hv => ?_⟩
      obtain ⟨Z2, ex2, en2, sv⟩ := ctName_ok (σ0 := σ) (Z0 := Z) hv h5 en1 ex1 fun _ h => h
      refine hq ρ2 Z2 σ H1 sr _ _ en2 h6 fun vs H3 Z3 ex3 en3 ⟨fs, r3⟩ => ?_
      refine q _ H3 Z3 (ex2.trans ex3) en3 ?_
      have r4 : SvA X.K H (Mu ρ' σ) Z3 H3 vs sr fs := r3.weak fun a h => ex2.dom a h
      rcases sv with ⟨e1, r⟩ | ⟨e1, a, rfl, n0, nz, nm, at_⟩
      · exact ⟨fs, .fz e1 (r.ext ex3 en2.zm) r4⟩
      · have ho := Ext.out ex3 (p := a) at_.there nz nm
        exact ⟨a :: fs, .own e1 n0 ho.1 ho.2 (at_.ext ex3 en2.zm nm) (fun m => at_.there (r3.new a m)) r4⟩
theorem sls_ok {x : Str} {xs : List Str} {ss : List Sl} {ρ ρ' : PEnv} (h : setSls C (x :: xs) ss ρ = some ρ') : ∃ s ss' ρ1, ss = s :: ss' ∧ setSl C x s ρ = some ρ1 ∧ setSls C xs ss' ρ1 = some ρ' := by
  cases ss with
  | nil => cases h
  | cons s ss =>
    have h : (setSl C x s ρ).bind (fun ρ' => setSls C xs ss ρ') = some ρ' := h
    cases e : setSl C x s ρ with
    | none => rw [e] at h; cases h
    | some ρ1 => rw [e] at h; exact ⟨s, ss, ρ1, rfl, e, h⟩
theorem sls_nil {ss : List Sl} {ρ ρ' : PEnv} (h : setSls C [] ss ρ = some ρ') : ss = [] ∧ ρ = ρ' := by
  cases ss with
  | nil => cases h; exact ⟨rfl, rfl⟩
  | cons s ss => cases h
theorem par_ok (c : CtxOk X C) (S : SoundE X C E) (ts vs : List Expr) (k k2 : Nat) (p p2 pos : Pos) (ns : List Str) (hsw : swP C.sc ts vs = some (some ns)) :
    PS X (.Assign [.Tuple ts k p] (.Tuple vs k2 p2) pos) (tSt X.K fun ρ => parP C E ns ts vs ρ) := by
  have hq := swP_ok (env := X.env) (k := k) (k2 := k2) (p := p) (p2 := p2) (by rw [← c.sc]; exact hsw)
  unfold parP
  split
  · rename_i x px y py a b
    by_cases hc : (((isLc C.sc x && isLc C.sc y) && decide (x ≠ y)) && decide (ns = [x, y])) = true
    · simp only [hc, if_true]
      simp only [Bool.and_eq_true, decide_eq_true_eq] at hc
      obtain ⟨⟨⟨hx, hy⟩, hne⟩, rfl⟩ := hc
      rw [c.sc] at hx hy
      obtain ⟨t, ht, hi⟩ := parI_ok S [x, y] [a, b]
      have dead : ∀ {D σ H}, tSt X.K (fun ρ => (parI C E [x, y] [a, b] ρ).toS fun ss ρ' => nxO (setSls C [x, y] ss ρ')) D σ H → ∃ s1 s2 ρ1 ρ2 ρ3, setSl C x s1 ρ1 = some ρ2 ∧ setSl C y s2 ρ2 = some ρ3 := fun {D σ H} hw => by
        obtain ⟨ρ, Z, en, h0⟩ := (tSt_eq _ _ _ _ _).mp hw
        obtain ⟨ds, ρ1, a1, a2⟩ := R.toS_ok h0
        obtain ⟨ρ', a3, _⟩ := nxO_ok a2
        obtain ⟨s1, ss1, ρ2, rfl, e1, a3⟩ := sls_ok a3
        obtain ⟨s2, ss2, ρ3, rfl, e2, a3⟩ := sls_ok a3
        exact ⟨s1, s2, ρ1, ρ2, ρ3, e1, e2⟩
      rcases setSl_ok c x px with h | ⟨i, h1, _, _, _, h5⟩
      · refine PS.no fun σ H D hw => ?_
        obtain ⟨s1, s2, ρ1, ρ2, ρ3, e1, e2⟩ := dead hw
        rw [h] at e1; cases e1
      rcases setSl_ok c y py with h | ⟨j, k1, _, _, _, k5⟩
      · refine PS.no fun σ H D hw => ?_
        obtain ⟨s1, s2, ρ1, ρ2, ρ3, e1, e2⟩ := dead hw
        rw [h] at e2; cases e2
      have hij : i ≠ j := fun e => by rw [e, k1] at h1; exact hne (Option.some.inj h1).symm
      refine PS.from (ps_par c.calm c.nd h1 k1 hij (isLc_ok hx) (isLc_ok hy) ht hq rfl) fun D σ H ρ Z en h => ?_
      obtain ⟨ss, ρ1, a1, a2⟩ := R.toS_ok h
      obtain ⟨ρ', a3, a4⟩ := nxO_ok a2
      obtain ⟨s1, ss1, ρ2, rfl, e1, a3⟩ := sls_ok a3
      obtain ⟨s2, ss2, ρ3, rfl, e2, a3⟩ := sls_ok a3
      obtain ⟨rfl, rfl⟩ := sls_nil a3
      refine hi ρ Z σ H _ ρ1 _ en a1 fun vs H1 Z1 ex1 en1 ⟨fs, hr⟩ => ?_
      have two : ∃ v w, vs = [v, w] := by
        cases hr with
        | fz _ _ r => cases r with
          | fz _ _ r => cases r; exact ⟨_, _, rfl⟩
          | own _ _ _ _ _ _ r => cases r; exact ⟨_, _, rfl⟩
        | own _ _ _ _ _ _ r => cases r with
          | fz _ _ r => cases r; exact ⟨_, _, rfl⟩
          | own _ _ _ _ _ _ r => cases r; exact ⟨_, _, rfl⟩
      obtain ⟨v, w, rfl⟩ := two
      obtain ⟨l1, rfl⟩ := h5 _ _ _ e1
      obtain ⟨l2, rfl⟩ := k5 _ _ _ e2
      obtain ⟨en2, ex2, fs2, hr2⟩ := SvA.store en1 ex1 l1 hr
      obtain ⟨en3, ex3, _, _⟩ := SvA.store en2 ex2 l2 hr2
      exact ⟨v, w, rfl, a4 _ _ _ ex3 en3⟩
    · simp only [hc]
      exact PS.none
  · rename_i x px y py z pz a b d
    by_cases hc : ((((((isLc C.sc x && isLc C.sc y) && isLc C.sc z) && decide (x ≠ y)) && decide (x ≠ z)) && decide (y ≠ z)) && decide (ns = [x, y, z])) = true
    · simp only [hc, if_true]
      simp only [Bool.and_eq_true, decide_eq_true_eq] at hc
      obtain ⟨⟨⟨⟨⟨⟨hx, hy⟩, hz⟩, nxy⟩, nxz⟩, nyz⟩, rfl⟩ := hc
      rw [c.sc] at hx hy hz
      obtain ⟨t, ht, hi⟩ := parI_ok S [x, y, z] [a, b, d]
      have dead : ∀ {D σ H}, tSt X.K (fun ρ => (parI C E [x, y, z] [a, b, d] ρ).toS fun ss ρ' => nxO (setSls C [x, y, z] ss ρ')) D σ H → ∃ s1 s2 s3 ρ1 ρ2 ρ3 ρ4, setSl C x s1 ρ1 = some ρ2 ∧ setSl C y s2 ρ2 = some ρ3 ∧ setSl C z s3 ρ3 = some ρ4 := fun {D σ H} hw => by
        obtain ⟨ρ, Z, en, h0⟩ := (tSt_eq _ _ _ _ _).mp hw
        obtain ⟨ds, ρ1, a1, a2⟩ := R.toS_ok h0
        obtain ⟨ρ', a3, _⟩ := nxO_ok a2
        obtain ⟨s1, ss1, ρ2, rfl, e1, a3⟩ := sls_ok a3
        obtain ⟨s2, ss2, ρ3, rfl, e2, a3⟩ := sls_ok a3
        obtain ⟨s3, ss3, ρ4, rfl, e3, a3⟩ := sls_ok a3
        exact ⟨s1, s2, s3, ρ1, ρ2, ρ3, ρ4, e1, e2, e3⟩
      rcases setSl_ok c x px with h | ⟨i, h1, _, _, _, h5⟩
      · refine PS.no fun σ H D hw => ?_
        obtain ⟨s1, s2, s3, ρ1, ρ2, ρ3, ρ4, e1, e2, e3⟩ := dead hw
        rw [h] at e1; cases e1
      rcases setSl_ok c y py with h | ⟨j, k1, _, _, _, k5⟩
      · refine PS.no fun σ H D hw => ?_
        obtain ⟨s1, s2, s3, ρ1, ρ2, ρ3, ρ4, e1, e2, e3⟩ := dead hw
        rw [h] at e2; cases e2
      rcases setSl_ok c z pz with h | ⟨l, l1, _, _, _, l5⟩
      · refine PS.no fun σ H D hw => ?_
        obtain ⟨s1, s2, s3, ρ1, ρ2, ρ3, ρ4, e1, e2, e3⟩ := dead hw
        rw [h] at e3; cases e3
      have hij : i ≠ j := fun e => by rw [e, k1] at h1; exact nxy (Option.some.inj h1).symm
      have hil : i ≠ l := fun e => by rw [e, l1] at h1; exact nxz (Option.some.inj h1).symm
      have hjl : j ≠ l := fun e => by rw [e, l1] at k1; exact nyz (Option.some.inj k1).symm
      refine PS.from (ps_par3 c.calm c.nd h1 k1 l1 hij hil hjl (isLc_ok hx) (isLc_ok hy) (isLc_ok hz) ht hq rfl) fun D σ H ρ Z en h => ?_
      obtain ⟨ss, ρ1, a1, a2⟩ := R.toS_ok h
      obtain ⟨ρ', a3, a4⟩ := nxO_ok a2
      obtain ⟨s1, ss1, ρ2, rfl, e1, a3⟩ := sls_ok a3
      obtain ⟨s2, ss2, ρ3, rfl, e2, a3⟩ := sls_ok a3
      obtain ⟨s3, ss3, ρ4, rfl, e3, a3⟩ := sls_ok a3
      obtain ⟨rfl, rfl⟩ := sls_nil a3
      refine hi ρ Z σ H _ ρ1 _ en a1 fun vs H1 Z1 ex1 en1 ⟨fs, hr⟩ => ?_
      have three : ∃ v w u, vs = [v, w, u] := by
        have step : ∀ {H0 M Z H vs s ss fs}, SvA X.K H0 M Z H vs (s :: ss) fs → ∃ v vs' fs', vs = v :: vs' ∧ SvA X.K H0 M Z H vs' ss fs' := fun h => by
          cases h with
          | fz _ _ r => exact ⟨_, _, _, rfl, r⟩
          | own _ _ _ _ _ _ r => exact ⟨_, _, _, rfl, r⟩
        obtain ⟨v, vsA, fsA, eA, rA⟩ := step hr
        obtain ⟨w, vsB, fsB, eB, rB⟩ := step rA
        obtain ⟨u, vsC, fsC, eC, rC⟩ := step rB
        cases rC
        exact ⟨v, w, u, by rw [eA, eB, eC]⟩
      obtain ⟨v, w, u, rfl⟩ := three
      obtain ⟨l1, rfl⟩ := h5 _ _ _ e1
      obtain ⟨l2, rfl⟩ := k5 _ _ _ e2
      obtain ⟨l3, rfl⟩ := l5 _ _ _ e3
      obtain ⟨en2, ex2, fs2, hr2⟩ := SvA.store en1 ex1 l1 hr
      obtain ⟨en3, ex3, fs3, hr3⟩ := SvA.store en2 ex2 l2 hr2
      obtain ⟨en4, ex4, _, _⟩ := SvA.store en3 ex3 l3 hr3
      exact ⟨v, w, u, rfl, a4 _ _ _ ex4 en4⟩
    · simp only [hc]
      exact PS.none
  · exact PS.none
theorem if_ok (S : SoundE X C E) (t : Expr) (a b : List Stmt) (pos : Pos) : PS X (.If t a b pos) (tSt X.K fun ρ => (E.ts t ρ).toS fun k ρ' => if k then blk E a ρ' else blk E b ρ') := by
  refine PS.from (ps_if (S.ts t) (blk_ok S a) (blk_ok S b)) fun D σ H ρ Z en h => ?_
  obtain ⟨k, ρ1, h1, h2⟩ := R.toS_ok h
  refine ⟨ρ, Z, en, k, ρ1, h1, fun H1 Z1 ex1 en1 => ?_⟩
  cases k with
  | true =>
    rw [if_pos rfl] at h2 ⊢
    exact tSt_mk en1 (h2.from ex1)
  | false =>
    rw [if_neg Bool.false_ne_true] at h2 ⊢
    exact tSt_mk en1 (h2.from ex1)
theorem drop_ok (S : SoundE X C E) (e : Expr) (pos : Pos) (hn : noComp e = true) : PS X (.Expr e pos) (tSt X.K fun ρ => (E.ev e ρ).toS fun _ ρ' => .nx ρ') := by
  refine PS.from (ps_expr (S.ev e) (noComp_sw hn)) fun D σ H ρ Z en h => ?_
  exact ev_first en h fun d ρ1 v H1 Z1 h1 ex1 en1 hv => h1 σ H1 Z1 ex1 en1
theorem isMut_ok {e : Expr} {x m : Str} {args : List Expr} {apos pos : Pos} (h : isMut C e = some (x, m, args, apos, pos)) : ∃ px, e = .Call (.Attribute (.Name x px) m apos) args [] pos := by
  unfold isMut at h
  split at h
  · split at h
    · cases h; exact ⟨_, rfl⟩
    · cases h
  · cases h
theorem swNo {ts : List Expr} {k : Nat} {p : Pos} {e : Expr} {env : Env} (h : ∀ vs vk vp, e ≠ .Tuple vs vk vp) : swappedStores [.Tuple ts k p] e env = pure none := by
  cases e <;> first | rfl | exact (h _ _ _ rfl).elim
theorem st_ok (E : Ctx → Ev) (ih : ∀ X C, CtxOk X C → SoundE X C (E C)) (c : CtxOk X C) (s : Stmt) : PS X s (tSt X.K (stStep E C s)) := by
  have S := ih X C c
  unfold stStep
  split
  · exact PS.from ps_pass fun D σ H ρ Z en h => h σ H Z .refl en
  · exact PS.from ps_break fun D σ H ρ Z en h => h σ H Z .refl en
  · exact PS.from ps_continue fun D σ H ρ Z en h => h σ H Z .refl en
  · exact PS.from ps_doc fun D σ H ρ Z en h => h σ H Z .refl en
  · rename_i e pos _
    by_cases hn : noComp e = true
    · simp only [hn, if_true]
      cases hm : isMut C e with
      | none => exact drop_ok S e pos hn
      | some w =>
        obtain ⟨x, m, args, apos, pos'⟩ := w
        obtain ⟨px, rfl⟩ := isMut_ok hm
        simp only
        by_cases hl : (apos.endLine == pos'.line) = true
        · simp only [hl, if_true]
          exact app_ok c S x args px apos pos' pos m hl
        · simp only [hl]
          exact PS.none
    · simp only [hn]
      exact PS.none
  · exact PS.from ps_retN fun D σ H ρ Z en h => h .non σ H Z .refl en (show Rp X.K Z H .non .none from .non)
  · exact ret_ok c S _ _
  · exact if_ok S _ _ _ _
  · rename_i x p e pos
    by_cases hn : okAsg e = true
    · simp only [hn, if_true]
      exact asgN_ok c S x e p pos hn
    · simp only [hn]
      exact PS.none
  · exact asgS_ok c S _ _ _ _ _ _
  · rename_i ts k p vs vk vp pos
    cases hs : swP C.sc ts vs with
    | none => exact PS.none
    | some r =>
      cases r with
      | none => exact asgT_ok c S ts k p pos _ rfl (swP_ok (by rw [← c.sc]; exact hs))
      | some ns => exact par_ok c S ts vs k vk p vp pos ns hs
  · rename_i ts k p e pos hne
    by_cases hn : noComp e = true
    · simp only [hn, if_true]
      exact asgT_ok c S ts k p pos e hn (swNo fun vs vk vp e0 => hne vs vk vp (by rw [e0]))
    · simp only [hn]
      exact PS.none
  · exact aug_ok c S _ _ _ _ _
  · exact while_ok c S _ _ _
  · exact for_ok c S _ _ _ _
  · exact PS.none
end
/-- all steps -/
theorem evN_ok : ∀ (n : Nat) (X : Cx) (C : Ctx), CtxOk X C → SoundE X C (evN n C)
  | 0, X, C, c => ⟨fun e => PE.none, fun e => PT.none, fun s => PS.none, fun el gens scope lp y py spos i _ _ _ => PS.no fun σ H D ⟨ρ, Z, en, d, ρ', hm, q⟩ => by cases hm⟩
  | n + 1, X, C, c => ⟨fun e => ev_ok (evN n) (evN_ok n) c e, fun e => ts_ok (evN n) (evN_ok n) c e, fun s => st_ok (evN n) (evN_ok n) c s, fun el gens scope lp y py spos i hy hyl hsw => by
      have bad : (∀ ρ, evStep (evN n) C (.ListComp el gens scope lp) ρ = .no) → PS X (.Assign [.Name y py] (.ListComp el gens scope lp) spos) (tAsg (tEv X.K ((evN (n + 1) C).ev (.ListComp el gens scope lp))) (gName i)) := fun hb =>
        PS.no fun σ H D ⟨ρ, Z, en, d, ρ', hm, q⟩ => by
          have hm : evStep (evN n) C (.ListComp el gens scope lp) ρ = .ok d ρ' := hm
          rw [hb] at hm
          cases hm
      match gens with
      | [] => exact bad fun ρ => rfl
      | [⟨tg, it, ifs, k⟩] =>
        cases k with
        | ofNat j =>
          cases j with
          | zero => exact lcA_ok (evN n) (evN_ok n) c el tg it ifs scope lp hy hyl hsw
          | succ j => exact bad fun ρ => rfl
        | negSucc n => exact bad fun ρ => rfl
      | ⟨tg, it, ifs, k⟩ :: g2 :: r =>
        cases k with
        | ofNat j => cases j <;> exact bad fun ρ => rfl
        | negSucc j => exact bad fun ρ => rfl⟩
end TW

set_option Elab.async false
set_option maxRecDepth 100000
set_option maxHeartbeats 1000000
/-! Tw16: defs. -/
namespace TW
open PySem PySem.Spec PyProof.Rows L2
/-- where the text's defs and globals stand -/
structure ProgOk (G : Prog) (K : PySem.W.Frag) (mg : Str → Option Value) : Prop where
  def_ : ∀ f d, findD G.defs f = some d → ∃ fa fd params, mg f = some (.ref fa) ∧ FunD K d.name d.name params d.body d.sc [] [] fa fd ∧ FnScope d.N d.ps d.sc ∧ Binds K fd d.ps []
  glo : ∀ x e, G.glo.lookup x = some e → ∃ u v, mg x = some u ∧ RelV v u ∧ ∀ Z H, Rp K Z H v e
  blt : ∀ x, x ∈ G.blt → mg x = none
  gcd : G.gcd = true → mg "gcd" = some (.builtin "math.gcd")
section
variable {K : PySem.W.Frag} {Z : Addr → Prop} {H : Hp}
theorem ArgsR.get : ∀ {vs : List V} {as : List Sl}, ArgsR K Z H vs as → ∀ (i : Nat) (s : Sl), as[i]? = some s → ∃ v, vs[i]? = some v ∧ ArgR K Z H v s
  | _, _, .nil, i, s, h => by simp at h
  | _, _, .cons r t, 0, s, h => by simp at h; subst h; exact ⟨_, rfl, r⟩
  | _, _, .cons r t, i + 1, s, h => by
    obtain ⟨v, h1, h2⟩ := ArgsR.get t i s (by simpa using h)
    exact ⟨v, by simpa using h1, h2⟩
theorem ArgsR.len : ∀ {vs : List V} {as : List Sl}, ArgsR K Z H vs as → vs.length = as.length
  | _, _, .nil => rfl
  | _, _, .cons _ t => congrArg (· + 1) (ArgsR.len t)
theorem startP_some {d : Def} {as : List Sl} {i : Nat} {s : Sl} (h : (startP d as)[i]? = some (some s)) : as[i]? = some s := by
  unfold startP at h
  rw [List.getElem?_append] at h
  split at h
  · rw [List.getElem?_map] at h
    cases e : as[i]? with
    | none => rw [e] at h; cases h
    | some x => rw [e] at h; exact congrArg some (Option.some.inj (Option.some.inj h))
  · rw [List.getElem?_replicate] at h
    split at h <;> cases h
theorem start_some {N : List Str} {vs : List V} {i : Nat} {v : V} (h : vs[i]? = some v) : (L2.start N vs)[i]? = some (some v) := by
  unfold L2.start
  have hl : i < vs.length := some_lt h
  rw [List.getElem?_append_left (by rw [List.length_map]; exact hl), List.getElem?_map, h]
  rfl
theorem start_back {N : List Str} {vs : List V} {i : Nat} {v : V} (hi : i < vs.length) (h : (L2.start N vs)[i]? = some (some v)) : vs[i]? = some v := by
  unfold L2.start at h
  rw [List.getElem?_append_left (by rw [List.length_map]; exact hi), List.getElem?_map] at h
  cases e : vs[i]? with
  | none => rw [e] at h; cases h
  | some x => rw [e] at h; exact congrArg some (Option.some.inj (Option.some.inj h))
theorem ArgR.slot {v : V} {s : Sl} (h : ArgR K Z H v s) : SlotR K Z H v s := by
  unfold ArgR at h
  unfold SlotR
  cases ht : s.t with
  | fz => rw [ht] at h; exact h
  | own => rw [ht] at h; exact h
  | lent => rw [ht] at h; exact h
  | lf => rw [ht] at h; exact h.elim
theorem env_start {d : Def} {vs : List V} {as : List Sl} (zt : ∀ a, Z a → H a ≠ none) (r : ArgsR K Z H vs as) (ap : ApA vs as) : EnvR K Z (startP d as) (L2.start d.N vs) H where
  zt := zt
  len := by
    unfold startP L2.start
    rw [List.length_append, List.length_append, List.length_map, List.length_map, List.length_replicate, List.length_replicate, r.len]
  sl := fun i s h => by
    obtain ⟨v, h1, h2⟩ := r.get i s (startP_some h)
    exact ⟨v, start_some h1, h2.slot⟩
  ap := fun i j s u a h1 h2 f1 f2 h3 h4 => by
    have e1 := startP_some h1
    have e2 := startP_some h2
    have l1 : i < vs.length := by rw [r.len]; exact some_lt e1
    have l2 : j < vs.length := by rw [r.len]; exact some_lt e2
    rw [fz_mut] at f1 f2
    exact ap i j s u a e1 e2 (by simpa using f1) (by simpa using f2) (start_back l1 h3) (start_back l2 h4)
/-- the parts of the callee's promise -/
theorem back_ok {Z' : Addr → Prop} {H' : Hp} {ρ' : PEnv} {σ' : L2.St} (en : EnvR K Z' ρ' σ' H') : ∀ (vs : List V) (as : List Sl) (pre : Nat) (bs : List Sl), vs.length = as.length → (∀ i a, i < as.length → La ρ' σ' (pre + i) a → vs[i]? = some (V.ref a)) → backP as (ρ'.drop pre) = some bs → BackR K Z' H' vs as bs
  | [], [], pre, bs, _, _, h => by
    cases h
    exact True.intro
  | v :: vs, s :: as, pre, bs, hl, hla, h => by
    have hd : ρ'.drop pre ≠ [] := fun e => by unfold backP at h; rw [e] at h; cases h
    have hp : pre < ρ'.length := by
      rcases Nat.lt_or_ge pre ρ'.length with q | q
      · exact q
      · exact (hd (List.drop_of_length_le q)).elim
    have hx : ρ'[pre]? = some ρ'[pre] := List.getElem?_eq_getElem hp
    rw [List.drop_eq_getElem_cons hp] at h
    generalize ρ'[pre] = x at h hx
    have rest : ∀ bs, backP as (ρ'.drop (pre + 1)) = some bs → BackR K Z' H' vs as bs := fun bs h => back_ok en vs as (pre + 1) bs (by simpa using hl) (fun i a hi h => by
      have := hla (i + 1) a (by rw [List.length_cons]; omega) (by rw [show pre + (i + 1) = pre + 1 + i by omega]; exact h)
      simpa using this) h
    unfold backP at h
    unfold BackR
    cases ht : s.t with
    | lent =>
      simp only [ht] at h ⊢
      split at h
      · rename_i d
        cases e : backP as (ρ'.drop (pre + 1)) with
        | none => rw [e] at h; cases h
        | some r =>
          rw [e] at h
          cases h
          refine ⟨?_, rest r e⟩
          obtain ⟨w, hw, sr⟩ := en.sl pre _ hx
          obtain ⟨a, rfl, nz, hat⟩ := sr.mut rfl
          have hv := hla 0 a (by simp) ⟨_, hx, rfl, hw⟩
          simp at hv
          exact ⟨a, hv, nz, hat⟩
      · rename_i d
        cases e : backP as (ρ'.drop (pre + 1)) with
        | none => rw [e] at h; cases h
        | some r =>
          rw [e] at h
          cases h
          refine ⟨?_, rest r e⟩
          obtain ⟨w, hw, sr⟩ := en.sl pre _ hx
          have rp : Rp K Z' H' w (.list d) := sr.fz rfl
          have hr : ∃ a, w = .ref a := by cases rp <;> exact ⟨_, rfl⟩
          obtain ⟨a, rfl⟩ := hr
          have hv := hla 0 a (by simp) ⟨_, hx, rfl, hw⟩
          simp at hv
          subst hv
          exact rp
      · cases h
    | fz => simp only [ht] at h ⊢; exact rest bs h
    | own => simp only [ht] at h ⊢; exact rest bs h
    | lf => simp only [ht] at h ⊢; exact rest bs h
end
section
variable {P : Program} {w : World} {K : PySem.W.Frag} {mg : Str → Option Value} {base : Heap} {G : Prog}
theorem cx_ok (PO : ProgOk G K mg) {k : Nat} {d : Def} {f : Addr} {cdv : Value} {A : Around} {outer : List Env} {s : Shared} {H : Hp} {E : XK} (nd : d.N.Nodup) (hr : Room k (A.deeper (envOfC d.name d.sc s.heap.objs.size f cdv)))
    (ih : ∀ f d, findD G.defs f = some d → ∀ fa fd params, FunD K d.name d.name params d.body d.sc [] [] fa fd → FnScope d.N d.ps d.sc → FnOk P w K mg base CX0 k fa fd d.ps (spC K (callK G k) f d.ps.length))
    (hlen : ∀ f as d fr back, callK G k f as = .ok d fr back → ∀ dd, findD G.defs f = some dd → as.length = dd.ps.length) :
    CtxOk (cxOf CX0 P w K mg base d.N d.name d.sc f cdv A outer s H E).nox (ctxOf G d (callK G k)) where
  N := rfl
  sc := rfl
  nd := nd
  calm := rfl
  hu := by
    have := hr.un
    show (A.deeper (envOfC d.name d.sc s.heap.objs.size f cdv)).units + 100 < cLine
    omega
  po := PassesOwn.never
  glo := fun x e h => PO.glo x e h
  blt := fun x h => by
    have h : (G.blt.any fun y => decide (y = x)) = true := h
    obtain ⟨y, hy, e⟩ := List.any_eq_true.mp h
    have e := of_decide_eq_true e
    subst e
    exact PO.blt _ hy
  gcd := PO.gcd
  own := fun x _ => rfl
  call := fun g ms h => by
    have h : (findD G.defs g).map (·.pm) = some ms := h
    cases e : findD G.defs g with
    | none => rw [e] at h; cases h
    | some d2 =>
      obtain ⟨fa, fd, params, h1, h2, h3, h4⟩ := PO.def_ g d2 e
      exact ⟨fa, fd, d2.ps, k, h1, h2.kp, h4, hr, fun as r fr back hc => hlen g as r fr back hc d2 e, ih g d2 e fa fd params h2 h3⟩
theorem call_len_ok (G : Prog) (k : Nat) (f : Str) (as : List Sl) (r : PyData) (fr : Bool) (back : List Sl) (h : callK G k f as = .ok r fr back) (dd : Def) (hd : findD G.defs f = some dd) : as.length = dd.ps.length := by
  cases k with
  | zero => cases h
  | succ k =>
    unfold callK at h
    rw [hd] at h
    simp only at h
    unfold runD at h
    split at h
    · assumption
    · cases h
theorem body_ok {d : Def} {k : Nat} {E : XK} {H : Hp} {vs : List V} {Q : VK} {f : Str} (hf : findD G.defs f = some d) (h : spC K (callK G (k + 1)) f d.ps.length vs H Q E) :
    tSt K (blk (evN FU (ctxOf G d (callK G k))) d.body) { nx := fun _ H' => Q .non H', rt := Q } (L2.start d.N vs) H := by
  obtain ⟨hl, as, Z, zt, ar, ap, r, fr, back, hc, q⟩ := h
  have hc : runD G (callK G k) d as = .ok r fr back := by
    have : callK G (k + 1) f as = runD G (callK G k) d as := by
      show (match findD G.defs f with | some d => runD G (callK G k) d as | none => .no) = _
      rw [hf]
    rw [← this]; exact hc
  unfold runD at hc
  split at hc
  · have en := env_start (d := d) zt ar ap
    have muI : ∀ a, Mu (startP d as) (L2.start d.N vs) a → MA vs as a := fun a ⟨i, s, h1, h2, h3⟩ => by
      have e := startP_some h1
      exact ⟨i, s, e, h2, start_back (by rw [ar.len]; exact some_lt e) h3⟩
    have owI : ∀ a, Ow (startP d as) (L2.start d.N vs) a → OA vs as a := fun a ⟨i, s, h1, h2, h3⟩ => by
      have e := startP_some h1
      exact ⟨i, s, e, h2, start_back (by rw [ar.len]; exact some_lt e) h3⟩
    have bk : ∀ ρ' σ' H' Z' b, EnvR K Z' ρ' σ' H' → Ex (startP d as) (L2.start d.N vs) Z H ρ' σ' Z' H' → backP as ρ' = some b → BackR K Z' H' vs as b := fun ρ' σ' H' Z' b en' ex' hb => by
      refine back_ok en' vs as 0 b ar.len (fun i a hi hla => ?_) (by rw [List.drop_zero]; exact hb)
      rw [Nat.zero_add] at hla
      obtain ⟨s, h1, h2, h3⟩ := ex'.lt i a hla
      exact start_back (by rw [ar.len]; exact hi) h3
    refine tSt_mk en ?_
    split at hc
    · rename_i ρ' hb
      rw [hb]
      split at hc
      · rename_i b hbk
        cases hc
        intro σ' H' Z' ex' en'
        exact q .non H' Z' (fun a o h n => ex'.keep a o h fun m => n (muI a m)) ex'.dom ex'.zm (fun a z => (ex'.zg a z).imp id fun x => x.imp (muI a) id) en'.zt (bk ρ' σ' H' Z' _ en' ex' hbk) (by rw [if_neg Bool.false_ne_true]; exact .non)
      · cases hc
    · rename_i v fr' ρ' hb
      rw [hb]
      split at hc
      · rename_i b hbk
        cases hc
        intro u σ' H' Z' ex' en' hv
        refine q u H' Z' (fun a o h n => ex'.keep a o h fun m => n (muI a m)) ex'.dom ex'.zm (fun a z => (ex'.zg a z).imp id fun x => x.imp (muI a) id) en'.zt (bk ρ' σ' H' Z' _ en' ex' hbk) ?_
        unfold ValS at hv
        by_cases hfr : fr = true
        · rw [if_pos hfr] at hv ⊢
          obtain ⟨a, e, ho, nz, nm, hat⟩ := hv
          have ho' : OA vs as a ∨ H a = none := ho.imp (owI a) id
          refine ⟨a, e, ho', nz, fun i s hs hl hv => ?_, hat⟩
          obtain ⟨v2, g1, g2⟩ := ar.get i s hs
          rw [hv] at g1
          cases g1
          unfold ArgR at g2
          rw [hl] at g2
          obtain ⟨b, eb, nzb, hab⟩ := g2
          cases eb
          rcases ho' with ⟨j, s2, k1, k2, k3⟩ | ho'
          · have := ap i j s s2 a hs k1 (by rw [hl]; rfl) (own_mut k2) hv k3
            subst this
            rw [hs] at k1
            cases k1
            rw [hl] at k2
            cases k2
          · exact hab.there ho'
        · rw [if_neg hfr] at hv ⊢
          exact hv
      · cases hc
    · split at hc <;> cases hc
    · cases hc
  · cases hc
/-- every def keeps its promise -/
theorem fn_ok (PO : ProgOk G K mg) : ∀ (k : Nat) (f : Str) (d : Def), findD G.defs f = some d → ∀ (fa : Addr) (fd : FuncData) (params : Arguments), FunD K d.name d.name params d.body d.sc [] [] fa fd → FnScope d.N d.ps d.sc → FnOk P w K mg base CX0 k fa fd d.ps (spC K (callK G k) f d.ps.length)
  | 0, f, d, hf, fa, fd, params, F, S => ⟨fun vs H Q E h => h.1, fun A outer s H args us vs Q E hr he hb hv hs => by
      obtain ⟨_, as, Z, _, _, _, r, fr, back, hc, _⟩ := hs
      cases hc⟩
  | k + 1, f, d, hf, fa, fd, params, F, S => F.ok S (fun vs H Q E h => h.1) fun cdv A outer s H vs Q E hr h => by
      have c := cx_ok (P := P) (w := w) (base := base) (outer := outer) (H := H) (E := E) PO S.nd hr (fn_ok PO k) (call_len_ok G k)
      exact ⟨_, PSs.nox (blk_ok (evN_ok FU _ _ c) d.body), body_ok hf h⟩
/-- the law's own promise -/
theorem law_sp {G : Prog} {k : Nat} {f : Str} {H : Hp} {a : Addr} {ns : List Int} {E : XK} (h : ∃ fr back, callK G k f [⟨.fz, .list (ns.map PyData.int)⟩] = .ok (.bool true) fr back) (hS : SqL K H a (ns.map V.int)) : spC K (callK G k) f 1 [.ref a] H (fun v _ => v = .bl true) E := by
  obtain ⟨fr, back, h⟩ := h
  have ra : ∀ (Z : Addr → Prop) (ns : List Int), RpA K Z H (ns.map V.int) (ns.map PyData.int) := fun Z ns => by
    induction ns with
    | nil => exact .nil
    | cons n ns ih => exact .cons (.int n) ih
  have main : ∀ Z, (∀ a, Z a → H a ≠ none) → Rp K Z H (.ref a) (.list (ns.map PyData.int)) → spC K (callK G k) f 1 [.ref a] H (fun v _ => v = .bl true) E := fun Z zt r => by
    refine ⟨rfl, [⟨.fz, .list (ns.map PyData.int)⟩], Z, zt, .cons r .nil, fun i j s u b h1 h2 m1 => ?_, _, fr, back, h, fun v H' Z' _ _ _ _ _ _ hv => ?_⟩
    · cases i with
      | zero => simp at h1; subst h1; cases m1
      | succ i => simp at h1
    · by_cases hf : fr = true
      · rw [if_pos hf] at hv
        obtain ⟨b, _, _, _, _, hat⟩ := hv
        cases hat
      · rw [if_neg hf] at hv
        cases hv
        rfl
  rcases hS with hS | hS
  · refine main (fun b => b = a) (fun b e => ?_) (.lst rfl hS (ra _ _))
    subst e
    rcases hS with h | ⟨o, h⟩
    · rw [h]; exact fun z => nomatch z
    · rw [h]; exact fun z => nomatch z
  · exact main (fun _ => False) (fun _ h => h.elim) (.lstK hS (ra _ _))
end
end TW

set_option Elab.async false
set_option maxRecDepth 100000
set_option maxHeartbeats 1000000
/-! Tw17: the head, the law's end. -/
namespace TW
open PySem PySem.Spec PyProof.Rows L2
/-! ### data of the written part -/
mutual
def datB (K : PySem.W.Frag) : Nat → Value → PyData → Bool
  | _, .none, .none => true
  | _, .bool b, .bool c => b == c
  | _, .int i _, .int j => decide (i = j)
  | _, .str x _, .str y => decide (x = y)
  | n + 1, .ref a, .tuple ds => (match K.lookup a with
    | some ⟨.type c, _, .seq its _, _⟩ => decide (c = "tuple") && (decide (its.size ≤ sizeLine) && datA K n its.toList ds)
    | _ => false)
  | n + 1, .ref a, .list ds => (match K.lookup a with
    | some ⟨.type c, none, .seq its _, _⟩ => decide (c = "list") && (decide (its.size ≤ sizeLine) && datA K n its.toList ds)
    | _ => false)
  | _, _, _ => false
def datA (K : PySem.W.Frag) : Nat → List Value → List PyData → Bool
  | _, [], [] => true
  | n, u :: us, d :: ds => datB K n u d && datA K n us ds
  | _, _, _ => false
end
theorem datT_ok {K : PySem.W.Frag} (n : Nat) (ih : ∀ u d, datB K n u d = true → ∃ v, RelV v u ∧ ∀ Z H, Rp K Z H v d) : ∀ (us : List Value) (ds : List PyData), datA K n us ds = true → ∃ vs, Vals vs us ∧ ∀ Z H, RpA K Z H vs ds
  | [], [], _ => ⟨[], .nil, fun _ _ => .nil⟩
  | u :: us, d :: ds, h => by
    unfold datA at h
    obtain ⟨h1, h2⟩ := He.ba h
    obtain ⟨v, r, q⟩ := ih u d h1
    obtain ⟨vs, rs, qs⟩ := datT_ok n ih us ds h2
    exact ⟨v :: vs, .cons r rs, fun Z H => .cons (q Z H) (qs Z H)⟩
  | [], _ :: _, h => by unfold datA at h; cases h
  | _ :: _, [], h => by unfold datA at h; cases h
theorem datB_ok {K : PySem.W.Frag} : ∀ (n : Nat) (u : Value) (d : PyData), datB K n u d = true → ∃ v, RelV v u ∧ ∀ Z H, Rp K Z H v d := by
  have sc : ∀ (n : Nat) (u : Value) (d : PyData), datB K n u d = true → (∃ v, RelV v u ∧ ∀ Z H, Rp K Z H v d) ∨ ∃ m a, n = m + 1 ∧ u = .ref a ∧ ((∃ ds, d = .tuple ds) ∨ ∃ ds, d = .list ds) := fun n u d h => by
    cases u with
    | none => cases d with
      | none => exact .inl ⟨.non, rfl, fun _ _ => .non⟩
      | _ => cases n <;> (unfold datB at h; cases h)
    | bool b => cases d with
      | bool c =>
        have e : b = c := by cases n <;> (unfold datB at h; exact eq_of_beq h)
        subst e
        exact .inl ⟨.bl b, rfl, fun _ _ => .bl b⟩
      | _ => cases n <;> (unfold datB at h; cases h)
    | int i t => cases d with
      | int j =>
        have e : i = j := by cases n <;> (unfold datB at h; exact of_decide_eq_true h)
        subst e
        exact .inl ⟨.int i, ⟨t, rfl⟩, fun _ _ => .int i⟩
      | _ => cases n <;> (unfold datB at h; cases h)
    | str i t => cases d with
      | str j =>
        have e : i = j := by cases n <;> (unfold datB at h; exact of_decide_eq_true h)
        subst e
        exact .inl ⟨.str i, ⟨t, rfl⟩, fun _ _ => .str i⟩
      | _ => cases n <;> (unfold datB at h; cases h)
    | ref a => cases n with
      | zero => cases d <;> (unfold datB at h; cases h)
      | succ m => cases d with
        | tuple ds => exact .inr ⟨m, a, rfl, rfl, .inl ⟨ds, rfl⟩⟩
        | list ds => exact .inr ⟨m, a, rfl, rfl, .inr ⟨ds, rfl⟩⟩
        | _ => unfold datB at h; cases h
    | _ => cases n <;> cases d <;> (unfold datB at h; cases h)
  intro n
  induction n with
  | zero =>
    intro u d h
    rcases sc 0 u d h with h | ⟨m, a, e, _⟩
    · exact h
    · cases e
  | succ n ih =>
    intro u d h
    rcases sc (n + 1) u d h with h | ⟨m, a, e, rfl, hd⟩
    · exact h
    · cases e
      rcases hd with ⟨ds, rfl⟩ | ⟨ds, rfl⟩
      · unfold datB at h
        split at h
        · rename_i c od its k sl q
          obtain ⟨h1, h2⟩ := He.ba h
          obtain ⟨h3, h4⟩ := He.ba h2
          obtain ⟨vs, rs, qs⟩ := datT_ok n ih _ _ h4
          exact ⟨.ref a, rfl, fun Z H => .tupK ⟨_, its, k, q, congrArg Value.type (of_decide_eq_true h1), rfl, of_decide_eq_true h3, rs⟩ (qs Z H)⟩
        · cases h
      · unfold datB at h
        split at h
        · rename_i c its k sl q
          obtain ⟨h1, h2⟩ := He.ba h
          obtain ⟨h3, h4⟩ := He.ba h2
          obtain ⟨vs, rs, qs⟩ := datT_ok n ih _ _ h4
          exact ⟨.ref a, rfl, fun Z H => .lstK ⟨_, its, k, q, congrArg Value.type (of_decide_eq_true h1), rfl, rfl, of_decide_eq_true h3, rs⟩ (qs Z H)⟩
        · cases h
/-- the module's name x is d -/
def gdB (K : PySem.W.Frag) (p : Str × PyData) : Bool := match PySem.W.nsIn K mainGlobals p.1 with
  | some (some u) => datB K 8 u p.2
  | _ => false
def gcB (K : PySem.W.Frag) : Bool := He.eqO (PySem.W.nsIn K mainGlobals "gcd") (some (some (.builtin "math.gcd")))

/-! ### the head's facts -/
def dD (d : Def) : He.DefD := ⟨(d.name, none), d.name, d.name, d.args, d.body, d.sc, [], []⟩
def fnG (G : Prog) : List He.DefD := G.defs.map dD
def chkT (G : Prog) (K : PySem.W.Frag) : Bool := (G.defs.all fun d => (He.Fa.glo d.name).ok K) && ((G.blt.all fun x => (He.Fa.free x).ok K) && ((G.glo.all fun p => gdB K p) && ((!G.gcd || gcB K) && (G.defs.all fun d => (dD d).ok K))))
def obsT (G : Prog) (K : PySem.W.Frag) : He.AlD := (chkT G K, G.defs.map fun d => He.fnW K (d.name, none))
def valT (G : Prog) : He.AlD := (true, G.defs.map fun d => (dD d).val)
def SaysT (G : Prog) (K : PySem.W.Frag) : Prop := obsT G K = valT G
def obsTG (n : Nat) (G : Prog) (g : Addr → Option Obj) : He.AlD := obsT G (He.frG g (He.asD g n))
def hookT (n : Nat) (G : Prog) : PySem.W.Hook where
  α := He.AlD
  obs := fun s => obsTG n G s.heap.get?
  val := fun _ => valT G
  says := fun _ h => ∃ K : PySem.W.Frag, K.In h ∧ SaysT G K
  of := fun _ _ e => ⟨_, He.frG_in, e⟩
  keeps := fun _ _ _ ⟨K, hK, c⟩ k => ⟨K, PySem.W.Frag.In.keeps hK k, c⟩
theorem obsTG_eq {n : Nat} {G : Prog} {g : Addr → Option Obj} {s : Shared} (h : ∀ a, g a = s.heap.get? a) : obsTG n G g = (hookT n G).obs s := by
  have e : g = s.heap.get? := funext h
  rw [e]
  rfl
structure DefOk (d : Def) : Prop where
  sc : FnScope d.N d.ps d.sc
  bd : ∀ (kV doc pm : Value) (an : Option Addr) (cdv ct : Value) (us : List Value), us.length = d.ps.length → bindArgs (PySem.W.fnOf d.name d.name d.args d.body d.sc .none kV doc pm an cdv ct) ⟨us, []⟩ = pure (d.ps.zip us)
inductive AllD (P : Def → Prop) : List Def → Prop
  | nil : AllD P []
  | cons {d : Def} {ds : List Def} : P d → AllD P ds → AllD P (d :: ds)
theorem AllD.mem {P : Def → Prop} : ∀ {ds : List Def}, AllD P ds → ∀ d ∈ ds, P d
  | _, .nil, _, h => nomatch h
  | _, .cons p r, d, h => (List.mem_cons.mp h).elim (fun e => e ▸ p) (AllD.mem r d)
/-- a def's scope, by computation -/
def scB (d : Def) : Bool := (match d.sc.kind with | .function => true | _ => false) && (!d.sc.isCoroutine && (!d.sc.isGenerator && (decide d.N.Nodup && (decide (d.N.take d.ps.length = d.ps) && ((d.ps.all fun x => match d.sc.names.lookup x with | some .local => true | some .cell => true | _ => false) && (d.sc.names.all fun y => match y.2 with | .free => false | _ => true))))))
theorem scB_ok {d : Def} (h : scB d = true) : FnScope d.N d.ps d.sc := by
  unfold scB at h
  obtain ⟨h1, h⟩ := He.ba h
  obtain ⟨h2, h⟩ := He.ba h
  obtain ⟨h3, h⟩ := He.ba h
  obtain ⟨h4, h⟩ := He.ba h
  obtain ⟨h5, h⟩ := He.ba h
  obtain ⟨h6, h7⟩ := He.ba h
  refine ⟨?_, by simpa using h2, by simpa using h3, of_decide_eq_true h4, of_decide_eq_true h5, fun x hx => ?_, fun y hy => ?_⟩
  · split at h1
    · assumption
    · cases h1
  · have := List.all_eq_true.mp h6 x hx
    split at this
    · exact .inl (by assumption)
    · exact .inr (by assumption)
    · cases this
  · have := List.all_eq_true.mp h7 y hy
    intro e
    rw [e] at this
    cases this
section
variable {G : Prog} {K : PySem.W.Frag} {h : Heap} {mg : Str → Option Value}
theorem findD_mem {f : Str} {d : Def} {ds : List Def} (h : findD ds f = some d) : d ∈ ds ∧ d.name = f := by
  unfold findD at h
  exact ⟨List.mem_of_find?_eq_some h, of_decide_eq_true (List.find?_some (p := fun d : Def => decide (d.name = f)) h)⟩
theorem progOk (X : K.In h) (N : h.Ns mainGlobals mg) (c : SaysT G K) (hall : AllD DefOk G.defs) : ProgOk G K mg := by
  have c1 : chkT G K = true := congrArg (fun z : He.AlD => z.1) c
  have c2 : (G.defs.map fun d => He.fnW K (d.name, none)) = G.defs.map fun d => (dD d).val := congrArg (fun z : He.AlD => z.2) c
  unfold chkT at c1
  obtain ⟨e1, c1⟩ := He.ba c1
  obtain ⟨e2, c1⟩ := He.ba c1
  obtain ⟨e3, c1⟩ := He.ba c1
  obtain ⟨e4, e5⟩ := He.ba c1
  refine ⟨fun f d hf => ?_, fun x e hx => ?_, fun x hx => ?_, fun hg => ?_⟩
  · obtain ⟨hm, rfl⟩ := findD_mem hf
    have k1 := He.glo_ok X N (List.all_eq_true.mp e1 d hm)
    have k2 : He.fnW K (d.name, none) = (dD d).val := by
      obtain ⟨i, hi⟩ := List.getElem?_of_mem hm
      have := congrArg (fun l => l[i]?) c2
      simp only [List.getElem?_map, hi] at this
      exact Option.some.inj this
    obtain ⟨fd, F⟩ := He.DefD.funD (d := dD d) k2 (List.all_eq_true.mp e5 d hm)
    have F : FunD K d.name d.name d.args d.body d.sc [] [] (He.ga K d.name) fd := F
    have D := hall.mem d hm
    exact ⟨_, fd, d.args, k1, F, D.sc, F.bindsN D.bd⟩
  · have hm : (x, e) ∈ G.glo := by
      have key : ∀ l : List (Str × PyData), l.lookup x = some e → (x, e) ∈ l := fun l => by
        induction l with
        | nil => intro h; cases h
        | cons y l ih =>
          intro h
          obtain ⟨n, k1⟩ := y
          rw [List.lookup_cons] at h
          cases q : x == n with
          | true =>
            rw [q] at h
            have q1 : x = n := by simpa using q
            have q2 : k1 = e := Option.some.inj h
            subst q1 q2
            exact List.mem_cons_self
          | false => rw [q] at h; exact List.mem_cons_of_mem _ (ih h)
      exact key _ hx
    have := List.all_eq_true.mp e3 _ hm
    unfold gdB at this
    split at this
    · rename_i u hu
      obtain ⟨v, r, q⟩ := datB_ok _ _ _ this
      exact ⟨u, v, PySem.W.mg_of X N hu, r, q⟩
    · cases this
  · exact He.free_ok X N (List.all_eq_true.mp e2 x hx)
  · rw [hg] at e4
    exact PySem.W.mg_of X N (He.eqO_ok e4)
/-- the law's def: its promise -/
theorem law_facts {P : Program} {w : World} {fa : Addr} {k : Nat} {f x : Str} {dl : Def} (X : K.In h) (N : h.Ns mainGlobals mg) (c : SaysT G K) (hall : AllD DefOk G.defs) (hl : findD G.defs f = some dl) (hp : dl.ps = [x]) (hmg : mg f = some (.ref fa)) :
    ∃ fd : FuncData, (∀ (s : Shared) (v : Value), BindsTo s fd ⟨[v], []⟩ [(x, v)]) ∧ ∀ base : Heap, FnOk P w K mg base CX0 k fa fd [x] (spC K (callK G k) f 1) := by
  have PO := progOk X N c hall
  have hm := (findD_mem hl).1
  have c1 : chkT G K = true := congrArg (fun z : He.AlD => z.1) c
  have c2 : (G.defs.map fun d => He.fnW K (d.name, none)) = G.defs.map fun d => (dD d).val := congrArg (fun z : He.AlD => z.2) c
  unfold chkT at c1
  obtain ⟨e1, c1⟩ := He.ba c1
  obtain ⟨e2, c1⟩ := He.ba c1
  obtain ⟨e3, c1⟩ := He.ba c1
  obtain ⟨e4, e5⟩ := He.ba c1
  have k1 := He.glo_ok X N (List.all_eq_true.mp e1 dl hm)
  have k2 : He.fnW K (dl.name, none) = (dD dl).val := by
    obtain ⟨i, hi⟩ := List.getElem?_of_mem hm
    have := congrArg (fun l => l[i]?) c2
    simp only [List.getElem?_map, hi] at this
    exact Option.some.inj this
  obtain ⟨fd, F⟩ := He.DefD.funD (d := dD dl) k2 (List.all_eq_true.mp e5 dl hm)
  have F : FunD K dl.name dl.name dl.args dl.body dl.sc [] [] (He.ga K dl.name) fd := F
  have D := hall.mem dl hm
  have ea : fa = He.ga K dl.name := by
    rw [(findD_mem hl).2, hmg] at k1
    cases k1
    rw [(findD_mem hl).2]
  subst ea
  refine ⟨fd, fun s v => ?_, fun base => ?_⟩
  · have := FunD.bindsA F D.bd s [v] (by rw [hp]; rfl)
    rw [hp] at this
    exact this
  · have := fn_ok (P := P) (w := w) (base := base) PO k f dl hl (He.ga K dl.name) fd dl.args F D.sc
    rw [hp] at this
    exact this
end
end TW

set_option Elab.async false
set_option maxRecDepth 100000
set_option maxHeartbeats 1000000
/-! Tw18: the steps as rules. -/
namespace TW
open PySem
section
variable {E : Ctx → Ev} {C : Ctx} {ρ : PEnv} {n : Nat}
theorem q_ev {e : Expr} : (evN (n + 1) C).ev e ρ = evStep (evN n) C e ρ := rfl
theorem q_ts {e : Expr} : (evN (n + 1) C).ts e ρ = tsStep (evN n) C e ρ := rfl
theorem q_st {s : Stmt} : (evN (n + 1) C).st s ρ = stStep (evN n) C s ρ := rfl
/-! expressions -/
theorem q_name {x : Str} {p : Pos} : evStep E C (.Name x p) ρ = rdName C x ρ := rfl
theorem q_int {i : Int} {k : Nat} {p : Pos} : evStep E C (.Constant (.int i) k p) ρ = .ok (.int i, false) ρ := rfl
theorem q_str {i : Str} {k : Nat} {p : Pos} : evStep E C (.Constant (.str i) k p) ρ = .ok (.str i, false) ρ := rfl
theorem q_bool {i : Bool} {k : Nat} {p : Pos} : evStep E C (.Constant (.bool i) k p) ρ = .ok (.bool i, false) ρ := rfl
theorem q_none {k : Nat} {p : Pos} : evStep E C (.Constant .none k p) ρ = .ok (.none, false) ρ := rfl
theorem q_bin {a b : Expr} {op : Operator} {p : Pos} : evStep E C (.BinOp a op b p) ρ = (pk2 C (E C) a b ρ).bind fun p ρ' => (ofO (binP op p.1 p.2) ρ').bind fun d ρ'' => .ok (d, isCt d) ρ'' := rfl
theorem q_not {a : Expr} {p : Pos} : evStep E C (.UnaryOp .Not a p) ρ = (pkE C (E C) a ρ).bind fun d ρ' => (ofO (truP d) ρ').bind fun b ρ'' => .ok (.bool (!b), false) ρ'' := rfl
theorem q_neg {a : Expr} {p : Pos} : evStep E C (.UnaryOp .USub a p) ρ = ((E C).ev a ρ).bind fun v ρ' => (ofO (unP .USub v.1) ρ').bind fun d ρ'' => .ok (d, false) ρ'' := rfl
theorem q_bool2 {op : BoolOp} {vs : List Expr} {p : Pos} : evStep E C (.BoolOp op vs p) ρ = boolV (E C) op vs ρ := rfl
theorem q_cmp {l r : Expr} {op : CmpOp} {p : Pos} : evStep E C (.Compare l [op] [r] p) ρ = (cmp1 C (E C) l op r ρ).bind fun b ρ' => .ok (.bool b, false) ρ' := rfl
theorem q_cmp2 {l b c : Expr} {op op' : CmpOp} {p : Pos} : evStep E C (.Compare l [op, op'] [b, c] p) ρ = (cmp2 C (E C) l op op' b c ρ).bind fun b ρ' => .ok (.bool b, false) ρ' := rfl
theorem q_ife {t a b : Expr} {p : Pos} : evStep E C (.IfExp t a b p) ρ = ((E C).ts t ρ).bind fun k ρ' => if k then (E C).ev a ρ' else (E C).ev b ρ' := rfl
theorem q_tup {es : List Expr} {k : Nat} {p : Pos} : evStep E C (.Tuple es k p) ρ = (items (E C) es ρ).bind fun ds ρ' => if ds.length ≤ sizeLine then .ok (.tuple ds, false) ρ' else .no := rfl
theorem q_lst {es : List Expr} {p : Pos} : evStep E C (.List es p) ρ = (items (E C) es ρ).bind fun ds ρ' => if ds.length ≤ sizeLine then .ok (.list ds, true) ρ' else .no := rfl
theorem q_dct {ks : List (Option Expr)} {vs : List Expr} {p : Pos} : evStep E C (.Dict ks vs p) ρ = if ks.length ≤ 15 then (dispP C (E C) ks vs ρ).bind fun r ρ' => (ofO (mrg r []) ρ').bind fun z ρ'' => .ok (.dict z, true) ρ'' else .no := rfl
theorem q_slc {a : Expr} {lo hi : Option Expr} {p p2 : Pos} : evStep E C (.Subscript a (.Slice lo hi none p2) p) ρ = (sl3 C (E C) a lo hi ρ).bind fun p ρ' => (ofO (slcP p.1 p.2.1 p.2.2) ρ').bind fun d ρ'' => .ok (d, isCt d) ρ'' := rfl
theorem q_sub {a b : Expr} {p : Pos} (h : noSlice b = true) : evStep E C (.Subscript a b p) ρ = (pk2 C (E C) a b ρ).bind fun p ρ' => (ofO (idxP p.1 p.2) ρ').bind fun d ρ'' => .ok (d, false) ρ'' := by
  cases b with
  | Slice lo hi st p => cases st with
    | none => cases h
    | some e => rfl
  | _ => rfl
/-! tests -/
theorem t_not {x : Expr} {p : Pos} : tsStep E C (.UnaryOp .Not x p) ρ = ((E C).ts x ρ).bind fun b ρ' => .ok (!b) ρ' := rfl
theorem t_bool {op : BoolOp} {vs : List Expr} {p : Pos} : tsStep E C (.BoolOp op vs p) ρ = allT (E C) op vs ρ := rfl
theorem t_cmp {l r : Expr} {op : CmpOp} {p : Pos} : tsStep E C (.Compare l [op] [r] p) ρ = cmp1 C (E C) l op r ρ := rfl
theorem t_cmp2 {l b c : Expr} {op op' : CmpOp} {p : Pos} : tsStep E C (.Compare l [op, op'] [b, c] p) ρ = cmp2 C (E C) l op op' b c ρ := rfl
theorem t_name {x : Str} {p : Pos} : tsStep E C (.Name x p) ρ = (pkE C (E C) (.Name x p) ρ).bind fun d ρ' => ofO (truP d) ρ' := rfl
theorem t_call {f : Expr} {es : List Expr} {ks : List Keyword} {p : Pos} : tsStep E C (.Call f es ks p) ρ = (pkE C (E C) (.Call f es ks p) ρ).bind fun d ρ' => ofO (truP d) ρ' := rfl
/-! bind -/
theorem b_ok {α β : Type} {a : α} {f : α → PEnv → R β} : (R.ok a ρ).bind f = f a ρ := rfl
theorem b_no {α β : Type} {f : α → PEnv → R β} : (R.no : R α).bind f = .no := rfl
theorem s_ok {α : Type} {a : α} {f : α → PEnv → SR} : (R.ok a ρ).toS f = f a ρ := rfl
theorem s_no {α : Type} {f : α → PEnv → SR} : (R.no : R α).toS f = .no := rfl
theorem o_some {α : Type} {a : α} : ofO (some a) ρ = .ok a ρ := rfl
theorem o_none {α : Type} : ofO (none : Option α) ρ = .no := rfl
theorem n_some : nxO (some ρ) = .nx ρ := rfl
theorem n_none : nxO none = .no := rfl
/-! statements -/
theorem u_ret {e : Expr} {p : Pos} : stStep E C (.Return (some e) p) ρ = (match e with
      | .Name x _ => (match mutSl C x ρ with
        | some (i, .own, d) => .rt d true (ρ.set i none)
        | _ => ((E C).ev e ρ).toS fun v ρ' => .rt v.1 v.2 ρ')
      | e => ((E C).ev e ρ).toS fun v ρ' => .rt v.1 v.2 ρ') := rfl
theorem u_if {t : Expr} {a b : List Stmt} {p : Pos} : stStep E C (.If t a b p) ρ = ((E C).ts t ρ).toS fun k ρ' => if k then blk (E C) a ρ' else blk (E C) b ρ' := rfl
theorem u_set {x : Str} {e : Expr} {p p2 : Pos} : stStep E C (.Assign [.Name x p] e p2) ρ = if okAsg e then ((E C).ev e ρ).toS fun v ρ' => nxO ((ctName C x v.1 v.2).bind fun s => setSl C x s ρ') else .no := rfl
theorem u_for {tg it : Expr} {body : List Stmt} {p : Pos} : stStep E C (.For tg it body [] p) ρ = if noSet it then (iterP C (E C) it ρ).toS fun xs ρ' => forP C (E C) tg body xs ρ' else .no := rfl
theorem k_nil {E : Ev} : blk E [] ρ = .nx ρ := rfl
theorem k_cons {E : Ev} {s : Stmt} {r : List Stmt} : blk E (s :: r) ρ = (match E.st s ρ with
    | .nx ρ' => blk E r ρ'
    | .rt d f ρ' => .rt d f ρ'
    | .bk ρ' => .bk ρ'
    | .ct ρ' => .ct ρ'
    | .ex e ρ' => .ex e ρ'
    | .no => .no) := rfl
end
end TW
namespace TW
open PySem
def rdSl (i : Nat) (ρ : PEnv) : R VR := match ρ[i]? with
    | some (some ⟨.fz, d⟩) => .ok (d, false) ρ
    | some (some ⟨.lf, d⟩) => .ok (d, false) ρ
    | some (some ⟨.own, .list xs⟩) => .ok (.list xs, false) (ρ.set i (some ⟨.fz, .list xs⟩))
    | some (some ⟨.lent, .list xs⟩) => .ok (.list xs, false) (ρ.set i (some ⟨.lf, .list xs⟩))
    | _ => .no
def pkSl (i : Nat) (ρ : PEnv) : Option PyData := match ρ[i]? with
    | some (some s) => some s.d
    | _ => none
def mtSl (i : Nat) (ρ : PEnv) : Option (Nat × Tg × PyData) := match ρ[i]? with
    | some (some ⟨.own, d⟩) => some (i, .own, d)
    | some (some ⟨.lent, d⟩) => some (i, .lent, d)
    | _ => none
def putSl (i : Nat) (s : Sl) (ρ : PEnv) : Option PEnv := match ρ[i]? with
      | some (some ⟨.lent, _⟩) => none
      | some (some ⟨.lf, _⟩) => none
      | some _ => some (ρ.set i (some s))
      | none => none
def ctB (b : Bool) (d : PyData) (fr : Bool) : Option Sl := if fr && b then some ⟨.own, d⟩ else if isDc d then none else some ⟨.fz, d⟩
def rng1 (v : PyData) (ρ : PEnv) : R (List PyData) := match v with
      | .int n => if rngOk 0 n then .ok (rngL 0 n) ρ else .no
      | _ => .no
def rng2 (v u : PyData) (ρ : PEnv) : R (List PyData) := match v, u with
      | .int i, .int j => if rngOk i j then .ok (rngL i j) ρ else .no
      | _, _ => .no
def os {α : Type} (o : Option α) (f : α → SR) : SR := match o with
  | some a => f a
  | none => .no
/-- one behind another -/
def sq (r : SR) (k : PEnv → SR) : SR := match r with
  | .nx ρ => k ρ
  | .rt d f ρ => .rt d f ρ
  | .bk ρ => .bk ρ
  | .ct ρ => .ct ρ
  | .ex e ρ => .ex e ρ
  | .no => .no
/-! loops, the bodies as functions -/
def forI (g : PyData → PEnv → Option PEnv) (f : PEnv → SR) : List PyData → PEnv → SR
  | [], ρ => .nx ρ
  | x :: xs, ρ => match g x ρ with
    | none => .no
    | some ρ1 => (match f ρ1 with
      | .nx ρ2 => forI g f xs ρ2
      | .ct ρ2 => forI g f xs ρ2
      | .bk ρ2 => .nx ρ2
      | .rt d f ρ2 => .rt d f ρ2
      | .ex e ρ2 => .ex e ρ2
      | .no => .no)
theorem forP_eq (C : Ctx) (E : Ev) (tg : Expr) (body : List Stmt) : ∀ (xs : List PyData) (ρ : PEnv), forP C E tg body xs ρ = forI (fun d ρ => setTg C tg d ρ) (fun ρ => blk E body ρ) xs ρ
  | [], _ => rfl
  | x :: xs, ρ => by
    unfold forP forI
    cases setTg C tg x ρ with
    | none => rfl
    | some ρ1 =>
      simp only
      cases blk E body ρ1 with
      | nx ρ2 => exact forP_eq C E tg body xs ρ2
      | ct ρ2 => exact forP_eq C E tg body xs ρ2
      | _ => rfl
def whileI (c : PEnv → R Bool) (f : PEnv → SR) : Nat → PEnv → SR
  | 0, _ => .no
  | W + 1, ρ => (c ρ).toS fun b ρ1 => if b then (match f ρ1 with
      | .nx ρ2 => whileI c f W ρ2
      | .ct ρ2 => whileI c f W ρ2
      | .bk ρ2 => .nx ρ2
      | .rt d f ρ2 => .rt d f ρ2
      | .ex e ρ2 => .ex e ρ2
      | .no => .no) else .nx ρ1
theorem whileP_eq (E : Ev) (t : Expr) (body : List Stmt) : ∀ (W : Nat) (ρ : PEnv), whileP E t body W ρ = whileI (fun ρ => E.ts t ρ) (fun ρ => blk E body ρ) W ρ
  | 0, _ => rfl
  | W + 1, ρ => by
    unfold whileP whileI
    cases E.ts t ρ with
    | ok b ρ1 =>
      cases b with
      | false => rfl
      | true =>
        show (match blk E body ρ1 with
          | .nx ρ2 => whileP E t body W ρ2
          | .ct ρ2 => whileP E t body W ρ2
          | .bk ρ2 => .nx ρ2
          | .rt d f ρ2 => .rt d f ρ2
          | .ex e ρ2 => .ex e ρ2
          | .no => .no) = (match blk E body ρ1 with
          | .nx ρ2 => whileI (fun ρ => E.ts t ρ) (fun ρ => blk E body ρ) W ρ2
          | .ct ρ2 => whileI (fun ρ => E.ts t ρ) (fun ρ => blk E body ρ) W ρ2
          | .bk ρ2 => .nx ρ2
          | .rt d f ρ2 => .rt d f ρ2
          | .ex e ρ2 => .ex e ρ2
          | .no => .no)
        cases blk E body ρ1 with
        | nx ρ2 => exact whileP_eq E t body W ρ2
        | ct ρ2 => exact whileP_eq E t body W ρ2
        | _ => rfl
    | ex e ρ1 => rfl
    | no => rfl
def compI (g : PyData → PEnv → Option PEnv) (c : PEnv → R Bool) (f : PEnv → R PyData) (vs : List Nat) : List PyData → List PyData → PEnv → R (List PyData)
  | [], acc, ρ => .ok acc ρ
  | x :: xs, acc, ρ => match g x (wipeP ρ vs) with
    | none => .no
    | some ρ1 => (c ρ1).bind fun b ρ2 => if b then (f ρ2).bind fun v ρ3 => if acc.length < sizeLine then compI g c f vs xs (acc ++ [v]) (wipeP ρ3 vs) else .no
        else compI g c f vs xs acc (wipeP ρ2 vs)
theorem R.bind_congr {α β : Type} {m : R α} {f g : α → PEnv → R β} (h : ∀ a ρ, f a ρ = g a ρ) : m.bind f = m.bind g := by
  cases m with
  | ok a ρ => exact h a ρ
  | ex e ρ => rfl
  | no => rfl
def tstI (E : Ev) (ifs : List Expr) (ρ : PEnv) : R Bool := match ifs with
  | [] => .ok true ρ
  | [c] => E.ts c ρ
  | _ => .no
theorem compGo_eq (C : Ctx) (E : Ev) (tg : Expr) (ifs : List Expr) (el : Expr) (vs : List Nat) : ∀ (xs acc : List PyData) (ρ : PEnv), compGo C E tg ifs el vs xs acc ρ = compI (fun d ρ => setTg C tg d ρ) (fun ρ => tstI E ifs ρ) (fun ρ => kpE E el ρ) vs xs acc ρ
  | [], _, _ => rfl
  | x :: xs, acc, ρ => by
    unfold compGo compI
    cases setTg C tg x (wipeP ρ vs) with
    | none => rfl
    | some ρ1 =>
      refine R.bind_congr fun b ρ2 => ?_
      cases b with
      | true =>
        rw [if_pos rfl, if_pos rfl]
        refine R.bind_congr fun v ρ3 => ?_
        split
        · exact compGo_eq C E tg ifs el vs xs _ _
        · rfl
      | false =>
        rw [if_neg Bool.false_ne_true, if_neg Bool.false_ne_true]
        exact compGo_eq C E tg ifs el vs xs _ _
/-! names -/
theorem str_inj {a b : String} (h : Str.ofString a = Str.ofString b) : a = b := by
  rw [Str.ofString_eq_toList, Str.ofString_eq_toList] at h
  have h1 : (a.toList.map Char.toNat) = b.toList.map Char.toNat := by
    have := congrArg (fun s : Str => s.cps.toList) h
    simpa using this
  have h2 : a.toList = b.toList := by
    have inj : ∀ (l m : List Char), l.map Char.toNat = m.map Char.toNat → l = m := fun l => by
      induction l with
      | nil => intro m e; cases m with
        | nil => rfl
        | cons c m => cases e
      | cons c l ih =>
        intro m e
        cases m with
        | nil => cases e
        | cons d m =>
          simp only [List.map_cons, List.cons.injEq] at e
          have : c = d := Char.ext (UInt32.toNat_inj.mp e.1)
          rw [this, ih m e.2]
    exact inj _ _ h1
  exact String.toList_injective h2
theorem str_beq (a b : String) : ((Str.ofString a : Str) == Str.ofString b) = (a == b) := by
  by_cases h : a = b
  · subst h; simp
  · have h2 : Str.ofString a ≠ Str.ofString b := fun e => h (str_inj e)
    rw [beq_eq_false_iff_ne.mpr h, beq_eq_false_iff_ne.mpr h2]
theorem str_eq (a b : String) : ((Str.ofString a : Str) = Str.ofString b) = (a = b) := propext ⟨str_inj, fun h => by rw [h]⟩
/-! ### within a block -/
theorem relS_lk {scope sc : Scope} {x : Str} : (relS scope sc).names.lookup x = (scope.names.lookup x) ∨ (scope.names.lookup x = some .free ∧ (relS scope sc).names.lookup x = some .cell) := by
  have key : ∀ l : List (Str × NameKind), (l.map fun (n, k) => if (k == NameKind.free && sc.kind == .function && sc.names.lookup n == some .cell) then (n, NameKind.cell) else (n, k)).lookup x = l.lookup x ∨ (l.lookup x = some .free ∧ (l.map fun (n, k) => if (k == NameKind.free && sc.kind == .function && sc.names.lookup n == some .cell) then (n, NameKind.cell) else (n, k)).lookup x = some .cell) := fun l => by
    induction l with
    | nil => exact .inl rfl
    | cons y l ih =>
      obtain ⟨n, k1⟩ := y
      rw [List.map_cons]
      by_cases q : (k1 == NameKind.free && sc.kind == .function && sc.names.lookup n == some .cell) = true
      · simp only [q, if_true]
        rw [List.lookup_cons, List.lookup_cons]
        cases e : x == n with
        | true =>
          simp only [Bool.and_eq_true] at q
          have := q.1.1
          cases k1 <;> first | exact .inr ⟨rfl, rfl⟩ | cases this
        | false => exact ih
      · have e1 : (if (k1 == NameKind.free && sc.kind == .function && sc.names.lookup n == some .cell) then (n, NameKind.cell) else (n, k1)) = (n, k1) := if_neg q
        dsimp only
        rw [e1, List.lookup_cons, List.lookup_cons]
        cases e : x == n with
        | true => exact .inl rfl
        | false => exact ih
  exact key scope.names
theorem isLoc_rel {scope sc : Scope} {x : Str} : isLoc (relS scope sc) x = isLoc scope x := by
  unfold isLoc
  rcases relS_lk (scope := scope) (sc := sc) (x := x) with h | ⟨h1, h2⟩
  · rw [h]
  · rw [h1, h2]
theorem isGlo_rel {scope sc : Scope} {x : Str} : isGlo (relS scope sc) x = isGlo scope x := by
  unfold isGlo
  rcases relS_lk (scope := scope) (sc := sc) (x := x) with h | ⟨h1, h2⟩
  · rw [h]
  · rw [h1, h2]
def isStoB (sc : Scope) (x : Str) : Bool := match sc.names.lookup x with
  | some .local => true
  | some .cell => true
  | _ => false
theorem isSto_blk {C : Ctx} {scope : Scope} {x : Str} : isSto (inBlk C scope) x = isStoB scope x := by
  unfold isSto isStoB inBlk
  simp only
  rcases relS_lk (scope := scope) (sc := C.sc) (x := x) with h | ⟨h1, h2⟩
  · rw [h]
    cases e : scope.names.lookup x with
    | none => rfl
    | some k => cases k <;> rfl
  · rw [h2, h1]
    rfl
/-- a name's place within a block -/
def slB (C : Ctx) (scope : Scope) (x : Str) : Option Nat := if isLoc scope x && okNm x then ixN C.N x else none
theorem slotOf_blk {C : Ctx} {scope : Scope} {x : Str} : slotOf (inBlk C scope) x = slB C scope x := by
  unfold slotOf slB inBlk
  simp only [isLoc_rel]
def rdB (C : Ctx) (x : Str) (o : Option Nat) (g : Bool) (ρ : PEnv) : R VR := match o with
  | some i => rdSl i ρ
  | none => if g && okNm x then (match C.glo x with
    | some d => .ok (d, false) ρ
    | none => .no) else .no
theorem rd_blk {C : Ctx} {scope : Scope} {x : Str} {ρ : PEnv} : rdName (inBlk C scope) x ρ = rdB C x (slB C scope x) (isGlo scope x) ρ := by
  unfold rdName rdB
  rw [slotOf_blk]
  cases slB C scope x with
  | some i => rfl
  | none =>
    simp only
    rw [show isGlo (inBlk C scope).sc x = isGlo scope x from isGlo_rel]
    rfl
def pkB (C : Ctx) (x : Str) (o : Option Nat) (g : Bool) (ρ : PEnv) : Option PyData := match o with
  | some i => pkSl i ρ
  | none => if g && okNm x then C.glo x else none
theorem pk_blk {C : Ctx} {scope : Scope} {x : Str} {ρ : PEnv} : pkName (inBlk C scope) x ρ = pkB C x (slB C scope x) (isGlo scope x) ρ := by
  unfold pkName pkB
  rw [slotOf_blk]
  cases slB C scope x with
  | some i => rfl
  | none =>
    simp only
    rw [show isGlo (inBlk C scope).sc x = isGlo scope x from isGlo_rel]
    rfl
theorem ln_blk {C : Ctx} {scope : Scope} {x : Str} {p : Pos} : lnOf (inBlk C scope) (.Name x p) = (slB C scope x).map fun i => (x, i) := by
  show (slotOf (inBlk C scope) x).map _ = _
  rw [slotOf_blk]
def stB (b : Bool) (o : Option Nat) (s : Sl) (ρ : PEnv) : Option PEnv := if b then (match o with
    | some i => putSl i s ρ
    | none => none) else none
theorem set_blk {C : Ctx} {scope : Scope} {x : Str} {s : Sl} {ρ : PEnv} : setSl (inBlk C scope) x s ρ = stB (isStoB scope x && okNm x) (ixN C.N x) s ρ := by
  unfold setSl stB
  rw [isSto_blk]
  rfl
def kp1 (d : PyData) (ρ : PEnv) : R PyData := match d with
  | .dict _ => .no
  | d => .ok d ρ
section
variable {E : Ctx → Ev} {C : Ctx} {ρ : PEnv} {n : Nat}
theorem u_pass {p : Pos} : stStep E C (.Pass p) ρ = .nx ρ := rfl
theorem u_break {p : Pos} : stStep E C (.Break p) ρ = .bk ρ := rfl
theorem u_cont {p : Pos} : stStep E C (.Continue p) ρ = .ct ρ := rfl
theorem u_doc {x : Str} {k : Nat} {p q : Pos} : stStep E C (.Expr (.Constant (.str x) k p) q) ρ = .nx ρ := rfl
theorem u_exprC {f : Expr} {es : List Expr} {ks : List Keyword} {p q : Pos} : stStep E C (.Expr (.Call f es ks p) q) ρ = (match isMut C (.Call f es ks p) with
      | some (x, m, args, apos, pos) => if apos.endLine == pos.line then mutP C (E C) x m args ρ else .no
      | none => ((E C).ev (.Call f es ks p) ρ).toS fun _ ρ' => .nx ρ') := rfl
theorem u_retN {p : Pos} : stStep E C (.Return none p) ρ = .rt .none false ρ := rfl
theorem u_asgS {x : Str} {i e : Expr} {p p2 p3 : Pos} : stStep E C (.Assign [.Subscript (.Name x p) i p2] e p3) ρ = if noSlice i && noComp e then (kpE (E C) e ρ).toS fun v ρ1 => (match mutSl C x ρ1 with
      | some _ => (kpE (E C) i ρ1).toS fun k ρ2 => (match mutSl C x ρ2 with
        | some (j, t, d) => (match setIt t d k v with
          | some s => .nx (ρ2.set j (some s))
          | none => .no)
        | none => .no)
      | none => .no) else .no := rfl
def tupS (C : Ctx) (E : Ev) (o : Option (Option (List Str))) (ts vs : List Expr) (vk : Nat) (vp : Pos) (ρ : PEnv) : SR := match o with
      | some (some ns) => parP C E ns ts vs ρ
      | some none => (E.ev (.Tuple vs vk vp) ρ).toS fun v ρ' => unpk C ts v.1 ρ'
      | none => .no
theorem u_tupT {ts vs : List Expr} {k vk : Nat} {p vp p3 : Pos} : stStep E C (.Assign [.Tuple ts k p] (.Tuple vs vk vp) p3) ρ = tupS C (E C) (swP C.sc ts vs) ts vs vk vp ρ := rfl
theorem u_tupN {ts : List Expr} {x : Str} {k : Nat} {p vp p3 : Pos} : stStep E C (.Assign [.Tuple ts k p] (.Name x vp) p3) ρ = ((E C).ev (.Name x vp) ρ).toS fun v ρ' => unpk C ts v.1 ρ' := rfl
theorem u_tupC {ts : List Expr} {f : Expr} {es : List Expr} {ks : List Keyword} {k : Nat} {p vp p3 : Pos} : stStep E C (.Assign [.Tuple ts k p] (.Call f es ks vp) p3) ρ = ((E C).ev (.Call f es ks vp) ρ).toS fun v ρ' => unpk C ts v.1 ρ' := rfl
theorem u_tupS {ts : List Expr} {a b : Expr} {k : Nat} {p vp p3 : Pos} : stStep E C (.Assign [.Tuple ts k p] (.Subscript a b vp) p3) ρ = ((E C).ev (.Subscript a b vp) ρ).toS fun v ρ' => unpk C ts v.1 ρ' := rfl
theorem u_aug {x : Str} {op : Operator} {e : Expr} {p p3 : Pos} : stStep E C (.AugAssign (.Name x p) op e p3) ρ = (match slotOf C x with
      | some _ => (ofO (pkName C x ρ) ρ).toS fun _ ρ0 => ((E C).ev e ρ0).toS fun v ρ1 => (ofO (pkName C x ρ1) ρ1).toS fun u ρ2 => (match augP op u v.1 with
        | some d => nxO (setSl C x ⟨.fz, d⟩ ρ2)
        | none => .no)
      | none => .no) := rfl
theorem u_while {t : Expr} {body : List Stmt} {p : Pos} : stStep E C (.While t body [] p) ρ = whileP (E C) t body WF ρ := rfl
theorem q_meth {o a : Expr} {m : Str} {apos pos : Pos} : evStep E C (.Call (.Attribute o m apos) [a] [] pos) ρ = if (apos.endLine == pos.line) && !starred a && noSuper o then (pk2m C (E C) o a ρ).bind fun p ρ' => (ofO (mt1P m p.1 p.2) ρ').bind fun d ρ'' => .ok (d, false) ρ'' else .no := rfl
theorem q_lc {el tg it : Expr} {ifs : List Expr} {scope : Scope} {p : Pos} : evStep E C (.ListComp el [⟨tg, it, ifs, 0⟩] scope p) ρ = lcF C E el tg it ifs scope ρ := rfl
/-- a comprehension whose block was looked at -/
def lcI (C : Ctx) (b : Bool) (vs : List Nat) (i : PEnv → R (List PyData)) (g : PyData → PEnv → Option PEnv) (c : PEnv → R Bool) (f : PEnv → R PyData) (ρ : PEnv) : R VR := if b then (i ρ).bind fun xs ρ1 =>
      if hidOk ρ1 vs then (compI g c f vs xs [] (wipeP ρ1 vs)).bind fun ds ρ2 => .ok (.list ds, true) (unhide ρ1 vs ρ2) else .no
    else .no
theorem lcF_eq {el tg it : Expr} {ifs : List Expr} {scope : Scope} : lcF C E el tg it ifs scope ρ = lcI C (L2.blkC C.N C.sc scope (ownOf C.N scope) && noSet it) ((ownOf C.N scope).map (·.2)) (fun ρ => iterP C (E C) it ρ) (fun d ρ => setTg (inBlk C scope) tg d ρ) (fun ρ => tstI (E (inBlk C scope)) ifs ρ) (fun ρ => kpE (E (inBlk C scope)) el ρ) ρ := by
  unfold lcF lcI
  simp only [compGo_eq]
theorem ti_nil {E : Ev} : tstI E [] ρ = .ok true ρ := rfl
theorem ti_one {E : Ev} {c : Expr} : tstI E [c] ρ = E.ts c ρ := rfl
theorem kp_eq {E : Ev} {e : Expr} : kpE E e ρ = (E.ev e ρ).bind fun v ρ' => kp1 v.1 ρ' := by
  unfold kpE
  refine R.bind_congr fun v ρ' => ?_
  unfold kp1
  cases v.1 <;> rfl
theorem tg_name {x : Str} {p : Pos} {d : PyData} : setTg C (.Name x p) d ρ = setSl C x ⟨.fz, d⟩ ρ := rfl
def tg2 (C : Ctx) (ts : List Expr) (d : PyData) (ρ : PEnv) : Option PEnv := match d with
  | .tuple ds => setNames C ts ds ρ
  | _ => none
theorem tg_tup {ts : List Expr} {k : Nat} {p : Pos} {d : PyData} : setTg C (.Tuple ts k p) d ρ = tg2 C ts d ρ := by cases d <;> rfl
end
/-- a call, the callee's kind told -/
def callX (C : Ctx) (C' : Ctx) (E : Ev) (f : Str) (fn : Option (List Bool)) (args : List Expr) (ρ : PEnv) : R VR := match fn with
      | some ms => callP C' E f ms args ρ
      | none => (match args with
        | [a] => if C.blt f && !starred a then (pkE C' E a ρ).bind fun d ρ' => ofO (bi1P f d) ρ' else .no
        | [a, b] => if starred a || starred b then .no
          else if f = "isinstance" then (if C.blt f then (match b with
            | .Name T _ => if isBlt C' T then (pkE C' E a ρ).bind fun d ρ' => (ofO (isiP d T) ρ').bind fun k ρ'' => .ok (.bool k, false) ρ'' else .no
            | _ => .no) else .no)
          else if (if f = "gcd" then C.gcd else C.blt f) then (pk2 C' E a b ρ).bind fun p ρ' => ofO (bi2P f p.1 p.2) ρ' else .no
        | _ => .no)
section
variable {E : Ctx → Ev} {C C' : Ctx} {ρ : PEnv} {n : Nat}
theorem call_blk {scope : Scope} {f : Str} {args : List Expr} {p r : Pos} : evStep E (inBlk C scope) (.Call (.Name f p) args [] r) ρ = if isGlo scope f && okNm f then callX C (inBlk C scope) (E (inBlk C scope)) f (C.fns f) args ρ else .no := by
  have e : isGlo (inBlk C scope).sc f = isGlo scope f := isGlo_rel
  rw [← e]
  rfl
theorem cx_some {E : Ev} {f : Str} {ms : List Bool} {args : List Expr} : callX C C' E f (some ms) args ρ = callP C' E f ms args ρ := rfl
theorem cx_1 {E : Ev} {f : Str} {a : Expr} : callX C C' E f none [a] ρ = if C.blt f && !starred a then (pkE C' E a ρ).bind fun d ρ' => ofO (bi1P f d) ρ' else .no := rfl
theorem cx_2 {E : Ev} {f : Str} {a b : Expr} : callX C C' E f none [a, b] ρ = if starred a || starred b then .no
          else if f = "isinstance" then (if C.blt f then (match b with
            | .Name T _ => if isBlt C' T then (pkE C' E a ρ).bind fun d ρ' => (ofO (isiP d T) ρ').bind fun k ρ'' => .ok (.bool k, false) ρ'' else .no
            | _ => .no) else .no)
          else if (if f = "gcd" then C.gcd else C.blt f) then (pk2 C' E a b ρ).bind fun p ρ' => ofO (bi2P f p.1 p.2) ρ' else .no := rfl
theorem inBlk_call {scope : Scope} : (inBlk C scope).call = C.call := rfl
theorem decide_str (a b : String) : decide ((Str.ofString a : Str) = Str.ofString b) = decide (a = b) := by
  by_cases h : a = b
  · subst h; simp
  · have h2 : Str.ofString a ≠ Str.ofString b := fun e => h (str_inj e)
    rw [decide_eq_false h, decide_eq_false h2]
end
section
variable {E : Ctx → Ev} {C C' : Ctx} {ρ : PEnv} {n : Nat}
theorem q_subC {a : Expr} {p : Pos} {c : Const} {k : Nat} {q : Pos} : evStep E C (.Subscript a (.Constant c k q) p) ρ = (pk2 C (E C) a (.Constant c k q) ρ).bind fun p ρ' => (ofO (idxP p.1 p.2) ρ').bind fun d ρ'' => .ok (d, false) ρ'' := rfl
theorem q_subN {a : Expr} {p : Pos} {x : Str} {q : Pos} : evStep E C (.Subscript a (.Name x q) p) ρ = (pk2 C (E C) a (.Name x q) ρ).bind fun p ρ' => (ofO (idxP p.1 p.2) ρ').bind fun d ρ'' => .ok (d, false) ρ'' := rfl
theorem q_subB {a : Expr} {p : Pos} {a1 a2 : Expr} {o : Operator} {q : Pos} : evStep E C (.Subscript a (.BinOp a1 o a2 q) p) ρ = (pk2 C (E C) a (.BinOp a1 o a2 q) ρ).bind fun p ρ' => (ofO (idxP p.1 p.2) ρ').bind fun d ρ'' => .ok (d, false) ρ'' := rfl
theorem q_subU {a : Expr} {p : Pos} {a1 : Expr} {o : UnaryOp} {q : Pos} : evStep E C (.Subscript a (.UnaryOp o a1 q) p) ρ = (pk2 C (E C) a (.UnaryOp o a1 q) ρ).bind fun p ρ' => (ofO (idxP p.1 p.2) ρ').bind fun d ρ'' => .ok (d, false) ρ'' := rfl
theorem q_subF {a : Expr} {p : Pos} {f : Expr} {es : List Expr} {ks : List Keyword} {q : Pos} : evStep E C (.Subscript a (.Call f es ks q) p) ρ = (pk2 C (E C) a (.Call f es ks q) ρ).bind fun p ρ' => (ofO (idxP p.1 p.2) ρ').bind fun d ρ'' => .ok (d, false) ρ'' := rfl
theorem q_subS {a : Expr} {p : Pos} {a1 a2 : Expr} {q : Pos} : evStep E C (.Subscript a (.Subscript a1 a2 q) p) ρ = (pk2 C (E C) a (.Subscript a1 a2 q) ρ).bind fun p ρ' => (ofO (idxP p.1 p.2) ρ').bind fun d ρ'' => .ok (d, false) ρ'' := rfl
theorem q_subI {a : Expr} {p : Pos} {a1 a2 a3 : Expr} {q : Pos} : evStep E C (.Subscript a (.IfExp a1 a2 a3 q) p) ρ = (pk2 C (E C) a (.IfExp a1 a2 a3 q) ρ).bind fun p ρ' => (ofO (idxP p.1 p.2) ρ').bind fun d ρ'' => .ok (d, false) ρ'' := rfl
theorem q_subT {a : Expr} {p : Pos} {es : List Expr} {k : Nat} {q : Pos} : evStep E C (.Subscript a (.Tuple es k q) p) ρ = (pk2 C (E C) a (.Tuple es k q) ρ).bind fun p ρ' => (ofO (idxP p.1 p.2) ρ').bind fun d ρ'' => .ok (d, false) ρ'' := rfl
theorem it_N {E : Ev} {x : Str} {q : Pos} : iterP C E (.Name x q) ρ = iterV E (.Name x q) ρ := rfl
theorem it_B {E : Ev} {a1 a2 : Expr} {o : Operator} {q : Pos} : iterP C E (.BinOp a1 o a2 q) ρ = iterV E (.BinOp a1 o a2 q) ρ := rfl
theorem it_S {E : Ev} {a1 a2 : Expr} {q : Pos} : iterP C E (.Subscript a1 a2 q) ρ = iterV E (.Subscript a1 a2 q) ρ := rfl
theorem it_T {E : Ev} {es : List Expr} {k : Nat} {q : Pos} : iterP C E (.Tuple es k q) ρ = iterV E (.Tuple es k q) ρ := rfl
theorem it_L {E : Ev} {es : List Expr} {q : Pos} : iterP C E (.List es q) ρ = iterV E (.List es q) ρ := rfl
theorem it_C {E : Ev} {c : Const} {k : Nat} {q : Pos} : iterP C E (.Constant c k q) ρ = iterV E (.Constant c k q) ρ := rfl
theorem it_I {E : Ev} {a1 a2 a3 : Expr} {q : Pos} : iterP C E (.IfExp a1 a2 a3 q) ρ = iterV E (.IfExp a1 a2 a3 q) ρ := rfl
theorem it_Z {E : Ev} {f : Expr} {ks : List Keyword} {q : Pos} : iterP C E (.Call f [] ks q) ρ = iterV E (.Call f [] ks q) ρ := by
  cases f <;> cases ks <;> rfl
theorem it_Y {E : Ev} {f a1 a2 a3 : Expr} {es : List Expr} {ks : List Keyword} {q : Pos} : iterP C E (.Call f (a1 :: a2 :: a3 :: es) ks q) ρ = iterV E (.Call f (a1 :: a2 :: a3 :: es) ks q) ρ := by
  cases f <;> cases ks <;> rfl
theorem it_M {E : Ev} {o : Expr} {m : Str} {q2 : Pos} {es : List Expr} {ks : List Keyword} {q : Pos} : iterP C E (.Call (.Attribute o m q2) es ks q) ρ = iterV E (.Call (.Attribute o m q2) es ks q) ρ := by
  rfl
theorem it_O {E : Ev} {el : Expr} {gs : List Comprehension} {sc : Scope} {q : Pos} : iterP C E (.ListComp el gs sc q) ρ = iterV E (.ListComp el gs sc q) ρ := rfl
theorem sq_nx {k : PEnv → SR} : sq (.nx ρ) k = k ρ := rfl
theorem sq_rt {d : PyData} {f : Bool} {k : PEnv → SR} : sq (.rt d f ρ) k = .rt d f ρ := rfl
theorem sq_bk {k : PEnv → SR} : sq (.bk ρ) k = .bk ρ := rfl
theorem sq_ct {k : PEnv → SR} : sq (.ct ρ) k = .ct ρ := rfl
theorem sq_no {k : PEnv → SR} : sq .no k = .no := rfl
theorem sq_s {α : Type} {m : R α} {f : α → PEnv → SR} {k : PEnv → SR} : sq (m.toS f) k = m.toS fun a ρ => sq (f a ρ) k := by cases m <;> rfl
theorem sq_nxO {o : Option PEnv} {k : PEnv → SR} : sq (nxO o) k = os o k := by cases o <;> rfl
theorem sq_os {α : Type} {o : Option α} {f : α → SR} {k : PEnv → SR} : sq (os o f) k = os o fun a => sq (f a) k := by cases o <;> rfl
theorem k_one {E : Ev} {s : Stmt} : blk E [s] ρ = E.st s ρ := by
  unfold blk
  cases E.st s ρ <;> rfl
theorem k_cons2 {E : Ev} {s s2 : Stmt} {r : List Stmt} : blk E (s :: s2 :: r) ρ = sq (E.st s ρ) fun ρ' => blk E (s2 :: r) ρ' := by
  show (match E.st s ρ with
    | .nx ρ' => blk E (s2 :: r) ρ'
    | .rt d f ρ' => .rt d f ρ'
    | .bk ρ' => .bk ρ'
    | .ct ρ' => .ct ρ'
    | .ex e ρ' => .ex e ρ'
    | .no => .no) = _
  cases E.st s ρ <;> rfl
/-- the same, looked at -/
def lcT (vs : List Nat) (i : PEnv → R (List PyData)) (g : PyData → PEnv → Option PEnv) (c : PEnv → R Bool) (f : PEnv → R PyData) (ρ : PEnv) : R VR := (i ρ).bind fun xs ρ1 =>
      if hidOk ρ1 vs then (compI g c f vs xs [] (wipeP ρ1 vs)).bind fun ds ρ2 => .ok (.list ds, true) (unhide ρ1 vs ρ2) else .no
theorem lcI_true {b : Bool} {vs : List Nat} {i : PEnv → R (List PyData)} {g : PyData → PEnv → Option PEnv} {c : PEnv → R Bool} {f : PEnv → R PyData} (h : b = true) : lcI C b vs i g c f ρ = lcT vs i g c f ρ := by
  subst h
  rfl
end
def ob {α β : Type} (o : Option α) (f : α → R β) : R β := match o with
  | some a => f a
  | none => .no
section
variable {C : Ctx} {ρ : PEnv}
theorem ln_C {c : Const} {k : Nat} {q : Pos} : lnOf C (.Constant c k q) = none := rfl
theorem ln_B {a1 a2 : Expr} {o : Operator} {q : Pos} : lnOf C (.BinOp a1 o a2 q) = none := rfl
theorem ln_U {a1 : Expr} {o : UnaryOp} {q : Pos} : lnOf C (.UnaryOp o a1 q) = none := rfl
theorem ln_F {f : Expr} {es : List Expr} {ks : List Keyword} {q : Pos} : lnOf C (.Call f es ks q) = none := rfl
theorem ln_S {a1 a2 : Expr} {q : Pos} : lnOf C (.Subscript a1 a2 q) = none := rfl
theorem ln_I {a1 a2 a3 : Expr} {q : Pos} : lnOf C (.IfExp a1 a2 a3 q) = none := rfl
theorem ln_T {es : List Expr} {k : Nat} {q : Pos} : lnOf C (.Tuple es k q) = none := rfl
theorem ln_L {es : List Expr} {q : Pos} : lnOf C (.List es q) = none := rfl
theorem ln_O {el : Expr} {gs : List Comprehension} {sc : Scope} {q : Pos} : lnOf C (.ListComp el gs sc q) = none := rfl
theorem ln_P {l : Expr} {os : List CmpOp} {rs : List Expr} {q : Pos} : lnOf C (.Compare l os rs q) = none := rfl
theorem ln_D {ks : List (Option Expr)} {vs : List Expr} {q : Pos} : lnOf C (.Dict ks vs q) = none := rfl
theorem ln_Q {o : BoolOp} {vs : List Expr} {q : Pos} : lnOf C (.BoolOp o vs q) = none := rfl
theorem b_assoc {α β γ : Type} {m : R α} {f : α → PEnv → R β} {g : β → PEnv → R γ} : (m.bind f).bind g = m.bind fun a ρ => (f a ρ).bind g := by cases m <;> rfl
theorem s_assoc {α β : Type} {m : R α} {f : α → PEnv → R β} {g : β → PEnv → SR} : (m.bind f).toS g = m.toS fun a ρ => (f a ρ).toS g := by cases m <;> rfl
theorem b_ofO {α β : Type} {o : Option α} {f : α → PEnv → R β} : (ofO o ρ).bind f = ob o fun a => f a ρ := by cases o <;> rfl
theorem s_ofO {α : Type} {o : Option α} {f : α → PEnv → SR} : (ofO o ρ).toS f = os o fun a => f a ρ := by cases o <;> rfl
theorem ob_b {α β γ : Type} {o : Option α} {f : α → R β} {g : β → PEnv → R γ} : (ob o f).bind g = ob o fun a => (f a).bind g := by cases o <;> rfl
theorem ob_s {α β : Type} {o : Option α} {f : α → R β} {g : β → PEnv → SR} : (ob o f).toS g = os o fun a => (f a).toS g := by cases o <;> rfl
theorem ob_some {α β : Type} {a : α} {f : α → R β} : ob (some a) f = f a := rfl
theorem os_some {α : Type} {a : α} {f : α → SR} : os (some a) f = f a := rfl
theorem if_b {α β : Type} {b : Bool} {m m' : R α} {g : α → PEnv → R β} : (if b = true then m else m').bind g = if b = true then m.bind g else m'.bind g := by cases b <;> rfl
theorem if_s {α : Type} {b : Bool} {m m' : R α} {g : α → PEnv → SR} : (if b = true then m else m').toS g = if b = true then m.toS g else m'.toS g := by cases b <;> rfl
end
/-- a slot lent to a call -/
def lend {β : Type} (i : Nat) (ρ : PEnv) (k : Sl → List (Nat × Bool) → PEnv → R β) : R β := match ρ[i]? with
        | some (some ⟨.fz, d⟩) => k ⟨.fz, d⟩ [] ρ
        | some (some ⟨.lf, d⟩) => k ⟨.fz, d⟩ [] ρ
        | some (some ⟨.own, d⟩) => k ⟨.lent, d⟩ [(i, true)] (ρ.set i none)
        | some (some ⟨.lent, d⟩) => k ⟨.lent, d⟩ [(i, false)] (ρ.set i none)
        | _ => .no
/-- a slot shown to a call -/
def show_ {β : Type} (i : Nat) (ρ : PEnv) (k : Sl → List (Nat × Bool) → PEnv → R β) : R β := match ρ[i]? with
        | some (some ⟨.fz, d⟩) => k ⟨.fz, d⟩ [] ρ
        | some (some ⟨.lf, d⟩) => k ⟨.fz, d⟩ [] ρ
        | some (some ⟨.own, .list xs⟩) => k ⟨.fz, .list xs⟩ [] (ρ.set i (some ⟨.fz, .list xs⟩))
        | some (some ⟨.lent, .list xs⟩) => k ⟨.fz, .list xs⟩ [] (ρ.set i (some ⟨.lf, .list xs⟩))
        | _ => .no
def given {β : Type} (d : PyData) (fr m : Bool) (ρ : PEnv) (k : Sl → PEnv → R β) : R β := if fr && m then k ⟨.own, d⟩ ρ else if isDc d then .no else k ⟨.fz, d⟩ ρ
def a2n {β : Type} (o : Option (Str × Nat)) (m : Bool) (ρ : PEnv) (k : Sl → List (Nat × Bool) → PEnv → R β) : R β := match o with
  | none => .no
  | some (_, i) => if m then lend i ρ k else show_ i ρ k
theorem a2n_t {β : Type} {x : Str} {i : Nat} {ρ : PEnv} {k : Sl → List (Nat × Bool) → PEnv → R β} : a2n (some (x, i)) true ρ k = lend i ρ k := rfl
theorem a2n_f {β : Type} {x : Str} {i : Nat} {ρ : PEnv} {k : Sl → List (Nat × Bool) → PEnv → R β} : a2n (some (x, i)) false ρ k = show_ i ρ k := rfl
theorem a2_nil {C : Ctx} {ms : List Bool} {ρ : PEnv} : args2 C [] [] ms ρ = .ok ([], []) ρ := rfl
theorem a2_some {C : Ctx} {e : Expr} {es : List Expr} {v : VR} {vs : List (Option VR)} {ms : List Bool} {ρ : PEnv} : args2 C (e :: es) (some v :: vs) ms ρ = given v.1 v.2 (ms.headD false) ρ fun s ρ1 => (args2 C es vs ms.tail ρ1).bind fun r ρ' => .ok (s :: r.1, r.2) ρ' := by
  obtain ⟨d, fr⟩ := v
  show (if fr && ms.headD false then _ else if isDc d then _ else _) = _
  unfold given
  rfl
theorem a2_none {C : Ctx} {e : Expr} {es : List Expr} {vs : List (Option VR)} {ms : List Bool} {ρ : PEnv} : args2 C (e :: es) (none :: vs) ms ρ = a2n (lnOf C e) (ms.headD false) ρ fun s l ρ1 => (args2 C es vs ms.tail ρ1).bind fun r ρ' => .ok (s :: r.1, l ++ r.2) ρ' := by
  conv => lhs; unfold args2
  unfold a2n
  cases lnOf C e with
  | none => rfl
  | some xi =>
    obtain ⟨x, i⟩ := xi
    cases hm : ms.headD false with
    | true =>
      simp only [if_true]
      unfold lend
      cases h : ρ[i]? with
      | none => rfl
      | some o =>
        cases o with
        | none => rfl
        | some s =>
          obtain ⟨t, d⟩ := s
          cases t <;> rfl
    | false =>
      simp only [Bool.false_eq_true, if_false]
      unfold show_
      cases h : ρ[i]? with
      | none => rfl
      | some o =>
        cases o with
        | none => rfl
        | some s =>
          obtain ⟨t, d⟩ := s
          cases t with
          | fz => rfl
          | lf => rfl
          | own => cases d <;> rfl
          | lent => cases d <;> rfl
/-- behind a call -/
def cbk {β : Type} (c : CR) (ls : List (Nat × Bool)) (ρ : PEnv) (k : VR → PEnv → R β) : R β := match c with
    | .ok d fr back => (match giveBack ls back ρ with
      | some ρ3 => k (d, fr) ρ3
      | none => .no)
    | .ex e back => (match giveBack ls back ρ with
      | some ρ3 => .ex e ρ3
      | none => .no)
    | .no => .no
theorem callP_eq {C : Ctx} {E : Ev} {f : Str} {ms : List Bool} {es : List Expr} {ρ : PEnv} : callP C E f ms es ρ = (args1 C E es ρ).bind fun vs ρ1 => (args2 C es vs ms ρ1).bind fun r ρ2 => cbk (C.call f r.1) r.2 ρ2 fun v ρ' => .ok v ρ' := by
  unfold callP
  refine R.bind_congr fun vs ρ1 => R.bind_congr fun r ρ2 => ?_
  unfold cbk
  cases C.call f r.1 <;> rfl
section
variable {α β γ : Type} {ρ : PEnv}
theorem lend_b {i : Nat} {k : Sl → List (Nat × Bool) → PEnv → R α} {g : α → PEnv → R β} : (lend i ρ k).bind g = lend i ρ fun s l ρ' => (k s l ρ').bind g := by
  unfold lend
  cases h : ρ[i]? with
  | none => rfl
  | some o => cases o with
    | none => rfl
    | some s => obtain ⟨t, d⟩ := s; cases t <;> rfl
theorem show_b {i : Nat} {k : Sl → List (Nat × Bool) → PEnv → R α} {g : α → PEnv → R β} : (show_ i ρ k).bind g = show_ i ρ fun s l ρ' => (k s l ρ').bind g := by
  unfold show_
  cases h : ρ[i]? with
  | none => rfl
  | some o => cases o with
    | none => rfl
    | some s =>
      obtain ⟨t, d⟩ := s
      cases t with
      | fz => rfl
      | lf => rfl
      | own => cases d <;> rfl
      | lent => cases d <;> rfl
theorem given_b {d : PyData} {fr m : Bool} {k : Sl → PEnv → R α} {g : α → PEnv → R β} : (given d fr m ρ k).bind g = given d fr m ρ fun s ρ' => (k s ρ').bind g := by
  unfold given
  split
  · rfl
  · split <;> rfl
theorem cbk_b {c : CR} {ls : List (Nat × Bool)} {k : VR → PEnv → R α} {g : α → PEnv → R β} : (cbk c ls ρ k).bind g = cbk c ls ρ fun v ρ' => (k v ρ').bind g := by
  unfold cbk
  cases c with
  | ok d fr back =>
    simp only
    cases giveBack ls back ρ <;> rfl
  | ex e back =>
    simp only
    cases giveBack ls back ρ <;> rfl
  | no => rfl
end
/-- a def's end -/
def endI (args : List Sl) (r : SR) : CR := match r with
    | .nx ρ => (match backP args ρ with
      | some b => .ok .none false b
      | none => .no)
    | .rt v fr ρ => (match backP args ρ with
      | some b => .ok v fr b
      | none => .no)
    | .ex e ρ => (match backP args ρ with
      | some b => .ex e b
      | none => .no)
    | _ => .no
def runI (n l : Nat) (f : PEnv → SR) (args : List Sl) : CR := if args.length = n then endI args (f (args.map some ++ List.replicate (l - args.length) none)) else .no
theorem run_eq {G : Prog} {d : Def} {call : Str → List Sl → CR} {f : PEnv → SR} (h : ∀ ρ, blk (evN FU (ctxOf G d call)) d.body ρ = f ρ) (as : List Sl) : runD G call d as = runI d.ps.length d.N.length f as := by
  unfold runD runI
  split
  · rw [h]
    unfold endI startP
    cases f (as.map some ++ List.replicate (d.N.length - as.length) none) <;> rfl
  · rfl
theorem given_s {α : Type} {ρ : PEnv} {d : PyData} {fr m : Bool} {k : Sl → PEnv → R α} {g : α → PEnv → SR} : (given d fr m ρ k).toS g = (given d fr m ρ k).toS g := rfl
theorem forI_then {args : List Sl} {g : PyData → PEnv → Option PEnv} {f : PEnv → SR} {xs : List PyData} {ρ : PEnv} {k : PEnv → SR} {r : CR} (P : PEnv → Prop) (hP : ∃ ρ', forI g f xs ρ = .nx ρ' ∧ P ρ') (hk : ∀ ρ', P ρ' → endI args (k ρ') = r) : endI args (sq (forI g f xs ρ) k) = r := by
  obtain ⟨ρ', e, hp⟩ := hP
  rw [e]
  exact hk ρ' hp
/-! unpacking -/
def un1 (v : PyData) (f : List PyData → SR) : SR := match v with
  | .tuple ds => f ds
  | _ => .no
def hd1 (ds : List PyData) (f : PyData → List PyData → Option PEnv) : Option PEnv := match ds with
  | d :: ds => f d ds
  | [] => none
def nl1 (ds : List PyData) (ρ : PEnv) : Option PEnv := match ds with
  | [] => some ρ
  | _ => none
theorem unpk_eq {C : Ctx} {ts : List Expr} {v : PyData} {ρ : PEnv} : unpk C ts v ρ = un1 v fun ds => nxO (setNames C ts ds ρ) := by cases v <;> rfl
theorem tg2_eq {C : Ctx} {ts : List Expr} {v : PyData} {ρ : PEnv} : tg2 C ts v ρ = (match v with | .tuple ds => setNames C ts ds ρ | _ => none) := rfl
theorem pi_nil {C : Ctx} {E : Ev} {ρ : PEnv} : parI C E [] [] ρ = .ok [] ρ := rfl
theorem pi_cons {C : Ctx} {E : Ev} {x : Str} {xs : List Str} {e : Expr} {es : List Expr} {ρ : PEnv} : parI C E (x :: xs) (e :: es) ρ = if starred e then .no else (E.ev e ρ).bind fun v ρ1 => (ofO (ctName C x v.1 v.2) ρ1).bind fun s ρ2 => (parI C E xs es ρ2).bind fun r ρ3 => .ok (s :: r) ρ3 := rfl
def hdS {α : Type} (ss : List Sl) (f : Sl → List Sl → Option α) : Option α := match ss with
  | [] => none
  | s :: r => f s r
def nlS (ss : List Sl) (ρ : PEnv) : Option PEnv := match ss with
  | [] => some ρ
  | _ :: _ => none
theorem hdS_c {α : Type} {s : Sl} {ss : List Sl} {f : Sl → List Sl → Option α} : hdS (s :: ss) f = f s ss := rfl
theorem nlS_n {ρ : PEnv} : nlS [] ρ = some ρ := rfl
theorem slz_nil {C : Ctx} {ss : List Sl} {ρ : PEnv} : setSls C [] ss ρ = nlS ss ρ := by cases ss <;> rfl
theorem slz_cons {C : Ctx} {x : Str} {xs : List Str} {ss : List Sl} {ρ : PEnv} : setSls C (x :: xs) ss ρ = hdS ss fun s ss => (setSl C x s ρ).bind fun ρ' => setSls C xs ss ρ' := by cases ss <;> rfl
theorem sn_nil {C : Ctx} {ds : List PyData} {ρ : PEnv} : setNames C [] ds ρ = nl1 ds ρ := by cases ds <;> rfl
theorem sn_cons {C : Ctx} {x : Str} {p : Pos} {ts : List Expr} {ds : List PyData} {ρ : PEnv} : setNames C (.Name x p :: ts) ds ρ = hd1 ds fun d ds => (setSl C x ⟨.fz, d⟩ ρ).bind fun ρ' => setNames C ts ds ρ' := by cases ds <;> rfl
theorem un1_t {ds : List PyData} {f : List PyData → SR} : un1 (.tuple ds) f = f ds := rfl
theorem hd1_c {d : PyData} {ds : List PyData} {f : PyData → List PyData → Option PEnv} : hd1 (d :: ds) f = f d ds := rfl
theorem nl1_n {ρ : PEnv} : nl1 [] ρ = some ρ := rfl
theorem sq_un1 {v : PyData} {f : List PyData → SR} {k : PEnv → SR} : sq (un1 v f) k = un1 v fun ds => sq (f ds) k := by cases v <;> rfl
end TW

set_option Elab.async false
set_option maxRecDepth 100000
set_option maxHeartbeats 1000000
/-! Tw19: the primitives by values, as rules. -/
namespace TW
open PySem
theorem v_idx0 {a : PyData} {l : List PyData} : idxP (.tuple (a :: l)) (.int 0) = some a := by
  show L2.atI (a :: l) 0 = some a
  unfold L2.atI L2.ixN
  simp
theorem v_idx1 {a b : PyData} {l : List PyData} : idxP (.tuple (a :: b :: l)) (.int 1) = some b := by
  show L2.atI (a :: b :: l) 1 = some b
  unfold L2.atI L2.ixN
  have h : (1 : Int) < ((a :: b :: l).length : Nat) := by
    simp only [List.length_cons]
    omega
  rw [if_pos (by omega), if_pos h]
  rfl
theorem v_add {i j : Int} : binP .Add (.int i) (.int j) = some (.int (i + j)) := (rfl)
theorem v_sub {i j : Int} : binP .Sub (.int i) (.int j) = some (.int (i - j)) := (rfl)
theorem v_mul {i j : Int} : binP .Mult (.int i) (.int j) = if mulOk i j = true then some (.int (i * j)) else none := (rfl)
theorem v_div {i j : Int} : binP .FloorDiv (.int i) (.int j) = if divOk j = true then some (.int (i.fdiv j)) else none := (rfl)
theorem v_mod {i j : Int} : binP .Mod (.int i) (.int j) = if j ≠ 0 then some (.int (i.fmod j)) else none := (rfl)
theorem v_lt {i j : Int} : cmpP .Lt (.int i) (.int j) = some (decide (i < j)) := (rfl)
theorem v_le {i j : Int} : cmpP .LtE (.int i) (.int j) = some (decide (i ≤ j)) := (rfl)
theorem v_gt {i j : Int} : cmpP .Gt (.int i) (.int j) = some (decide (j < i)) := (rfl)
theorem v_ge {i j : Int} : cmpP .GtE (.int i) (.int j) = some (decide (j ≤ i)) := (rfl)
theorem v_eq {i j : Int} : cmpP .Eq (.int i) (.int j) = some (decide (i = j)) := (rfl)
theorem v_ne {i j : Int} : cmpP .NotEq (.int i) (.int j) = some (!decide (i = j)) := (rfl)
theorem v_neg {i : Int} : unP .USub (.int i) = some (.int (-i)) := (rfl)
theorem v_tb {b : Bool} : truP (.bool b) = some b := (rfl)
theorem v_ti {i : Int} : truP (.int i) = some (i != 0) := (rfl)
theorem v_kp {i : Int} {ρ : PEnv} : kp1 (.int i) ρ = .ok (.int i) ρ := (rfl)
theorem v_kps {i : Str} {ρ : PEnv} : kp1 (.str i) ρ = .ok (.str i) ρ := (rfl)
theorem v_kpt {i : List PyData} {ρ : PEnv} : kp1 (.tuple i) ρ = .ok (.tuple i) ρ := (rfl)
theorem v_kpl {i : List PyData} {ρ : PEnv} : kp1 (.list i) ρ = .ok (.list i) ρ := (rfl)
theorem v_kpb {i : Bool} {ρ : PEnv} : kp1 (.bool i) ρ = .ok (.bool i) ρ := (rfl)
/-! slots of an environment that is written out -/
theorem z_pk0 {s : Sl} {ρ : PEnv} : pkSl 0 (some s :: ρ) = some s.d := (rfl)
theorem z_pkS {i : Nat} {o : Option Sl} {ρ : PEnv} : pkSl (i + 1) (o :: ρ) = pkSl i ρ := (rfl)
theorem z_put0 {s : Sl} {d : PyData} {ρ : PEnv} : putSl 0 s (some ⟨.fz, d⟩ :: ρ) = some (some s :: ρ) := (rfl)
theorem z_put0o {s : Sl} {d : PyData} {ρ : PEnv} : putSl 0 s (some ⟨.own, d⟩ :: ρ) = some (some s :: ρ) := (rfl)
theorem z_put0n {s : Sl} {ρ : PEnv} : putSl 0 s (none :: ρ) = some (some s :: ρ) := (rfl)
theorem z_putS {i : Nat} {s : Sl} {o : Option Sl} {ρ : PEnv} : putSl (i + 1) s (o :: ρ) = (putSl i s ρ).map (o :: ·) := by
  unfold putSl
  rw [List.getElem?_cons_succ]
  cases h : ρ[i]? with
  | none => rfl
  | some o => cases o with
    | none => rfl
    | some u => obtain ⟨t, d⟩ := u; cases t <;> rfl
theorem mulOk_small {i j : Int} (h : -18446744073709551616 < i ∧ i < 18446744073709551616 ∨ -18446744073709551616 < j ∧ j < 18446744073709551616) : mulOk i j = true := by
  unfold mulOk smallI
  rcases h with ⟨h1, h2⟩ | ⟨h1, h2⟩
  · simp [h1, h2]
  · simp [h1, h2]
theorem divOk_small {j : Int} (h0 : j ≠ 0) (h : j.natAbs < 2 ^ 8000) : divOk j = true := by
  unfold divOk
  have : j.natAbs.log2 < 9000 := by
    have h1 : j.natAbs ≠ 0 := by omega
    have := (Nat.log2_lt h1).mpr h
    omega
  simp [h0, this]
theorem z_rd0 {d : PyData} {ρ : PEnv} : rdSl 0 (some ⟨.fz, d⟩ :: ρ) = .ok (d, false) (some ⟨.fz, d⟩ :: ρ) := (rfl)
theorem z_rdS {i : Nat} {o : Option Sl} {ρ : PEnv} : rdSl (i + 1) (o :: ρ) = (rdSl i ρ).bind fun v ρ' => .ok v (o :: ρ') := by
  unfold rdSl
  rw [List.getElem?_cons_succ]
  cases h : ρ[i]? with
  | none => rfl
  | some u => cases u with
    | none => rfl
    | some s =>
      obtain ⟨t, d⟩ := s
      cases t with
      | fz => rfl
      | lf => rfl
      | own => cases d <;> rfl
      | lent => cases d <;> rfl
theorem z_mt0 {d : PyData} {ρ : PEnv} : mtSl 0 (some ⟨.fz, d⟩ :: ρ) = none := (rfl)
theorem z_mt0o {d : PyData} {ρ : PEnv} : mtSl 0 (some ⟨.own, d⟩ :: ρ) = some (0, .own, d) := (rfl)
theorem z_mt0l {d : PyData} {ρ : PEnv} : mtSl 0 (some ⟨.lent, d⟩ :: ρ) = some (0, .lent, d) := (rfl)
theorem z_mtS {i : Nat} {o : Option Sl} {ρ : PEnv} : mtSl (i + 1) (o :: ρ) = (mtSl i ρ).map fun r => (r.1 + 1, r.2) := by
  unfold mtSl
  rw [List.getElem?_cons_succ]
  cases h : ρ[i]? with
  | none => rfl
  | some u => cases u with
    | none => rfl
    | some s => obtain ⟨t, d⟩ := s; cases t <;> rfl
section
variable {β : Type} {ρ : PEnv}
theorem z_sh0 {d : PyData} {k : Sl → List (Nat × Bool) → PEnv → R β} : show_ 0 (some ⟨.fz, d⟩ :: ρ) k = k ⟨.fz, d⟩ [] (some ⟨.fz, d⟩ :: ρ) := (rfl)
theorem z_sh0o {d : List PyData} {k : Sl → List (Nat × Bool) → PEnv → R β} : show_ 0 (some ⟨.own, .list d⟩ :: ρ) k = k ⟨.fz, .list d⟩ [] (some ⟨.fz, .list d⟩ :: ρ) := (rfl)
theorem z_shS {i : Nat} {o : Option Sl} {k : Sl → List (Nat × Bool) → PEnv → R β} : show_ (i + 1) (o :: ρ) k = show_ i ρ fun s l ρ' => k s l (o :: ρ') := by
  unfold show_
  rw [List.getElem?_cons_succ]
  cases h : ρ[i]? with
  | none => rfl
  | some u => cases u with
    | none => rfl
    | some s =>
      obtain ⟨t, d⟩ := s
      cases t with
      | fz => rfl
      | lf => rfl
      | own => cases d <;> rfl
      | lent => cases d <;> rfl
def up1 (l : List (Nat × Bool)) : List (Nat × Bool) := l.map fun p => (p.1 + 1, p.2)
theorem z_le0 {d : PyData} {k : Sl → List (Nat × Bool) → PEnv → R β} : lend 0 (some ⟨.fz, d⟩ :: ρ) k = k ⟨.fz, d⟩ [] (some ⟨.fz, d⟩ :: ρ) := (rfl)
theorem z_le0o {d : PyData} {k : Sl → List (Nat × Bool) → PEnv → R β} : lend 0 (some ⟨.own, d⟩ :: ρ) k = k ⟨.lent, d⟩ [(0, true)] (none :: ρ) := (rfl)
theorem z_le0l {d : PyData} {k : Sl → List (Nat × Bool) → PEnv → R β} : lend 0 (some ⟨.lent, d⟩ :: ρ) k = k ⟨.lent, d⟩ [(0, false)] (none :: ρ) := (rfl)
theorem z_leS {i : Nat} {o : Option Sl} {k : Sl → List (Nat × Bool) → PEnv → R β} : lend (i + 1) (o :: ρ) k = lend i ρ fun s l ρ' => k s (up1 l) (o :: ρ') := by
  unfold lend
  rw [List.getElem?_cons_succ]
  cases h : ρ[i]? with
  | none => rfl
  | some u => cases u with
    | none => rfl
    | some s => obtain ⟨t, d⟩ := s; cases t <;> rfl
theorem z_up0 : up1 [] = [] := (rfl)
theorem z_upC {i : Nat} {b : Bool} {l : List (Nat × Bool)} : up1 ((i, b) :: l) = (i + 1, b) :: up1 l := (rfl)
theorem z_gv0 {d : PyData} {m : Bool} {k : Sl → PEnv → R β} (h : isDc d = false) : given d false m ρ k = k ⟨.fz, d⟩ ρ := by
  unfold given
  simp [h]
theorem z_gv1 {d : PyData} {k : Sl → PEnv → R β} : given d true true ρ k = k ⟨.own, d⟩ ρ := (rfl)
theorem z_gv2 {d : PyData} {b : Bool} {k : Sl → PEnv → R β} (h : isDc d = false) : given d b false ρ k = k ⟨.fz, d⟩ ρ := by
  unfold given
  simp [h]
theorem z_ck {d : PyData} {fr : Bool} {back : List Sl} {ls : List (Nat × Bool)} {ρ' : PEnv} {k : VR → PEnv → R β} (h : giveBack ls back ρ = some ρ') : cbk (.ok d fr back) ls ρ k = k (d, fr) ρ' := by
  unfold cbk
  simp only [h]
theorem z_ck0 {d : PyData} {fr : Bool} {k : VR → PEnv → R β} : cbk (.ok d fr []) [] ρ k = k (d, fr) ρ := (rfl)
theorem z_ck1o {d d' : PyData} {fr : Bool} {i : Nat} {k : VR → PEnv → R β} : cbk (.ok d fr [⟨.lent, d'⟩]) [(i, true)] ρ k = k (d, fr) (ρ.set i (some ⟨.own, d'⟩)) := (rfl)
theorem z_ck1l {d d' : PyData} {fr : Bool} {i : Nat} {k : VR → PEnv → R β} : cbk (.ok d fr [⟨.lent, d'⟩]) [(i, false)] ρ k = k (d, fr) (ρ.set i (some ⟨.lent, d'⟩)) := (rfl)
end
theorem z_ct0 {d : PyData} {b : Bool} (h : isDc d = false) : ctB b d false = some ⟨.fz, d⟩ := by
  unfold ctB
  simp [h]
theorem z_ct1 {d : PyData} : ctB true d true = some ⟨.own, d⟩ := (rfl)
theorem z_ct2 {d : PyData} {b : Bool} (h : isDc d = false) : ctB false d b = some ⟨.fz, d⟩ := by
  unfold ctB
  simp [h]
theorem d_int {i : Int} : isDc (.int i) = false := (rfl)
theorem d_str {i : Str} : isDc (.str i) = false := (rfl)
theorem d_bool {i : Bool} : isDc (.bool i) = false := (rfl)
theorem d_tup {i : List PyData} : isDc (.tuple i) = false := (rfl)
theorem d_lst {i : List PyData} : isDc (.list i) = false := (rfl)
theorem d_non : isDc .none = false := (rfl)
theorem y_ct_int {i : Int} {b : Bool} : ctB b (.int i) false = some ⟨.fz, (.int i)⟩ := (rfl)
theorem y_gv_int {β : Type} {ρ : PEnv} {k : Sl → PEnv → R β} {i : Int} {b : Bool} : given (.int i) false b ρ k = k ⟨.fz, (.int i)⟩ ρ := (rfl)
theorem y_ct_str {i : Str} {b : Bool} : ctB b (.str i) false = some ⟨.fz, (.str i)⟩ := (rfl)
theorem y_gv_str {β : Type} {ρ : PEnv} {k : Sl → PEnv → R β} {i : Str} {b : Bool} : given (.str i) false b ρ k = k ⟨.fz, (.str i)⟩ ρ := (rfl)
theorem y_ct_bool {i : Bool} {b : Bool} : ctB b (.bool i) false = some ⟨.fz, (.bool i)⟩ := (rfl)
theorem y_gv_bool {β : Type} {ρ : PEnv} {k : Sl → PEnv → R β} {i : Bool} {b : Bool} : given (.bool i) false b ρ k = k ⟨.fz, (.bool i)⟩ ρ := (rfl)
theorem y_ct_tup {i : List PyData} {b : Bool} : ctB b (.tuple i) false = some ⟨.fz, (.tuple i)⟩ := (rfl)
theorem y_gv_tup {β : Type} {ρ : PEnv} {k : Sl → PEnv → R β} {i : List PyData} {b : Bool} : given (.tuple i) false b ρ k = k ⟨.fz, (.tuple i)⟩ ρ := (rfl)
theorem y_ct_lst {i : List PyData} {b : Bool} : ctB b (.list i) false = some ⟨.fz, (.list i)⟩ := (rfl)
theorem y_gv_lst {β : Type} {ρ : PEnv} {k : Sl → PEnv → R β} {i : List PyData} {b : Bool} : given (.list i) false b ρ k = k ⟨.fz, (.list i)⟩ ρ := (rfl)
theorem y_ct_non  {b : Bool} : ctB b .none false = some ⟨.fz, .none⟩ := (rfl)
theorem y_gv_non {β : Type} {ρ : PEnv} {k : Sl → PEnv → R β}  {b : Bool} : given .none false b ρ k = k ⟨.fz, .none⟩ ρ := (rfl)
theorem y_ctl {i : List PyData} : ctB false (.list i) true = some ⟨.fz, .list i⟩ := (rfl)
theorem y_gvl {β : Type} {ρ : PEnv} {k : Sl → PEnv → R β} {i : List PyData} : given (.list i) true false ρ k = k ⟨.fz, .list i⟩ ρ := (rfl)
theorem y_is_int {i : Int} : isCt (.int i) = false := (rfl)
theorem y_is_str {i : Str} : isCt (.str i) = false := (rfl)
theorem y_is_bool {i : Bool} : isCt (.bool i) = false := (rfl)
theorem y_is_tup {i : List PyData} : isCt (.tuple i) = false := (rfl)
theorem y_is_lst {i : List PyData} : isCt (.list i) = true := (rfl)
theorem y_is_non : isCt .none = false := (rfl)
/-! loops by an invariant -/
theorem forI_run {g : PyData → PEnv → Option PEnv} {f : PEnv → SR} (R : SR → Prop) : ∀ (xs : List PyData) (P : Nat → PEnv → Prop) (ρ : PEnv), P 0 ρ →
    (∀ i x ρ, xs[i]? = some x → P i ρ → ∃ ρ1, g x ρ = some ρ1 ∧ ((∃ ρ2, (f ρ1 = .nx ρ2 ∨ f ρ1 = .ct ρ2) ∧ P (i + 1) ρ2) ∨ (∃ ρ2, f ρ1 = .bk ρ2 ∧ R (.nx ρ2)) ∨ ∃ d fr ρ2, f ρ1 = .rt d fr ρ2 ∧ R (.rt d fr ρ2))) →
    (∀ ρ, P xs.length ρ → R (.nx ρ)) → R (forI g f xs ρ)
  | [], P, ρ, h0, _, hd => hd ρ h0
  | x :: xs, P, ρ, h0, hs, hd => by
    obtain ⟨ρ1, h1, h2⟩ := hs 0 x ρ rfl h0
    unfold forI
    rw [h1]
    simp only
    rcases h2 with ⟨ρ2, h2 | h2, h3⟩ | ⟨ρ2, h2, h3⟩ | ⟨d, fr, ρ2, h2, h3⟩
    · rw [h2]
      exact forI_run R xs (fun i => P (i + 1)) ρ2 h3 (fun i y ρ hy hp => hs (i + 1) y ρ (by simpa using hy) hp) hd
    · rw [h2]
      exact forI_run R xs (fun i => P (i + 1)) ρ2 h3 (fun i y ρ hy hp => hs (i + 1) y ρ (by simpa using hy) hp) hd
    · rw [h2]; exact h3
    · rw [h2]; exact h3
/-- one that runs to its end -/
theorem forI_inv {g : PyData → PEnv → Option PEnv} {f : PEnv → SR} (xs : List PyData) (P : Nat → PEnv → Prop) (ρ : PEnv) (h0 : P 0 ρ)
    (hs : ∀ i x ρ, xs[i]? = some x → P i ρ → ∃ ρ1 ρ2, g x ρ = some ρ1 ∧ (f ρ1 = .nx ρ2 ∨ f ρ1 = .ct ρ2) ∧ P (i + 1) ρ2) : ∃ ρ', forI g f xs ρ = .nx ρ' ∧ P xs.length ρ' :=
  forI_run (fun r => ∃ ρ', r = .nx ρ' ∧ P xs.length ρ') xs P ρ h0 (fun i x ρ hx hp => by
    obtain ⟨ρ1, ρ2, h1, h2, h3⟩ := hs i x ρ hx hp
    exact ⟨ρ1, h1, .inl ⟨ρ2, h2, h3⟩⟩) fun ρ hp => ⟨ρ, rfl, hp⟩
theorem compI_inv {g : PyData → PEnv → Option PEnv} {c : PEnv → R Bool} {f : PEnv → R PyData} {vs : List Nat} : ∀ (xs : List PyData) (P : Nat → List PyData → PEnv → Prop) (acc : List PyData) (ρ : PEnv), P 0 acc ρ →
    (∀ i x acc ρ, xs[i]? = some x → P i acc ρ → ∃ ρ1 b ρ2, g x (wipeP ρ vs) = some ρ1 ∧ c ρ1 = .ok b ρ2 ∧ if b = true then ∃ v ρ3, f ρ2 = .ok v ρ3 ∧ acc.length < sizeLine ∧ P (i + 1) (acc ++ [v]) (wipeP ρ3 vs) else P (i + 1) acc (wipeP ρ2 vs)) →
    ∃ out ρ', compI g c f vs xs acc ρ = .ok out ρ' ∧ P xs.length out ρ'
  | [], P, acc, ρ, h0, _ => ⟨acc, ρ, rfl, h0⟩
  | x :: xs, P, acc, ρ, h0, hs => by
    obtain ⟨ρ1, b, ρ2, h1, h2, h3⟩ := hs 0 x acc ρ rfl h0
    unfold compI
    rw [h1]
    simp only
    rw [h2]
    simp only [b_ok]
    cases b with
    | true =>
      rw [if_pos rfl] at h3 ⊢
      obtain ⟨v, ρ3, h4, h5, h6⟩ := h3
      rw [h4]
      simp only [b_ok]
      rw [if_pos h5]
      exact compI_inv xs (fun i => P (i + 1)) _ _ h6 fun i y acc ρ hy hp => hs (i + 1) y acc ρ (by simpa using hy) hp
    | false =>
      rw [if_neg Bool.false_ne_true] at h3 ⊢
      exact compI_inv xs (fun i => P (i + 1)) _ _ h3 fun i y acc ρ hy hp => hs (i + 1) y acc ρ (by simpa using hy) hp
theorem rngL_get {a b : Int} {i : Nat} {x : PyData} (h : (rngL a b)[i]? = some x) : x = .int (a + i) ∧ i < (b - a).toNat := by
  unfold rngL at h
  rw [List.getElem?_map] at h
  cases e : (List.range (b - a).toNat)[i]? with
  | none => rw [e] at h; cases h
  | some j =>
    rw [e] at h
    cases h
    obtain ⟨h1, h2⟩ := List.getElem?_eq_some_iff.mp e
    rw [List.getElem_range] at h2
    subst h2
    exact ⟨rfl, by simpa using h1⟩
theorem rngL_len {a b : Int} : (rngL a b).length = (b - a).toNat := by
  unfold rngL
  rw [List.length_map, List.length_range]
/-- a loop that may end the def -/
theorem forI_end {args : List Sl} {g : PyData → PEnv → Option PEnv} {f : PEnv → SR} {xs : List PyData} {ρ : PEnv} {k : PEnv → SR} {r : CR} (P : Nat → PEnv → Prop) (h0 : P 0 ρ)
    (hs : ∀ i x ρ, xs[i]? = some x → P i ρ → ∃ ρ1, g x ρ = some ρ1 ∧ ((∃ ρ2, (f ρ1 = .nx ρ2 ∨ f ρ1 = .ct ρ2) ∧ P (i + 1) ρ2) ∨ (∃ ρ2, f ρ1 = .bk ρ2 ∧ endI args (sq (.nx ρ2) k) = r) ∨ ∃ d fr ρ2, f ρ1 = .rt d fr ρ2 ∧ endI args (.rt d fr ρ2) = r))
    (hd : ∀ ρ, P xs.length ρ → endI args (k ρ) = r) : endI args (sq (forI g f xs ρ) k) = r :=
  forI_run (fun x => endI args (sq x k) = r) xs P ρ h0 hs hd
theorem divOk_2 : divOk 2 = true := by decide
end TW

set_option Elab.async false
set_option maxRecDepth 100000
set_option maxHeartbeats 1000000
/-! Tw20: named parts of compiled bodies. -/
namespace TW
open PySem
/-! built-ins -/
def bLen (d : PyData) : Option VR := match d with
    | .list xs => some (.int xs.length, false)
    | .tuple xs => some (.int xs.length, false)
    | .str z => if z.length ≤ sizeLine then some (.int z.length, false) else none
    | _ => none
def bInt (d : PyData) : Option VR := match d with
    | .int i => some (.int i, false)
    | .bool b => some (.int (if b then 1 else 0), false)
    | .str x => if x.length ≤ 640 then (PySem.intText? x).map fun i => (.int i, false) else none
    | _ => none
def bTuple (d : PyData) : Option VR := match d with
    | .list xs => some (.tuple xs, false)
    | .tuple xs => some (.tuple xs, false)
    | _ => none
def bList (d : PyData) : Option VR := match d with
    | .list xs => some (.list xs, true)
    | .tuple xs => some (.list xs, true)
    | _ => none
def bStr (d : PyData) : Option VR := match d with
    | .int i => if i.natAbs.log2 < 1920 then some (.str (toString i), false) else none
    | _ => none
def bAbs (d : PyData) : Option VR := match d with
    | .int i => some (.int (if i < 0 then -i else i), false)
    | _ => none
def bSum (d : PyData) : Option VR := match d with
    | .list xs => (intsP xs).map fun ns => (.int ns.sum, false)
    | _ => none
def bMax (d : PyData) : Option VR := match d with
    | .list xs => (intsP xs).bind fun ns => (maxL ns).map fun m => (.int m, false)
    | _ => none
def bMin (d : PyData) : Option VR := match d with
    | .list xs => (intsP xs).bind fun ns => (minL ns).map fun m => (.int m, false)
    | _ => none
def bMax2 (d e : PyData) : Option VR := match d, e with
    | .int i, .int j => some (.int (if j > i then j else i), false)
    | _, _ => none
def bMin2 (d e : PyData) : Option VR := match d, e with
    | .int i, .int j => some (.int (if j < i then j else i), false)
    | _, _ => none
def bGcd (d e : PyData) : Option VR := match d, e with
    | .int i, .int j => some (.int ((Nat.gcd i.natAbs j.natAbs : Nat) : Int), false)
    | _, _ => none
def iInt (d : PyData) : Bool := match d with | .int _ => true | .bool _ => true | _ => false
def iBool (d : PyData) : Bool := match d with | .bool _ => true | _ => false
def iTuple (d : PyData) : Bool := match d with | .tuple _ => true | _ => false
def iStr (d : PyData) : Bool := match d with | .str _ => true | _ => false
def iList (d : PyData) : Bool := match d with | .list _ => true | _ => false
def mJoin (o d : PyData) : Option PyData := match o, d with
    | .str z, .list xs => (strsP xs).bind fun ys => if joinLen z ys ≤ 16777216 then some (.str (Str.join z ys)) else none
    | .str z, .tuple xs => (strsP xs).bind fun ys => if joinLen z ys ≤ 16777216 then some (.str (Str.join z ys)) else none
    | _, _ => none
section
variable {d e : PyData}
theorem w_len : bi1P "len" d = bLen d := by unfold bi1P; simp only [str_eq, String.reduceEq, if_true, if_false]; rfl
theorem w_int : bi1P "int" d = bInt d := by unfold bi1P; simp only [str_eq, String.reduceEq, if_true, if_false]; rfl
theorem w_tuple : bi1P "tuple" d = bTuple d := by unfold bi1P; simp only [str_eq, String.reduceEq, if_true, if_false]; rfl
theorem w_list : bi1P "list" d = bList d := by unfold bi1P; simp only [str_eq, String.reduceEq, if_true, if_false]; rfl
theorem w_str : bi1P "str" d = bStr d := by unfold bi1P; simp only [str_eq, String.reduceEq, if_true, if_false]; rfl
theorem w_abs : bi1P "abs" d = bAbs d := by unfold bi1P; simp only [str_eq, String.reduceEq, if_true, if_false]; rfl
theorem w_sum : bi1P "sum" d = bSum d := by unfold bi1P; simp only [str_eq, String.reduceEq, if_true, if_false]; rfl
theorem w_max : bi1P "max" d = bMax d := by unfold bi1P; simp only [str_eq, String.reduceEq, if_true, if_false]; rfl
theorem w_min : bi1P "min" d = bMin d := by unfold bi1P; simp only [str_eq, String.reduceEq, if_true, if_false]; rfl
theorem w_max2 : bi2P "max" d e = bMax2 d e := by unfold bi2P; simp only [str_eq, String.reduceEq, if_true, if_false]; rfl
theorem w_min2 : bi2P "min" d e = bMin2 d e := by unfold bi2P; simp only [str_eq, String.reduceEq, if_true, if_false]; rfl
theorem w_gcd : bi2P "gcd" d e = bGcd d e := by unfold bi2P; simp only [str_eq, String.reduceEq, if_true, if_false]; rfl
theorem w_iInt : isiP d "int" = some (iInt d) := by unfold isiP; simp only [str_eq, String.reduceEq, if_true, if_false]; rfl
theorem w_iBool : isiP d "bool" = some (iBool d) := by unfold isiP; simp only [str_eq, String.reduceEq, if_true, if_false]; rfl
theorem w_iTuple : isiP d "tuple" = some (iTuple d) := by unfold isiP; simp only [str_eq, String.reduceEq, if_true, if_false]; rfl
theorem w_iStr : isiP d "str" = some (iStr d) := by unfold isiP; simp only [str_eq, String.reduceEq, if_true, if_false]; rfl
theorem w_iList : isiP d "list" = some (iList d) := by unfold isiP; simp only [str_eq, String.reduceEq, if_true, if_false]; rfl
theorem w_join : mt1P "join" d e = mJoin d e := by unfold mt1P; simp only [str_eq, String.reduceEq, if_true, if_false]; rfl
end
/-! and, or -/
def bv (op : BoolOp) (d : PyData) (ρ : PEnv) (k : PEnv → R VR) : R VR := match d with
    | .bool b => (match op, b with
      | .And, true => k ρ
      | .And, false => .ok (.bool false, false) ρ
      | .Or, false => k ρ
      | .Or, true => .ok (.bool true, false) ρ)
    | _ => .no
def bt (op : BoolOp) (b : Bool) (ρ : PEnv) (k : PEnv → R Bool) : R Bool := match op, b with
      | .And, true => k ρ
      | .And, false => .ok false ρ
      | .Or, false => k ρ
      | .Or, true => .ok true ρ
section
variable {E : Ev} {op : BoolOp} {x y : Expr} {r : List Expr} {ρ : PEnv}
theorem bv_one : boolV E op [x] ρ = E.ev x ρ := rfl
theorem bv_cons : boolV E op (x :: y :: r) ρ = (E.ev x ρ).bind fun v ρ' => bv op v.1 ρ' fun ρ' => boolV E op (y :: r) ρ' := rfl
theorem bt_one : allT E op [x] ρ = E.ts x ρ := rfl
theorem bt_cons : allT E op (x :: y :: r) ρ = (E.ts x ρ).bind fun v ρ' => bt op v ρ' fun ρ' => allT E op (y :: r) ρ' := rfl
end
/-! return, slices, changes -/
def retN (i : Nat) (ρ : PEnv) : SR := match mtSl i ρ with
        | some (i, .own, d) => .rt d true (ρ.set i none)
        | _ => (rdSl i ρ).toS fun v ρ' => .rt v.1 v.2 ρ'
def ip (v : PyData) (ρ : PEnv) : R (Option Int) := match v with
    | .int i => .ok (some i) ρ
    | _ => .no
def apS (i : Nat) (ρ : PEnv) (e : PEnv → R PyData) : SR := match mtSl i ρ with
      | some (_, _, d) => if isLs d then (e ρ).toS fun v ρ1 => (match mtSl i ρ1 with
        | some (i, t, .list xs) => if xs.length < sizeLine then .nx (ρ1.set i (some ⟨t, .list (xs ++ [v])⟩)) else .no
        | _ => .no) else .no
      | none => .no
def sgS (i : Nat) (ρ : PEnv) (k : PEnv → SR) : SR := match mtSl i ρ with
  | some _ => k ρ
  | none => .no
def suS (i : Nat) (key v : PyData) (ρ : PEnv) : SR := match mtSl i ρ with
        | some (j, t, d) => (match setIt t d key v with
          | some s => .nx (ρ.set j (some s))
          | none => .no)
        | none => .no
section
variable {E : Ctx → Ev} {C : Ctx} {ρ : PEnv} {n : Nat}
/-- the part of a return of a name -/
theorem u_retn {x : Str} {p p2 : Pos} : stStep E C (.Return (some (.Name x p)) p2) ρ = (match mutSl C x ρ with
        | some (i, .own, d) => .rt d true (ρ.set i none)
        | _ => ((E C).ev (.Name x p) ρ).toS fun v ρ' => .rt v.1 v.2 ρ') := rfl
theorem u_ret1 {a : Expr} {o : BoolOp} {vs : List Expr} {p p2 : Pos} : stStep E C (.Return (some (.BoolOp o vs p)) p2) ρ = ((E C).ev (.BoolOp o vs p) ρ).toS fun v ρ' => .rt v.1 v.2 ρ' := rfl
theorem u_ret2 {a b : Expr} {o : Operator} {p p2 : Pos} : stStep E C (.Return (some (.BinOp a o b p)) p2) ρ = ((E C).ev (.BinOp a o b p) ρ).toS fun v ρ' => .rt v.1 v.2 ρ' := rfl
theorem u_ret3 {a : Expr} {o : UnaryOp} {p p2 : Pos} : stStep E C (.Return (some (.UnaryOp o a p)) p2) ρ = ((E C).ev (.UnaryOp o a p) ρ).toS fun v ρ' => .rt v.1 v.2 ρ' := rfl
theorem u_ret4 {f : Expr} {es : List Expr} {ks : List Keyword} {p p2 : Pos} : stStep E C (.Return (some (.Call f es ks p)) p2) ρ = ((E C).ev (.Call f es ks p) ρ).toS fun v ρ' => .rt v.1 v.2 ρ' := rfl
theorem u_ret5 {a b : Expr} {p p2 : Pos} : stStep E C (.Return (some (.Subscript a b p)) p2) ρ = ((E C).ev (.Subscript a b p) ρ).toS fun v ρ' => .rt v.1 v.2 ρ' := rfl
theorem u_ret6 {a b c : Expr} {p p2 : Pos} : stStep E C (.Return (some (.IfExp a b c p)) p2) ρ = ((E C).ev (.IfExp a b c p) ρ).toS fun v ρ' => .rt v.1 v.2 ρ' := rfl
theorem u_ret7 {es : List Expr} {k : Nat} {p p2 : Pos} : stStep E C (.Return (some (.Tuple es k p)) p2) ρ = ((E C).ev (.Tuple es k p) ρ).toS fun v ρ' => .rt v.1 v.2 ρ' := rfl
theorem u_ret8 {es : List Expr} {p p2 : Pos} : stStep E C (.Return (some (.List es p)) p2) ρ = ((E C).ev (.List es p) ρ).toS fun v ρ' => .rt v.1 v.2 ρ' := rfl
theorem u_ret9 {c : Const} {k : Nat} {p p2 : Pos} : stStep E C (.Return (some (.Constant c k p)) p2) ρ = ((E C).ev (.Constant c k p) ρ).toS fun v ρ' => .rt v.1 v.2 ρ' := rfl
theorem u_ret10 {l : Expr} {os : List CmpOp} {rs : List Expr} {p p2 : Pos} : stStep E C (.Return (some (.Compare l os rs p)) p2) ρ = ((E C).ev (.Compare l os rs p) ρ).toS fun v ρ' => .rt v.1 v.2 ρ' := rfl
theorem u_ret11 {el : Expr} {gs : List Comprehension} {sc : Scope} {p p2 : Pos} : stStep E C (.Return (some (.ListComp el gs sc p)) p2) ρ = ((E C).ev (.ListComp el gs sc p) ρ).toS fun v ρ' => .rt v.1 v.2 ρ' := rfl
theorem u_ret12 {ks : List (Option Expr)} {vs : List Expr} {p p2 : Pos} : stStep E C (.Return (some (.Dict ks vs p)) p2) ρ = ((E C).ev (.Dict ks vs p) ρ).toS fun v ρ' => .rt v.1 v.2 ρ' := rfl
theorem part_n : partP C (E C) none ρ = .ok none ρ := rfl
theorem part_s {e : Expr} : partP C (E C) (some e) ρ = ((E C).ev e ρ).bind fun v ρ' => ip v.1 ρ' := rfl
theorem partE_s {E : Ev} {e : Expr} : partP C E (some e) ρ = (E.ev e ρ).bind fun v ρ' => ip v.1 ρ' := rfl
theorem partE_n {E : Ev} : partP C E none ρ = .ok none ρ := rfl
/-- append, by the name's place -/
theorem ap_eq {E : Ev} {x : Str} {a : Expr} {i : Nat} (hm : ∀ ρ, mutSl C x ρ = mtSl i ρ) : mutP C E x "append" [a] ρ = if starred a then .no else apS i ρ fun ρ => (kpE E a ρ) := by
  unfold mutP apS
  simp only [if_true, hm] <;> rfl
theorem asg_eq {x : Str} {i e : Expr} {p p2 p3 : Pos} {j : Nat} (hm : ∀ ρ, mutSl C x ρ = mtSl j ρ) : stStep E C (.Assign [.Subscript (.Name x p) i p2] e p3) ρ = if noSlice i && noComp e then (kpE (E C) e ρ).toS fun v ρ1 => sgS j ρ1 fun ρ1 => (kpE (E C) i ρ1).toS fun k ρ2 => suS j k v ρ2 else .no := by
  rw [u_asgS]
  unfold sgS suS
  simp only [hm] <;> rfl
def agS (i : Nat) (op : Operator) (v : PyData) (ρ : PEnv) : SR := os (pkSl i ρ) fun u => os (augP op u v) fun d => nxO (putSl i ⟨.fz, d⟩ ρ)
theorem aug_eq {x : Str} {op : Operator} {e : Expr} {p p3 : Pos} {i : Nat} (h1 : slotOf C x = some i) (h2 : ∀ ρ, pkName C x ρ = pkSl i ρ) (h3 : ∀ s ρ, setSl C x s ρ = putSl i s ρ) : stStep E C (.AugAssign (.Name x p) op e p3) ρ = os (pkSl i ρ) fun _ => ((E C).ev e ρ).toS fun v ρ1 => agS i op v.1 ρ1 := by
  rw [u_aug, h1]
  simp only [h2, s_ofO, h3]
  congr 1
  funext _
  congr 1
  funext v ρ1
  unfold agS
  congr 1
  funext u
  cases augP op u v.fst <;> rfl
end
/-- a loop's target of several names -/
def tgO (d : PyData) (f : List PyData → Option PEnv) : Option PEnv := match d with
  | .tuple ds => f ds
  | _ => none
theorem tg2_q {C : Ctx} {ts : List Expr} {d : PyData} {ρ : PEnv} : tg2 C ts d ρ = tgO d fun ds => setNames C ts ds ρ := by
  cases d <;> rfl
/-! tagged by their place in the text -/
def forQ (p : Pos) (g : PyData → PEnv → Option PEnv) (f : PEnv → SR) (xs : List PyData) (ρ : PEnv) : SR := forI g f xs ρ
def whileQ (p : Pos) (c : PEnv → R Bool) (f : PEnv → SR) (W : Nat) (ρ : PEnv) : SR := whileI c f W ρ
def compQ (p : Pos) (g : PyData → PEnv → Option PEnv) (c : PEnv → R Bool) (f : PEnv → R PyData) (vs : List Nat) (xs acc : List PyData) (ρ : PEnv) : R (List PyData) := compI g c f vs xs acc ρ
def ifQ (p : Pos) (ρ : PEnv) (b : Bool) (t e : SR) : SR := if b then t else e
def ieQ {α : Type} (p : Pos) (ρ : PEnv) (b : Bool) (t e : R α) : R α := if b then t else e
def lcTQ (p : Pos) (vs : List Nat) (i : PEnv → R (List PyData)) (g : PyData → PEnv → Option PEnv) (c : PEnv → R Bool) (f : PEnv → R PyData) (ρ : PEnv) : R VR := (i ρ).bind fun xs ρ1 =>
      if hidOk ρ1 vs then (compQ p g c f vs xs [] (wipeP ρ1 vs)).bind fun ds ρ2 => .ok (.list ds, true) (unhide ρ1 vs ρ2) else .no
def lcIQ (p : Pos) (b : Bool) (vs : List Nat) (i : PEnv → R (List PyData)) (g : PyData → PEnv → Option PEnv) (c : PEnv → R Bool) (f : PEnv → R PyData) (ρ : PEnv) : R VR := if b then lcTQ p vs i g c f ρ else .no
section
variable {E : Ctx → Ev} {C : Ctx} {ρ : PEnv} {n : Nat}
theorem Q_for {tg it : Expr} {body : List Stmt} {p : Pos} : stStep E C (.For tg it body [] p) ρ = if noSet it then (iterP C (E C) it ρ).toS fun xs ρ' => forQ p (fun d ρ => setTg C tg d ρ) (fun ρ => blk (E C) body ρ) xs ρ' else .no := by
  rw [u_for]
  simp only [forP_eq]
  rfl
theorem Q_while {t : Expr} {body : List Stmt} {p : Pos} : stStep E C (.While t body [] p) ρ = whileQ p (fun ρ => (E C).ts t ρ) (fun ρ => blk (E C) body ρ) WF ρ := by
  rw [u_while, whileP_eq]
  rfl
theorem nk_cl : (some NameKind.cell == some NameKind.local) = false := rfl
theorem nk_ll : (some NameKind.local == some NameKind.local) = true := rfl
theorem u_raise {o c : Option Expr} {p : Pos} : stStep E C (.Raise o c p) ρ = .no := rfl
theorem Q_if {t : Expr} {a b : List Stmt} {p : Pos} : stStep E C (.If t a b p) ρ = ((E C).ts t ρ).toS fun k ρ' => ifQ p ρ' k (blk (E C) a ρ') (blk (E C) b ρ') := rfl
theorem Q_ife {t a b : Expr} {p : Pos} : evStep E C (.IfExp t a b p) ρ = ((E C).ts t ρ).bind fun k ρ' => ieQ p ρ' k ((E C).ev a ρ') ((E C).ev b ρ') := rfl
theorem Q_lc {el tg it : Expr} {ifs : List Expr} {scope : Scope} {p : Pos} : evStep E C (.ListComp el [⟨tg, it, ifs, 0⟩] scope p) ρ = lcIQ p (L2.blkC C.N C.sc scope (ownOf C.N scope) && noSet it) ((ownOf C.N scope).map (·.2)) (fun ρ => iterP C (E C) it ρ) (fun d ρ => setTg (inBlk C scope) tg d ρ) (fun ρ => tstI (E (inBlk C scope)) ifs ρ) (fun ρ => kpE (E (inBlk C scope)) el ρ) ρ := by
  rw [q_lc, lcF_eq]
  rfl
theorem lcQ_true {p : Pos} {b : Bool} {vs : List Nat} {i : PEnv → R (List PyData)} {g : PyData → PEnv → Option PEnv} {c : PEnv → R Bool} {f : PEnv → R PyData} (h : b = true) : lcIQ p b vs i g c f ρ = lcTQ p vs i g c f ρ := by
  subst h
  rfl
theorem ie_b {α β : Type} {p : Pos} {ρ : PEnv} {b : Bool} {m m' : R α} {g : α → PEnv → R β} : (ieQ p ρ b m m').bind g = (ieQ p ρ b m m').bind g := rfl
end
end TW

set_option Elab.async false
set_option maxRecDepth 100000
set_option maxHeartbeats 1000000
/-! TM1: typed values, answers, the pushing of continuations. -/
namespace TM
open PySem TW
/-- typed values of the text -/
class Ty (α : Type) where
  inj : α → PyData
  de : DecidableEq α
  dB : Nat
  pl : ∀ a, (inj a).plain = true
  dp : ∀ a, (inj a).depth ≤ dB
  eqv : ∀ a b, PyData.eqv (inj a) (inj b) = @decide (a = b) (de a b)
  dc : ∀ a, isDc (inj a) = false
abbrev inj {α : Type} [Ty α] (a : α) : PyData := Ty.inj a
/-- no None -/
class NN (α : Type) [Ty α] : Prop where
  l : ∀ a : α, PyData.eqv .none (inj a) = false
  r : ∀ a : α, PyData.eqv (inj a) .none = false
  n : ∀ a : α, isNo (inj a) = false
instance : Ty Int where
  inj := .int
  de := inferInstance
  dB := 0
  pl := fun _ => rfl
  dp := fun _ => Nat.le_refl _
  eqv := fun a b => by
    show PyData.eqv (.int a) (.int b) = _
    unfold PyData.eqv
    by_cases h : a = b
    · simp [h]
    · simp [h]
  dc := fun _ => rfl
instance : NN Int := ⟨fun _ => by show PyData.eqv .none (.int _) = false; unfold PyData.eqv; rfl, fun _ => by show PyData.eqv (.int _) .none = false; unfold PyData.eqv; rfl, fun _ => rfl⟩
instance : Ty Bool where
  inj := .bool
  de := inferInstance
  dB := 0
  pl := fun _ => rfl
  dp := fun _ => Nat.le_refl _
  eqv := fun a b => by
    show PyData.eqv (.bool a) (.bool b) = _
    unfold PyData.eqv
    by_cases h : a = b
    · simp [h]
    · simp [h]
  dc := fun _ => rfl
instance : NN Bool := ⟨fun _ => by show PyData.eqv .none (.bool _) = false; unfold PyData.eqv; rfl, fun _ => by show PyData.eqv (.bool _) .none = false; unfold PyData.eqv; rfl, fun _ => rfl⟩
/-- a text is the list of its codes -/
instance : Ty (List Nat) where
  inj := fun l => .str ⟨l.toArray⟩
  de := inferInstance
  dB := 0
  pl := fun _ => rfl
  dp := fun _ => Nat.le_refl _
  eqv := fun a b => by
    show PyData.eqv (.str ⟨a.toArray⟩) (.str ⟨b.toArray⟩) = _
    unfold PyData.eqv
    by_cases h : a = b
    · subst h; simp
    · rw [decide_eq_false h]
      rw [beq_eq_false_iff_ne]
      intro e
      exact h (by simpa using congrArg (fun s : Str => s.cps.toList) e)
  dc := fun _ => rfl
instance : NN (List Nat) := ⟨fun a => by show PyData.eqv .none (.str ⟨a.toArray⟩) = false; unfold PyData.eqv; rfl, fun a => by show PyData.eqv (.str ⟨a.toArray⟩) .none = false; unfold PyData.eqv; rfl, fun _ => rfl⟩
theorem plainAll_map {α : Type} [Ty α] : ∀ l : List α, PyData.plainAll (l.map Ty.inj) = true
  | [] => rfl
  | a :: l => by
    rw [List.map_cons]
    unfold PyData.plainAll
    rw [Ty.pl, plainAll_map l]
    rfl
theorem depthAll_map {α : Type} [Ty α] : ∀ l : List α, PyData.depthAll (l.map Ty.inj) ≤ Ty.dB α
  | [] => by
    show PyData.depthAll [] ≤ _
    unfold PyData.depthAll
    exact Nat.zero_le _
  | a :: l => by
    rw [List.map_cons]
    unfold PyData.depthAll
    exact Nat.max_le.mpr ⟨Ty.dp a, depthAll_map l⟩
theorem eqvAll_map {α : Type} [Ty α] : ∀ l m : List α, PyData.eqvAll (l.map Ty.inj) (m.map Ty.inj) = @decide (l = m) (@instDecidableEqList α Ty.de l m)
  | [], [] => by
    show PyData.eqvAll [] [] = _
    unfold PyData.eqvAll
    simp
  | [], b :: m => by
    show PyData.eqvAll [] (_ :: _) = _
    unfold PyData.eqvAll
    simp
  | a :: l, [] => by
    show PyData.eqvAll (_ :: _) [] = _
    unfold PyData.eqvAll
    simp
  | a :: l, b :: m => by
    rw [List.map_cons, List.map_cons]
    unfold PyData.eqvAll
    rw [Ty.eqv, eqvAll_map l m]
    by_cases h1 : a = b
    · by_cases h2 : l = m
      · simp [h1, h2]
      · simp [h1, h2]
    · simp [h1]
instance instTyList {α : Type} [Ty α] : Ty (List α) where
  inj := fun l => .list (l.map Ty.inj)
  de := @instDecidableEqList α Ty.de
  dB := Ty.dB α + 1
  pl := fun l => by
    show PyData.plain (.list _) = true
    unfold PyData.plain
    exact plainAll_map l
  dp := fun l => by
    show PyData.depth (.list _) ≤ _
    unfold PyData.depth
    exact Nat.add_le_add_right (depthAll_map l) 1
  eqv := fun a b => by
    show PyData.eqv (.list _) (.list _) = _
    unfold PyData.eqv
    exact eqvAll_map a b
  dc := fun _ => rfl
instance {α : Type} [Ty α] : @NN (List α) instTyList := ⟨fun a => by show PyData.eqv .none (.list _) = false; unfold PyData.eqv; rfl, fun a => by show PyData.eqv (.list _) .none = false; unfold PyData.eqv; rfl, fun _ => rfl⟩
/-- a tuple of any length -/
structure Tp (α : Type) where
  l : List α
instance {α : Type} [Ty α] : Ty (Tp α) where
  inj := fun l => .tuple (l.l.map Ty.inj)
  de := fun a b => match a, b with
    | ⟨a⟩, ⟨b⟩ => match @instDecidableEqList α Ty.de a b with
      | .isTrue h => .isTrue (by rw [h])
      | .isFalse h => .isFalse fun e => h (by cases e; rfl)
  dB := Ty.dB α + 1
  pl := fun l => by
    show PyData.plain (.tuple _) = true
    unfold PyData.plain
    exact plainAll_map l.l
  dp := fun l => by
    show PyData.depth (.tuple _) ≤ _
    unfold PyData.depth
    exact Nat.add_le_add_right (depthAll_map l.l) 1
  eqv := fun a b => by
    show PyData.eqv (.tuple _) (.tuple _) = _
    unfold PyData.eqv
    rw [eqvAll_map a.l b.l]
    obtain ⟨a⟩ := a
    obtain ⟨b⟩ := b
    by_cases h : a = b
    · simp [h]
    · simp [h]
  dc := fun _ => rfl
instance {α : Type} [Ty α] : NN (Tp α) := ⟨fun a => by show PyData.eqv .none (.tuple _) = false; unfold PyData.eqv; rfl, fun a => by show PyData.eqv (.tuple _) .none = false; unfold PyData.eqv; rfl, fun _ => rfl⟩
instance {α β : Type} [Ty α] [Ty β] : Ty (α × β) where
  inj := fun p => .tuple [Ty.inj p.1, Ty.inj p.2]
  de := @instDecidableEqProd α β Ty.de Ty.de
  dB := Ty.dB α + Ty.dB β + 1
  pl := fun p => by
    show PyData.plain (.tuple _) = true
    simp [PyData.plain, PyData.plainAll, Ty.pl]
  dp := fun p => by
    show PyData.depth (.tuple _) ≤ _
    simp only [PyData.depth, PyData.depthAll]
    have h1 := Ty.dp p.1
    have h2 := Ty.dp p.2
    omega
  eqv := fun a b => by
    show PyData.eqv (.tuple _) (.tuple _) = _
    simp only [PyData.eqv, PyData.eqvAll, Ty.eqv]
    obtain ⟨a, c⟩ := a
    obtain ⟨b, d⟩ := b
    by_cases h1 : a = b
    · by_cases h2 : c = d
      · simp [h1, h2]
      · simp [h1, h2]
    · simp [h1]
  dc := fun _ => rfl
instance {α β : Type} [Ty α] [Ty β] : NN (α × β) := ⟨fun a => by show PyData.eqv .none (.tuple _) = false; unfold PyData.eqv; rfl, fun a => by show PyData.eqv (.tuple _) .none = false; unfold PyData.eqv; rfl, fun _ => rfl⟩
structure T3 (α β γ : Type) where
  a : α
  b : β
  c : γ
instance {α β γ : Type} [Ty α] [Ty β] [Ty γ] : Ty (T3 α β γ) where
  inj := fun p => .tuple [Ty.inj p.a, Ty.inj p.b, Ty.inj p.c]
  de := fun x y => match x, y with
    | ⟨a, b, c⟩, ⟨d, e, f⟩ => match @instDecidableEqProd α (β × γ) Ty.de (@instDecidableEqProd β γ Ty.de Ty.de) (a, b, c) (d, e, f) with
      | .isTrue h => .isTrue (by cases h; rfl)
      | .isFalse h => .isFalse fun e => h (by cases e; rfl)
  dB := Ty.dB α + (Ty.dB β + Ty.dB γ) + 1
  pl := fun p => by
    show PyData.plain (.tuple _) = true
    simp [PyData.plain, PyData.plainAll, Ty.pl]
  dp := fun p => by
    show PyData.depth (.tuple _) ≤ _
    simp only [PyData.depth, PyData.depthAll]
    have h1 := Ty.dp p.a
    have h2 := Ty.dp p.b
    have h3 := Ty.dp p.c
    omega
  eqv := fun x y => by
    show PyData.eqv (.tuple _) (.tuple _) = _
    simp only [PyData.eqv, PyData.eqvAll, Ty.eqv]
    obtain ⟨a, b, c⟩ := x
    obtain ⟨d, e, f⟩ := y
    by_cases h1 : a = d
    · by_cases h2 : b = e
      · by_cases h3 : c = f
        · simp [h1, h2, h3]
        · simp [h1, h2, h3]
      · simp [h1, h2]
    · simp [h1]
  dc := fun _ => rfl
instance {α β γ : Type} [Ty α] [Ty β] [Ty γ] : NN (T3 α β γ) := ⟨fun a => by show PyData.eqv .none (.tuple _) = false; unfold PyData.eqv; rfl, fun a => by show PyData.eqv (.tuple _) .none = false; unfold PyData.eqv; rfl, fun _ => rfl⟩
instance {α : Type} [Ty α] [NN α] : Ty (Option α) where
  inj := fun o => match o with
    | none => .none
    | some a => Ty.inj a
  de := fun a b => match a, b with
    | none, none => .isTrue rfl
    | none, some _ => .isFalse (by simp)
    | some _, none => .isFalse (by simp)
    | some a, some b => match Ty.de a b with
      | .isTrue h => .isTrue (by rw [h])
      | .isFalse h => .isFalse fun e => h (by cases e; rfl)
  dB := Ty.dB α
  pl := fun o => by cases o with
    | none => rfl
    | some a => exact Ty.pl a
  dp := fun o => by cases o with
    | none => exact Nat.zero_le _
    | some a => exact Ty.dp a
  eqv := fun x y => by
    cases x with
    | none => cases y with
      | none =>
        show PyData.eqv .none .none = _
        unfold PyData.eqv
        simp
      | some b =>
        show PyData.eqv .none (inj b) = _
        rw [NN.l]
        simp
    | some a => cases y with
      | none =>
        show PyData.eqv (inj a) .none = _
        rw [NN.r]
        simp
      | some b =>
        show PyData.eqv (Ty.inj a) (Ty.inj b) = _
        rw [Ty.eqv]
        by_cases h : a = b
        · simp [h]
        · simp [h]
  dc := fun o => by cases o with
    | none => rfl
    | some a => exact Ty.dc a
theorem dB_int : Ty.dB Int = 0 := (rfl)
theorem dB_bool : Ty.dB Bool = 0 := (rfl)
theorem dB_str : Ty.dB (List Nat) = 0 := (rfl)
theorem dB_list {α : Type} [Ty α] : @Ty.dB (List α) instTyList = Ty.dB α + 1 := (rfl)
theorem dB_tp {α : Type} [Ty α] : Ty.dB (Tp α) = Ty.dB α + 1 := (rfl)
theorem dB_pair {α β : Type} [Ty α] [Ty β] : Ty.dB (α × β) = Ty.dB α + Ty.dB β + 1 := (rfl)
theorem dB_t3 {α β γ : Type} [Ty α] [Ty β] [Ty γ] : Ty.dB (T3 α β γ) = Ty.dB α + (Ty.dB β + Ty.dB γ) + 1 := (rfl)
theorem dB_opt {α : Type} [Ty α] [NN α] : Ty.dB (Option α) = Ty.dB α := (rfl)
end TM

set_option Elab.async false
set_option maxRecDepth 100000
set_option maxHeartbeats 1000000
/-! TM2: answers, continuations, the structural steps. -/
namespace TM
open PySem TW
/-- a def's answer -/
inductive MR (α : Type) where
  | ok (a : α)
  | ex (e : Exn)
  | no
/-- a loop's turn -/
inductive TB (S M : Type) where
  | nx (s : S)
  | bk (s : S)
  | fin (m : M)
/-- a comprehension's turn -/
inductive TC (S γ M : Type) where
  | sk (s : S)
  | ad (v : γ) (s : S)
  | fin (m : M)
/-- what stands in the places of TB, TC in the model -/
inductive SB (C : Type) where
  | nx (ρ : PEnv)
  | bk (ρ : PEnv)
  | fin (c : C)
inductive SC (C : Type) where
  | sk (ρ : PEnv)
  | ad (d : PyData) (ρ : PEnv)
  | fin (c : C)
  | bad
/-- an answer's two sides -/
structure An where
  C : Type
  M : Type
  out : M → C
  no : C
  noM : M
  exM : Exn → M
  hno : no = out noM
abbrev Gm (A : An) (c : A.C) : Type := {m : A.M // c = A.out m}
def outC {α : Type} (f : α → CR) : MR α → CR
  | .ok a => f a
  | .ex e => .ex e []
  | .no => .no
abbrev AC {α : Type} (f : α → CR) : An where
  C := CR
  M := MR α
  out := outC f
  no := .no
  noM := .no
  exM := .ex
  hno := rfl
/-- of a def that raises nothing -/
def outO {α : Type} (f : α → CR) : Option α → CR
  | some a => f a
  | none => .no
abbrev AO {α : Type} (f : α → CR) : An where
  C := CR
  M := Option α
  out := outO f
  no := .no
  noM := none
  exM := fun _ => none
  hno := rfl
def outB (A : An) {S : Type} (emb : S → PEnv) : TB S A.M → SB A.C
  | .nx s => .nx (emb s)
  | .bk s => .bk (emb s)
  | .fin m => .fin (A.out m)
abbrev AB (A : An) {S : Type} (emb : S → PEnv) : An where
  C := SB A.C
  M := TB S A.M
  out := outB A emb
  no := .fin A.no
  noM := .fin A.noM
  exM := fun e => .fin (A.exM e)
  hno := by rw [A.hno]; rfl
def outS (A : An) {S γ : Type} [Ty γ] (emb : S → PEnv) : TC S γ A.M → SC A.C
  | .sk s => .sk (emb s)
  | .ad v s => .ad (inj v) (emb s)
  | .fin m => .fin (A.out m)
abbrev AS (A : An) {S : Type} (γ : Type) [Ty γ] (emb : S → PEnv) : An where
  C := SC A.C
  M := TC S γ A.M
  out := outS A emb
  no := .fin A.no
  noM := .fin A.noM
  exM := fun e => .fin (A.exM e)
  hno := by rw [A.hno]; rfl
/-! ### continuations -/
structure Kn (C : Type) where
  nx : PEnv → C
  ct : PEnv → C
  bk : PEnv → C
  rt : PyData → Bool → PEnv → C
  ex : Exn → PEnv → C
  no : C
def fin {C : Type} (K : Kn C) : SR → C
  | .nx ρ => K.nx ρ
  | .rt d f ρ => K.rt d f ρ
  | .bk ρ => K.bk ρ
  | .ct ρ => K.ct ρ
  | .ex e ρ => K.ex e ρ
  | .no => K.no
def finR {α C : Type} (no : C) (x : Exn → PEnv → C) (r : R α) (k : α → PEnv → C) : C := match r with
  | .ok a ρ => k a ρ
  | .ex e ρ => x e ρ
  | .no => no
def osG {β C : Type} (no : C) (o : Option β) (k : β → C) : C := match o with
  | some b => k b
  | none => no
def bindG {β C : Type} (no : C) (x : Exn → C) (m : MR β) (k : β → C) : C := match m with
  | .ok b => k b
  | .ex e => x e
  | .no => no
def endB {C : Type} (no : C) (o : Option (List Sl)) (k : List Sl → C) : C := match o with
  | some b => k b
  | none => no
/-- a def's end -/
def endK (args : List Sl) : Kn CR where
  nx := fun ρ => endB .no (backP args ρ) fun b => .ok .none false b
  ct := fun _ => .no
  bk := fun _ => .no
  rt := fun d f ρ => endB .no (backP args ρ) fun b => .ok d f b
  ex := fun e ρ => endB .no (backP args ρ) fun b => .ex e b
  no := .no
theorem end_fin (args : List Sl) (r : SR) : endI args r = fin (endK args) r := by
  cases r <;> first | rfl | (unfold endI fin endK endB; simp only; split <;> simp_all)
theorem run_fin {n l : Nat} {f : PEnv → SR} {args : List Sl} {cells : PEnv} (h : args.length = n) (hc : args.map some ++ List.replicate (l - args.length) none = cells) : runI n l f args = fin (endK args) (f cells) := by
  unfold runI
  rw [if_pos h, hc, end_fin]
/-- a turn -/
def turnK {C : Type} (K : Kn C) : Kn (SB C) where
  nx := .nx
  ct := .nx
  bk := .bk
  rt := fun d f ρ => .fin (K.rt d f ρ)
  ex := fun e ρ => .fin (K.ex e ρ)
  no := .fin K.no
/-- ahead of a joint -/
def joinK {C : Type} (K : Kn C) : Kn (SB C) where
  nx := .nx
  ct := fun ρ => .fin (K.ct ρ)
  bk := fun ρ => .fin (K.bk ρ)
  rt := fun d f ρ => .fin (K.rt d f ρ)
  ex := fun e ρ => .fin (K.ex e ρ)
  no := .fin K.no
/-! the rules of running, told with proofs (the kernel must not convert) -/
section
variable {ρ : PEnv}
theorem p_sq_nx {k : PEnv → SR} : sq (.nx ρ) k = k ρ := (rfl)
theorem p_sq_rt {d : PyData} {f : Bool} {k : PEnv → SR} : sq (.rt d f ρ) k = .rt d f ρ := (rfl)
theorem p_sq_bk {k : PEnv → SR} : sq (.bk ρ) k = .bk ρ := (rfl)
theorem p_sq_ct {k : PEnv → SR} : sq (.ct ρ) k = .ct ρ := (rfl)
theorem p_sq_no {k : PEnv → SR} : sq .no k = .no := (rfl)
theorem p_hd1_c {d : PyData} {ds : List PyData} {f : PyData → List PyData → Option PEnv} : hd1 (d :: ds) f = f d ds := (rfl)
theorem p_nl1_n : nl1 [] ρ = some ρ := (rfl)
theorem p_hdS_c {α : Type} {s : Sl} {ss : List Sl} {f : Sl → List Sl → Option α} : hdS (s :: ss) f = f s ss := (rfl)
theorem p_nlS_n : nlS [] ρ = some ρ := (rfl)
theorem p_b_ok {α β : Type} {a : α} {f : α → PEnv → R β} : (R.ok a ρ).bind f = f a ρ := (rfl)
theorem p_b_no {α β : Type} {f : α → PEnv → R β} : (R.no : R α).bind f = .no := (rfl)
theorem p_s_ok {α : Type} {a : α} {f : α → PEnv → SR} : (R.ok a ρ).toS f = f a ρ := (rfl)
theorem p_s_no {α : Type} {f : α → PEnv → SR} : (R.no : R α).toS f = .no := (rfl)
theorem p_o_some {α : Type} {a : α} : ofO (some a) ρ = .ok a ρ := (rfl)
theorem p_o_none {α : Type} : ofO (none : Option α) ρ = .no := (rfl)
theorem p_n_some : nxO (some ρ) = .nx ρ := (rfl)
theorem p_n_none : nxO none = .no := (rfl)
theorem p_os_some {α : Type} {a : α} {f : α → SR} : TW.os (some a) f = f a := (rfl)
theorem p_ob_some {α β : Type} {a : α} {f : α → R β} : ob (some a) f = f a := (rfl)
end
section
variable {C α β : Type} {K : Kn C} {no : C} {x : Exn → PEnv → C} {ρ : PEnv}
theorem fin_nx : fin K (.nx ρ) = K.nx ρ := (rfl)
theorem fin_rt {d : PyData} {f : Bool} : fin K (.rt d f ρ) = K.rt d f ρ := (rfl)
theorem fin_bk : fin K (.bk ρ) = K.bk ρ := (rfl)
theorem fin_ct : fin K (.ct ρ) = K.ct ρ := (rfl)
theorem fin_ex {e : Exn} : fin K (.ex e ρ) = K.ex e ρ := (rfl)
theorem fin_no : fin K .no = K.no := (rfl)
theorem fin_os {o : Option α} {k : α → SR} : fin K (TW.os o k) = osG K.no o fun a => fin K (k a) := by cases o <;> rfl
theorem fin_nxO {o : Option PEnv} : fin K (nxO o) = osG K.no o fun ρ => K.nx ρ := by cases o <;> rfl
theorem fin_toS {r : R α} {k : α → PEnv → SR} : fin K (r.toS k) = finR K.no K.ex r fun a ρ => fin K (k a ρ) := by cases r <;> rfl
theorem fin_ite {c : Prop} [Decidable c] {a b : SR} : fin K (if c then a else b) = if c then fin K a else fin K b := by split <;> rfl
theorem sq_ite {c : Prop} [Decidable c] {a b : SR} {k : PEnv → SR} : sq (if c then a else b) k = if c then sq a k else sq b k := by split <;> rfl
theorem finR_ok {a : α} {k : α → PEnv → C} : finR no x (.ok a ρ) k = k a ρ := (rfl)
theorem finR_no {k : α → PEnv → C} : finR no x .no k = no := (rfl)
theorem finR_bind {r : R α} {f : α → PEnv → R β} {k : β → PEnv → C} : finR no x (r.bind f) k = finR no x r fun a ρ => finR no x (f a ρ) k := by cases r <;> rfl
theorem finR_ob {o : Option α} {f : α → R β} {k : β → PEnv → C} : finR no x (ob o f) k = osG no o fun a => finR no x (f a) k := by cases o <;> rfl
theorem finR_ofO {o : Option α} {k : α → PEnv → C} : finR no x (ofO o ρ) k = osG no o fun a => k a ρ := by cases o <;> rfl
theorem finR_ite {c : Prop} [Decidable c] {a b : R α} {k : α → PEnv → C} : finR no x (if c then a else b) k = if c then finR no x a k else finR no x b k := by split <;> rfl
theorem finR_iteN {c : Prop} [Decidable c] {a : R α} {k : α → PEnv → C} : finR no x (if c then a else R.no) k = if c then finR no x a k else no := by split <;> rfl
theorem osG_some {a : α} {k : α → C} : osG no (some a) k = k a := (rfl)
theorem osG_none {k : α → C} : osG no none k = no := (rfl)
theorem osG_ite {c : Prop} [Decidable c] {a b : Option α} {k : α → C} : osG no (if c then a else b) k = if c then osG no a k else osG no b k := by split <;> rfl
theorem osG_map {o : Option α} {f : α → β} {k : β → C} : osG no (o.map f) k = osG no o fun a => k (f a) := by cases o <;> rfl
theorem osG_bind {o : Option α} {f : α → Option β} {k : β → C} : osG no (o.bind f) k = osG no o fun a => osG no (f a) k := by cases o <;> rfl
theorem K_end_no {args : List Sl} : (endK args).no = .no := (rfl)
theorem K_end_ct {args : List Sl} : (endK args).ct ρ = .no := (rfl)
theorem K_end_bk {args : List Sl} : (endK args).bk ρ = .no := (rfl)
theorem K_end_nx {args : List Sl} : (endK args).nx ρ = endB .no (backP args ρ) fun b => .ok .none false b := (rfl)
theorem K_end_rt {args : List Sl} {d : PyData} {f : Bool} : (endK args).rt d f ρ = endB .no (backP args ρ) fun b => .ok d f b := (rfl)
theorem K_end_ex {args : List Sl} {e : Exn} : (endK args).ex e ρ = endB .no (backP args ρ) fun b => .ex e b := (rfl)
theorem K_turn_no : (turnK K).no = .fin K.no := (rfl)
theorem K_turn_nx : (turnK K).nx ρ = .nx ρ := (rfl)
theorem K_turn_ct : (turnK K).ct ρ = .nx ρ := (rfl)
theorem K_turn_bk : (turnK K).bk ρ = .bk ρ := (rfl)
theorem K_turn_rt {d : PyData} {f : Bool} : (turnK K).rt d f ρ = .fin (K.rt d f ρ) := (rfl)
theorem K_turn_ex {e : Exn} : (turnK K).ex e ρ = .fin (K.ex e ρ) := (rfl)
theorem K_join_no : (joinK K).no = .fin K.no := (rfl)
theorem K_join_nx : (joinK K).nx ρ = .nx ρ := (rfl)
theorem K_join_ct : (joinK K).ct ρ = .fin (K.ct ρ) := (rfl)
theorem K_join_bk : (joinK K).bk ρ = .fin (K.bk ρ) := (rfl)
theorem K_join_rt {d : PyData} {f : Bool} : (joinK K).rt d f ρ = .fin (K.rt d f ρ) := (rfl)
theorem K_join_ex {e : Exn} : (joinK K).ex e ρ = .fin (K.ex e ρ) := (rfl)
theorem endB_some {C : Type} {no : C} {b : List Sl} {k : List Sl → C} : endB no (some b) k = k b := (rfl)
/-! a call's answer -/
theorem finR_cbk0 {g : α → PyData} {fr : Bool} {M : MR α} {k : VR → PEnv → R β} {kk : β → PEnv → C} : finR no x (cbk (outC (fun a => CR.ok (g a) fr []) M) [] ρ k) kk = bindG no (fun e => x e ρ) M fun a => finR no x (k (g a, fr) ρ) kk := by cases M <;> rfl
theorem finR_cbo0 {g : α → PyData} {fr : Bool} {M : Option α} {k : VR → PEnv → R β} {kk : β → PEnv → C} : finR no x (cbk (outO (fun a => CR.ok (g a) fr []) M) [] ρ k) kk = osG no M fun a => finR no x (k (g a, fr) ρ) kk := by cases M <;> rfl
theorem finR_cbo1o {g h : α → PyData} {fr : Bool} {i : Nat} {M : Option α} {k : VR → PEnv → R β} {kk : β → PEnv → C} : finR no x (cbk (outO (fun a => CR.ok (g a) fr [⟨.lent, h a⟩]) M) [(i, true)] ρ k) kk = osG no M fun a => finR no x (k (g a, fr) (ρ.set i (some ⟨.own, h a⟩))) kk := by cases M <;> rfl
theorem finR_cbo1l {g h : α → PyData} {fr : Bool} {i : Nat} {M : Option α} {k : VR → PEnv → R β} {kk : β → PEnv → C} : finR no x (cbk (outO (fun a => CR.ok (g a) fr [⟨.lent, h a⟩]) M) [(i, false)] ρ k) kk = osG no M fun a => finR no x (k (g a, fr) (ρ.set i (some ⟨.lent, h a⟩))) kk := by cases M <;> rfl
theorem finR_cbk1o {g h : α → PyData} {fr : Bool} {i : Nat} {M : MR α} {k : VR → PEnv → R β} {kk : β → PEnv → C} : finR no x (cbk (outC (fun a => CR.ok (g a) fr [⟨.lent, h a⟩]) M) [(i, true)] ρ k) kk = bindG no (fun _ => no) M fun a => finR no x (k (g a, fr) (ρ.set i (some ⟨.own, h a⟩))) kk := by cases M <;> rfl
theorem finR_cbk1l {g h : α → PyData} {fr : Bool} {i : Nat} {M : MR α} {k : VR → PEnv → R β} {kk : β → PEnv → C} : finR no x (cbk (outC (fun a => CR.ok (g a) fr [⟨.lent, h a⟩]) M) [(i, false)] ρ k) kk = bindG no (fun _ => no) M fun a => finR no x (k (g a, fr) (ρ.set i (some ⟨.lent, h a⟩))) kk := by cases M <;> rfl
end
/-! ### structural steps -/
def osM {β M : Type} (no : M) (o : Option β) (k : β → M) : M := match o with
  | some b => k b
  | none => no
def bindM {β M : Type} (no : M) (x : Exn → M) (m : MR β) (k : β → M) : M := match m with
  | .ok b => k b
  | .ex e => x e
  | .no => no
section
variable {A : An}
def x_of {a b : A.C} (h : a = b) (x : Gm A b) : Gm A a := ⟨x.1, h.trans x.2⟩
def x_no {c : A.C} (h : c = A.no) : Gm A c := ⟨A.noM, h.trans A.hno⟩
def x_ex {c : A.C} {e : Exn} (h : c = A.out (A.exM e)) : Gm A c := ⟨A.exM e, h⟩
def x_ite {c : Prop} [Decidable c] {a b : A.C} (t : Gm A a) (e : Gm A b) : Gm A (if c then a else b) := ⟨if c then t.1 else e.1, by
  split
  · exact t.2
  · exact e.2⟩
def x_os {β : Type} {n : A.C} {o : Option β} {k : β → A.C} (h : ∀ b, Gm A (k b)) (hn : n = A.no := by rfl) : Gm A (osG n o k) := ⟨osM A.noM o fun b => (h b).1, by
  cases o with
  | none => exact hn.trans A.hno
  | some b => exact (h b).2⟩
def x_bind {β : Type} {n : A.C} {x : Exn → A.C} {m : MR β} {k : β → A.C} (h : ∀ b, Gm A (k b)) (hn : n = A.no := by rfl) (hx : ∀ e, x e = A.out (A.exM e) := by intro e; rfl) : Gm A (bindG n x m k) := ⟨bindM A.noM A.exM m fun b => (h b).1, by
  cases m with
  | ok b => exact (h b).2
  | ex e => exact hx e
  | no => exact hn.trans A.hno⟩
/-- a call that may not raise -/
def x_bindN {β : Type} {n : A.C} {m : MR β} {k : β → A.C} (h : ∀ b, Gm A (k b)) (hn : n = A.no := by rfl) : Gm A (bindG n (fun _ => n) m k) := ⟨bindM A.noM (fun _ => A.noM) m fun b => (h b).1, by
  cases m with
  | ok b => exact (h b).2
  | ex e => exact hn.trans A.hno
  | no => exact hn.trans A.hno⟩
end
def optM {β M : Type} (o : Option β) (n : M) (k : β → M) : M := match o with
  | none => n
  | some b => k b
/-- an option that comes out of a call is split at once -/
def x_osO {A : An} {β : Type} {n : A.C} {o : Option (Option β)} {k : Option β → A.C} (h0 : Gm A (k none)) (h1 : ∀ b, Gm A (k (some b))) (hn : n = A.no := by rfl) : Gm A (osG n o k) := ⟨osM A.noM o fun b => optM b h0.1 fun b => (h1 b).1, by
  cases o with
  | none => exact hn.trans A.hno
  | some b => cases b with
    | none => exact h0.2
    | some b => exact (h1 b).2⟩
/-- an option among what a loop carries -/
def x_spl {A : An} {S β : Type} (get : S → Option β) (set : S → Option β → S) (hgs : ∀ s, set s (get s) = s) (s : S) {k : S → A.C} (h0 : Gm A (k (set s none))) (h1 : ∀ b, Gm A (k (set s (some b)))) : Gm A (k s) := ⟨optM (get s) h0.1 fun b => (h1 b).1, by
  have e := hgs s
  cases h : get s with
  | none =>
    rw [h] at e
    exact (congrArg k e.symm).trans h0.2
  | some b =>
    rw [h] at e
    exact (congrArg k e.symm).trans (h1 b).2⟩
def x_splD {A : An} {S β : Type} (get : S → Option β) (set : S → Option β → S) (hgs : ∀ s, set s (get s) = s) {k : S → A.C} (h0 : ∀ s, Gm A (k (set s none))) (h1 : ∀ s b, Gm A (k (set s (some b)))) (s : S) : Gm A (k s) := x_spl get set hgs s (h0 s) (h1 s)
def x_splB {A : An} {S β ξ : Type} (get : S → Option β) (set : S → Option β → S) (hgs : ∀ s, set s (get s) = s) {k : S → ξ → A.C} (h0 : ∀ s x, Gm A (k (set s none) x)) (h1 : ∀ s b x, Gm A (k (set s (some b)) x)) (s : S) (x : ξ) : Gm A (k s x) := x_spl get set hgs s (k := fun s => k s x) (h0 s x) (fun b => h1 s b x)
def x_noO {α : Type} {f : α → CR} : Gm (AO f) CR.no := ⟨none, rfl⟩
def x_retO {α : Type} {f : α → CR} {c : CR} (a : α) (h : c = f a) : Gm (AO f) c := ⟨some a, h⟩
def x_noC {α : Type} {f : α → CR} : Gm (AC f) CR.no := ⟨.no, rfl⟩
def x_ret {α : Type} {f : α → CR} {c : CR} (a : α) (h : c = f a := by rfl) : Gm (AC f) c := ⟨.ok a, h⟩
def x_nx {A : An} {S : Type} {emb : S → PEnv} {ρ : PEnv} (s : S) (h : ρ = emb s := by rfl) : Gm (AB A emb) (SB.nx ρ) := ⟨.nx s, congrArg SB.nx h⟩
def x_bk {A : An} {S : Type} {emb : S → PEnv} {ρ : PEnv} (s : S) (h : ρ = emb s := by rfl) : Gm (AB A emb) (SB.bk ρ) := ⟨.bk s, congrArg SB.bk h⟩
def x_fin {A : An} {S : Type} {emb : S → PEnv} {c : A.C} (x : Gm A c) : Gm (AB A emb) (SB.fin c) := ⟨.fin x.1, congrArg SB.fin x.2⟩
def x_sk {A : An} {S γ : Type} [Ty γ] {emb : S → PEnv} {ρ : PEnv} (s : S) (h : ρ = emb s := by rfl) : Gm (AS A γ emb) (SC.sk ρ) := ⟨.sk s, congrArg SC.sk h⟩
def x_ad {A : An} {S γ : Type} [Ty γ] {emb : S → PEnv} {ρ : PEnv} {d : PyData} (v : γ) (s : S) (hd : d = inj v := by rfl) (h : ρ = emb s := by rfl) : Gm (AS A γ emb) (SC.ad d ρ) := ⟨.ad v s, by rw [hd, h]; rfl⟩
def x_finS {A : An} {S γ : Type} [Ty γ] {emb : S → PEnv} {c : A.C} (x : Gm A c) : Gm (AS A γ emb) (SC.fin c) := ⟨.fin x.1, congrArg SC.fin x.2⟩
/-! loops -/
def loopV {S β M : Type} (body : S → β → TB S M) (done : S → M) : List β → S → M
  | [], s => done s
  | x :: xs, s => match body s x with
    | .nx s => loopV body done xs s
    | .bk s => done s
    | .fin m => m
theorem loopV_c {S β M : Type} {body : S → β → TB S M} {done : S → M} {x : β} {xs : List β} {s : S} : loopV body done (x :: xs) s = (match body s x with
    | .nx s => loopV body done xs s
    | .bk s => done s
    | .fin m => m) := rfl
theorem for_key {A : An} {S β : Type} [Ty β] {K : Kn A.C} {k : PEnv → SR} {g : PyData → PEnv → Option PEnv} {f : PEnv → SR} (e : S → PEnv)
    (body : S → β → TB S A.M) (done : S → A.M)
    (B : ∀ (s : S) (x : β), (osG (SB.fin K.no) (g (inj x) (e s)) fun ρ1 => fin (turnK K) (f ρ1)) = outB A e (body s x))
    (D : ∀ s, fin K (k (e s)) = A.out (done s)) : ∀ (xs : List β) (s : S), fin K (sq (forI g f (xs.map Ty.inj) (e s)) k) = A.out (loopV body done xs s) := by
    intro xs
    induction xs with
    | nil => exact fun s => D s
    | cons x xs ih =>
      intro s
      have hb := B s x
      rw [List.map_cons]
      unfold forI
      rw [loopV_c]
      generalize body s x = t at hb
      change (osG (SB.fin K.no) (g (Ty.inj x) (e s)) fun ρ1 => fin (turnK K) (f ρ1)) = _ at hb
      cases hg : g (Ty.inj x) (e s) with
      | none =>
        rw [hg] at hb
        cases t with
        | nx s => cases hb
        | bk s => cases hb
        | fin m => exact SB.fin.inj hb
      | some ρ1 =>
        rw [hg] at hb
        change fin (turnK K) (f ρ1) = _ at hb
        simp only
        cases hf : f ρ1 with
        | nx ρ2 =>
          rw [hf] at hb
          cases t with
          | nx s' =>
            have e1 : ρ2 = e s' := SB.nx.inj hb
            rw [e1]
            exact ih s'
          | bk s => cases hb
          | fin m => cases hb
        | ct ρ2 =>
          rw [hf] at hb
          cases t with
          | nx s' =>
            have e1 : ρ2 = e s' := SB.nx.inj hb
            rw [e1]
            exact ih s'
          | bk s => cases hb
          | fin m => cases hb
        | bk ρ2 =>
          rw [hf] at hb
          cases t with
          | nx s' => cases hb
          | bk s' =>
            have e1 : ρ2 = e s' := SB.bk.inj hb
            rw [e1]
            exact D s'
          | fin m => cases hb
        | _ =>
          rw [hf] at hb
          cases t with
          | nx s' => cases hb
          | bk s' => cases hb
          | fin m => exact SB.fin.inj hb
def x_for {A : An} {S β : Type} [Ty β] {K : Kn A.C} {k : PEnv → SR} {g : PyData → PEnv → Option PEnv} {f : PEnv → SR} {ρ0 : PEnv} {xs : List β}
    (p : Pos) (e : PEnv → S → PEnv) (s0 : S) (h0 : ρ0 = e ρ0 s0)
    (B : ∀ (s : S) (x : β), Gm (AB A (e ρ0)) (osG (SB.fin K.no) (g (inj x) (e ρ0 s)) fun ρ1 => fin (turnK K) (f ρ1)))
    (D : ∀ s, Gm A (fin K (k (e ρ0 s)))) : Gm A (fin K (sq (forQ p g f (xs.map Ty.inj) ρ0) k)) := ⟨loopV (fun s x => (B s x).1) (fun s => (D s).1) xs s0, by
  have key := for_key (e ρ0) (fun s x => (B s x).1) (fun s => (D s).1) (fun s x => (B s x).2) (fun s => (D s).2) xs s0
  rw [← h0] at key
  exact key⟩
def whileV {S M : Type} (no : M) (body : S → TB S M) (done : S → M) : Nat → S → M
  | 0, _ => no
  | n + 1, s => match body s with
    | .nx s => whileV no body done n s
    | .bk s => done s
    | .fin m => m
theorem whileV_c {S M : Type} {no : M} {body : S → TB S M} {done : S → M} {n : Nat} {s : S} : whileV no body done (n + 1) s = (match body s with
    | .nx s => whileV no body done n s
    | .bk s => done s
    | .fin m => m) := rfl
theorem while_key {A : An} {S : Type} {K : Kn A.C} {k : PEnv → SR} {c : PEnv → R Bool} {f : PEnv → SR} (e : S → PEnv)
    (body : S → TB S A.M) (done : S → A.M)
    (B : ∀ s, (finR (SB.fin K.no) (fun x ρ => SB.fin (K.ex x ρ)) (c (e s)) fun b ρ1 => if b = true then fin (turnK K) (f ρ1) else SB.bk ρ1) = outB A e (body s))
    (D : ∀ s, fin K (k (e s)) = A.out (done s)) (hn : K.no = A.no) : ∀ (W : Nat) (s : S), fin K (sq (whileI c f W (e s)) k) = A.out (whileV A.noM body done W s) := by
    intro W
    induction W with
    | zero => exact fun s => hn.trans A.hno
    | succ W ih =>
      intro s
      have hb := B s
      unfold whileI
      rw [whileV_c]
      generalize body s = t at hb
      cases hc : c (e s) with
      | no =>
        rw [hc] at hb
        cases t with
        | nx s => cases hb
        | bk s => cases hb
        | fin m => exact SB.fin.inj hb
      | ex x ρ1 =>
        rw [hc] at hb
        cases t with
        | nx s => cases hb
        | bk s => cases hb
        | fin m => exact SB.fin.inj hb
      | ok b ρ1 =>
        rw [hc] at hb
        change (if b = true then fin (turnK K) (f ρ1) else SB.bk ρ1) = _ at hb
        show fin K (sq (if b = true then _ else SR.nx ρ1) k) = _
        cases b with
        | false =>
          rw [if_neg Bool.false_ne_true] at hb ⊢
          cases t with
          | nx s' => cases hb
          | bk s' =>
            have e1 : ρ1 = e s' := SB.bk.inj hb
            rw [e1]
            exact D s'
          | fin m => cases hb
        | true =>
          rw [if_pos rfl] at hb ⊢
          cases hf : f ρ1 with
          | nx ρ2 =>
            rw [hf] at hb
            cases t with
            | nx s' =>
              have e1 : ρ2 = e s' := SB.nx.inj hb
              rw [e1]
              exact ih s'
            | bk s => cases hb
            | fin m => cases hb
          | ct ρ2 =>
            rw [hf] at hb
            cases t with
            | nx s' =>
              have e1 : ρ2 = e s' := SB.nx.inj hb
              rw [e1]
              exact ih s'
            | bk s => cases hb
            | fin m => cases hb
          | bk ρ2 =>
            rw [hf] at hb
            cases t with
            | nx s' => cases hb
            | bk s' =>
              have e1 : ρ2 = e s' := SB.bk.inj hb
              rw [e1]
              exact D s'
            | fin m => cases hb
          | _ =>
            rw [hf] at hb
            cases t with
            | nx s' => cases hb
            | bk s' => cases hb
            | fin m => exact SB.fin.inj hb
def x_while {A : An} {S : Type} {K : Kn A.C} {k : PEnv → SR} {c : PEnv → R Bool} {f : PEnv → SR} {ρ0 : PEnv} {W : Nat}
    (p : Pos) (e : PEnv → S → PEnv) (s0 : S) (h0 : ρ0 = e ρ0 s0)
    (B : ∀ s, Gm (AB A (e ρ0)) (finR (SB.fin K.no) (fun x ρ => SB.fin (K.ex x ρ)) (c (e ρ0 s)) fun b ρ1 => if b = true then fin (turnK K) (f ρ1) else SB.bk ρ1))
    (D : ∀ s, Gm A (fin K (k (e ρ0 s)))) (hn : K.no = A.no := by rfl) : Gm A (fin K (sq (whileQ p c f W ρ0) k)) := ⟨whileV A.noM (fun s => (B s).1) (fun s => (D s).1) W s0, by
  have key := while_key (e ρ0) (fun s => (B s).1) (fun s => (D s).1) (fun s => (B s).2) (fun s => (D s).2) hn W s0
  rw [← h0] at key
  exact key⟩
/-! comprehensions -/
def compV {S β γ M : Type} (no : M) (body : S → β → TC S γ M) (done : List γ → S → M) : List β → List γ → Nat → S → M
  | [], acc, _, s => done acc.reverse s
  | x :: xs, acc, n, s => match body s x with
    | .sk s => compV no body done xs acc n s
    | .ad v s => (match n with
      | 0 => no
      | n + 1 => compV no body done xs (v :: acc) n s)
    | .fin m => m
theorem compV_c {S β γ M : Type} {no : M} {body : S → β → TC S γ M} {done : List γ → S → M} {x : β} {xs : List β} {acc : List γ} {n : Nat} {s : S} : compV no body done (x :: xs) acc n s = (match body s x with
    | .sk s => compV no body done xs acc n s
    | .ad v s => (match n with
      | 0 => no
      | n + 1 => compV no body done xs (v :: acc) n s)
    | .fin m => m) := rfl
theorem comp_key {A : An} {S β γ : Type} [Ty β] [Ty γ] {no : A.C} {xc : Exn → PEnv → A.C} {k : List PyData → PEnv → A.C} {g : PyData → PEnv → Option PEnv} {c : PEnv → R Bool} {f : PEnv → R PyData} {vs : List Nat} (e : S → PEnv)
    (body : S → β → TC S γ A.M) (done : List γ → S → A.M)
    (B : ∀ (s : S) (x : β), (osG (SC.fin no) (g (inj x) (wipeP (e s) vs)) fun ρ1 => finR (SC.fin no) (fun x ρ => SC.fin (xc x ρ)) (c ρ1) fun b ρ2 => if b = true then finR (SC.fin no) (fun x ρ => SC.fin (xc x ρ)) (f ρ2) fun v ρ3 => SC.ad v (wipeP ρ3 vs) else SC.sk (wipeP ρ2 vs)) = outS A e (body s x))
    (D : ∀ (ds : List γ) s, k (ds.map Ty.inj) (e s) = A.out (done ds s)) (hn : no = A.no) : ∀ (xs : List β) (acc : List γ) (n : Nat) (s : S), n + acc.length = sizeLine → finR no xc (compI g c f vs (xs.map Ty.inj) (acc.reverse.map Ty.inj) (e s)) k = A.out (compV A.noM body done xs acc n s) := by
    intro xs
    induction xs with
    | nil => exact fun acc n s _ => D acc.reverse s
    | cons x xs ih =>
      intro acc n s hl
      have hb := B s x
      rw [List.map_cons]
      unfold compI
      rw [compV_c]
      generalize body s x = t at hb
      change (osG (SC.fin no) (g (Ty.inj x) (wipeP (e s) vs)) fun ρ1 => _) = _ at hb
      cases hg : g (Ty.inj x) (wipeP (e s) vs) with
      | none =>
        rw [hg] at hb
        cases t with
        | sk s => cases hb
        | ad v s => cases hb
        | fin m => exact SC.fin.inj hb
      | some ρ1 =>
        rw [hg] at hb
        change (finR (SC.fin no) (fun x ρ => SC.fin (xc x ρ)) (c ρ1) fun b ρ2 => _) = _ at hb
        simp only
        cases hc : c ρ1 with
        | no =>
          rw [hc] at hb
          cases t with
          | sk s => cases hb
          | ad v s => cases hb
          | fin m => exact SC.fin.inj hb
        | ex x ρ1 =>
          rw [hc] at hb
          cases t with
          | sk s => cases hb
          | ad v s => cases hb
          | fin m => exact SC.fin.inj hb
        | ok b ρ2 =>
          rw [hc] at hb
          change (if b = true then finR (SC.fin no) (fun x ρ => SC.fin (xc x ρ)) (f ρ2) fun v ρ3 => SC.ad v (wipeP ρ3 vs) else SC.sk (wipeP ρ2 vs)) = _ at hb
          rw [b_ok]
          cases b with
          | false =>
            rw [if_neg Bool.false_ne_true] at hb ⊢
            cases t with
            | sk s' =>
              have e1 : wipeP ρ2 vs = e s' := SC.sk.inj hb
              rw [e1]
              exact ih acc n s' hl
            | ad v s => cases hb
            | fin m => cases hb
          | true =>
            rw [if_pos rfl] at hb ⊢
            cases hf : f ρ2 with
            | no =>
              rw [hf] at hb
              cases t with
              | sk s => cases hb
              | ad v s => cases hb
              | fin m => exact SC.fin.inj hb
            | ex x ρ1 =>
              rw [hf] at hb
              cases t with
              | sk s => cases hb
              | ad v s => cases hb
              | fin m => exact SC.fin.inj hb
            | ok v ρ3 =>
              rw [hf] at hb
              rw [b_ok]
              cases t with
              | sk s => cases hb
              | fin m => cases hb
              | ad v' s' =>
                obtain ⟨e1, e2⟩ := SC.ad.inj hb
                rw [e1, e2]
                have hlen : (acc.reverse.map Ty.inj).length = acc.length := by rw [List.length_map, List.length_reverse]
                rw [hlen]
                cases n with
                | zero =>
                  rw [if_neg (by omega)]
                  exact hn.trans A.hno
                | succ n =>
                  rw [if_pos (by omega)]
                  have := ih (v' :: acc) n s' (by rw [List.length_cons]; omega)
                  rw [List.reverse_cons, List.map_append] at this
                  exact this
def x_comp {A : An} {S β γ : Type} [Ty β] [Ty γ] {no : A.C} {xc : Exn → PEnv → A.C} {k : List PyData → PEnv → A.C} {g : PyData → PEnv → Option PEnv} {c : PEnv → R Bool} {f : PEnv → R PyData} {vs : List Nat} {ρ0 : PEnv} {xs : List β}
    (p : Pos) (e : PEnv → S → PEnv) (s0 : S) (h0 : ρ0 = e ρ0 s0)
    (B : ∀ (s : S) (x : β), Gm (AS A γ (e ρ0)) (osG (SC.fin no) (g (inj x) (wipeP (e ρ0 s) vs)) fun ρ1 => finR (SC.fin no) (fun x ρ => SC.fin (xc x ρ)) (c ρ1) fun b ρ2 => if b = true then finR (SC.fin no) (fun x ρ => SC.fin (xc x ρ)) (f ρ2) fun v ρ3 => SC.ad v (wipeP ρ3 vs) else SC.sk (wipeP ρ2 vs)))
    (D : ∀ (ds : List γ) s, Gm A (k (ds.map Ty.inj) (e ρ0 s))) (hn : no = A.no := by rfl) : Gm A (finR no xc (compQ p g c f vs (xs.map Ty.inj) [] ρ0) k) := ⟨compV A.noM (fun s x => (B s x).1) (fun ds s => (D ds s).1) xs [] sizeLine s0, by
  have key := comp_key (e ρ0) (fun s x => (B s x).1) (fun ds s => (D ds s).1) (fun s x => (B s x).2) (fun ds s => (D ds s).2) hn xs [] sizeLine s0 (Nat.add_zero sizeLine)
  rw [← h0] at key
  exact key⟩
/-! a joint -/
def joinT {S M : Type} (t : TB S M) (rest : S → M) : M := match t with
  | .nx s => rest s
  | .bk s => rest s
  | .fin m => m
theorem join_key {A : An} {S : Type} {K : Kn A.C} {k : PEnv → SR} {r : SR} (e : S → PEnv)
    (H : Gm (AB A e) (fin (joinK K) r)) (D : ∀ s, Gm A (fin K (k (e s)))) : fin K (sq r k) = A.out (joinT H.1 fun s => (D s).1) := by
  obtain ⟨t, hb⟩ := H
  show _ = A.out (joinT t fun s => (D s).1)
  cases hr : r with
  | nx ρ2 =>
    rw [hr] at hb
    cases t with
    | nx s' =>
      have e1 : ρ2 = e s' := SB.nx.inj hb
      rw [e1]
      exact (D s').2
    | bk s => cases hb
    | fin m => cases hb
  | _ =>
    rw [hr] at hb
    cases t with
    | nx s' => cases hb
    | bk s' => cases hb
    | fin m => exact SB.fin.inj hb
/-- a joint behind an if: b the test, t, u the branches -/
def x_join {A : An} {S : Type} {K : Kn A.C} {k : PEnv → SR} {b : Bool} {t u : SR} {ρ0 : PEnv} (p : Pos) (e : PEnv → S → PEnv)
    (T : Gm (AB A (e ρ0)) (fin (joinK K) t)) (U : Gm (AB A (e ρ0)) (fin (joinK K) u)) (D : ∀ s, Gm A (fin K (k (e ρ0 s)))) : Gm A (fin K (sq (ifQ p ρ0 b t u) k)) := ⟨joinT (if b = true then T.1 else U.1) fun s => (D s).1, by
  cases b with
  | true => exact join_key (e ρ0) T D
  | false => exact join_key (e ρ0) U D⟩
def joinS {S γ M : Type} (no : M) (t : TC S γ M) (rest : γ → S → M) : M := match t with
  | .ad v s => rest v s
  | .sk s => no
  | .fin m => m
theorem joinS_key {A : An} {S γ : Type} [Ty γ] {no : A.C} {x : Exn → PEnv → A.C} {r : R VR} {k : VR → PEnv → A.C} {fr : Bool} {e : S → PEnv} {m : TC S γ A.M} {d : γ → S → A.M}
    (H : (finR (SC.fin no) (fun x' ρ => SC.fin (x x' ρ)) r fun v ρ' => if v.2 = fr then SC.ad v.1 ρ' else SC.bad) = outS A e m) (D : ∀ (v : γ) s, k (inj v, fr) (e s) = A.out (d v s)) : finR no x r k = A.out (joinS A.noM m d) := by
  cases hr : r with
  | ok v ρ2 =>
    rw [hr] at H
    change (if v.2 = fr then SC.ad v.1 ρ2 else SC.bad) = _ at H
    obtain ⟨d', f2⟩ := v
    by_cases h : f2 = fr
    · rw [if_pos h] at H
      cases m with
      | ad v' s' =>
        obtain ⟨e1, e2⟩ := SC.ad.inj H
        show k (d', f2) ρ2 = _
        simp only at e1
        rw [e1, e2, h]
        exact D v' s'
      | sk s => cases H
      | fin m => cases H
    · rw [if_neg h] at H
      cases m with
      | ad v' s' => cases H
      | sk s => cases H
      | fin m => cases H
  | ex a ρ2 =>
    rw [hr] at H
    cases m with
    | ad v' s' => cases H
    | sk s => cases H
    | fin m => exact SC.fin.inj H
  | no =>
    rw [hr] at H
    cases m with
    | ad v' s' => cases H
    | sk s => cases H
    | fin m => exact SC.fin.inj H
/-- a joint behind an if in an expression -/
def x_ieJ {A : An} {S : Type} {no : A.C} {x : Exn → PEnv → A.C} {k : VR → PEnv → A.C} {b : Bool} {t u : R VR} {ρ0 : PEnv} (p : Pos) (γ : Type) [Ty γ] (fr : Bool) (e : PEnv → S → PEnv)
    (T : Gm (AS A γ (e ρ0)) (finR (SC.fin no) (fun x' ρ => SC.fin (x x' ρ)) t fun v ρ' => if v.2 = fr then SC.ad v.1 ρ' else SC.bad))
    (U : Gm (AS A γ (e ρ0)) (finR (SC.fin no) (fun x' ρ => SC.fin (x x' ρ)) u fun v ρ' => if v.2 = fr then SC.ad v.1 ρ' else SC.bad))
    (D : ∀ (v : γ) (s : S), Gm A (k (inj v, fr) (e ρ0 s))) : Gm A (finR no x (ieQ p ρ0 b t u) k) := ⟨joinS A.noM (if b = true then T.1 else U.1) fun v s => (D v s).1, by
  cases b with
  | true => exact joinS_key T.2 fun v s => (D v s).2
  | false => exact joinS_key U.2 fun v s => (D v s).2⟩
/-- an option that comes out of a joint -/
def x_optV {A : An} {S β : Type} {k : Option β → S → A.C} (h0 : ∀ s, Gm A (k none s)) (h1 : ∀ b s, Gm A (k (some b) s)) (v : Option β) (s : S) : Gm A (k v s) := ⟨optM v (h0 s).1 fun b => (h1 b s).1, by
  cases v with
  | none => exact (h0 s).2
  | some b => exact (h1 b s).2⟩
def joinC {S γ M : Type} (no : M) (t : TC S γ M) (rest : γ → M) : M := match t with
  | .ad v s => rest v
  | .sk s => no
  | .fin m => m
theorem joinC_key {A : An} {γ : Type} [Ty γ] {no : A.C} {x : Exn → PEnv → A.C} {r : R VR} {k : VR → PEnv → A.C} {fr : Bool} {ρ : PEnv} {m : TC Unit γ A.M} {d : γ → A.M}
    (H : (finR (SC.fin no) (fun x' ρ => SC.fin (x x' ρ)) r fun v ρ' => if v.2 = fr then SC.ad v.1 ρ' else SC.bad) = outS A (fun _ => ρ) m) (D : ∀ v : γ, k (inj v, fr) ρ = A.out (d v)) : finR no x r k = A.out (joinC A.noM m d) := by
  cases hr : r with
  | ok v ρ2 =>
    rw [hr] at H
    change (if v.2 = fr then SC.ad v.1 ρ2 else SC.bad) = _ at H
    obtain ⟨d, f2⟩ := v
    by_cases h : f2 = fr
    · rw [if_pos h] at H
      cases m with
      | ad v' s' =>
        obtain ⟨e1, e2⟩ := SC.ad.inj H
        show k (d, f2) ρ2 = _
        simp only at e1
        rw [e1, e2, h]
        exact D v'
      | sk s => cases H
      | fin m => cases H
    · rw [if_neg h] at H
      cases m with
      | ad v' s' => cases H
      | sk s => cases H
      | fin m => cases H
  | ex a ρ2 =>
    rw [hr] at H
    cases m with
    | ad v' s' => cases H
    | sk s => cases H
    | fin m => exact SC.fin.inj H
  | no =>
    rw [hr] at H
    cases m with
    | ad v' s' => cases H
    | sk s => cases H
    | fin m => exact SC.fin.inj H
theorem joinB_key {A : An} {no : A.C} {x : Exn → PEnv → A.C} {r : R Bool} {k : Bool → PEnv → A.C} {ρ : PEnv} {m : TC Unit Bool A.M} {d : Bool → A.M}
    (H : (finR (SC.fin no) (fun x' ρ => SC.fin (x x' ρ)) r fun v ρ' => SC.ad (inj v) ρ') = outS A (fun _ => ρ) m) (D : ∀ v : Bool, k v ρ = A.out (d v)) : finR no x r k = A.out (joinC A.noM m d) := by
  cases hr : r with
  | ok v ρ2 =>
    rw [hr] at H
    cases m with
    | ad v' s' =>
      obtain ⟨e1, e2⟩ := SC.ad.inj H
      show k v ρ2 = _
      have e3 : v = v' := PyData.bool.inj e1
      rw [e3, e2]
      exact D v'
    | sk s => cases H
    | fin m => cases H
  | ex a ρ2 =>
    rw [hr] at H
    cases m with
    | ad v' s' => cases H
    | sk s => cases H
    | fin m => exact SC.fin.inj H
  | no =>
    rw [hr] at H
    cases m with
    | ad v' s' => cases H
    | sk s => cases H
    | fin m => exact SC.fin.inj H
section
variable {A : An} {no : A.C} {x : Exn → PEnv → A.C} {ρ : PEnv} {b : Bool}
/-- and, or in a test, the second part with calls -/
def x_and {c : Prop} [Decidable c] {r : R Bool} {k : Bool → PEnv → A.C} (H : Gm (AS A Bool (fun _ : Unit => ρ)) (finR (SC.fin no) (fun x' ρ => SC.fin (x x' ρ)) r fun v ρ' => SC.ad (inj v) ρ')) (D : ∀ v : Bool, Gm A (k v ρ)) : Gm A (finR no x (if c then r else R.ok false ρ) k) :=
  ⟨joinC A.noM (if c then H.1 else .ad false ()) fun v => (D v).1, joinB_key (ρ := ρ) (by
    split
    · exact H.2
    · rfl) fun v => (D v).2⟩
def x_or {c : Prop} [Decidable c] {r : R Bool} {k : Bool → PEnv → A.C} (H : Gm (AS A Bool (fun _ : Unit => ρ)) (finR (SC.fin no) (fun x' ρ => SC.fin (x x' ρ)) r fun v ρ' => SC.ad (inj v) ρ')) (D : ∀ v : Bool, Gm A (k v ρ)) : Gm A (finR no x (if c then R.ok true ρ else r) k) :=
  ⟨joinC A.noM (if c then .ad true () else H.1) fun v => (D v).1, joinB_key (ρ := ρ) (by
    split
    · rfl
    · exact H.2) fun v => (D v).2⟩
def x_andV {c : Prop} [Decidable c] {r : R VR} {k : VR → PEnv → A.C} (H : Gm (AS A Bool (fun _ : Unit => ρ)) (finR (SC.fin no) (fun x' ρ => SC.fin (x x' ρ)) r fun v ρ' => if v.2 = false then SC.ad v.1 ρ' else SC.bad)) (D : ∀ v : Bool, Gm A (k (inj v, false) ρ)) : Gm A (finR no x (if c then r else R.ok (inj false, false) ρ) k) :=
  ⟨joinC A.noM (if c then H.1 else .ad false ()) fun v => (D v).1, joinC_key (ρ := ρ) (fr := false) (by
    split
    · exact H.2
    · rfl) fun v => (D v).2⟩
def x_orV {c : Prop} [Decidable c] {r : R VR} {k : VR → PEnv → A.C} (H : Gm (AS A Bool (fun _ : Unit => ρ)) (finR (SC.fin no) (fun x' ρ => SC.fin (x x' ρ)) r fun v ρ' => if v.2 = false then SC.ad v.1 ρ' else SC.bad)) (D : ∀ v : Bool, Gm A (k (inj v, false) ρ)) : Gm A (finR no x (if c then R.ok (inj true, false) ρ else r) k) :=
  ⟨joinC A.noM (if c then .ad true () else H.1) fun v => (D v).1, joinC_key (ρ := ρ) (fr := false) (by
    split
    · rfl
    · exact H.2) fun v => (D v).2⟩
/-- by doubling what follows -/
def x_sqif {K : Kn A.C} {k : PEnv → SR} {t u : SR} {ρ0 : PEnv} (p : Pos) (T : Gm A (fin K (sq t k))) (U : Gm A (fin K (sq u k))) : Gm A (fin K (sq (ifQ p ρ0 b t u) k)) := ⟨if b = true then T.1 else U.1, by
  cases b with
  | true => exact T.2
  | false => exact U.2⟩
def x_rite {α : Type} {c : Prop} [Decidable c] {t u : R α} {k : α → PEnv → A.C} (T : Gm A (finR no x t k)) (U : Gm A (finR no x u k)) : Gm A (finR no x (if c then t else u) k) := ⟨if c then T.1 else U.1, by
  split
  · exact T.2
  · exact U.2⟩
def x_ieq {α : Type} {ρ0 : PEnv} (p : Pos) {t u : R α} {k : α → PEnv → A.C} (T : Gm A (finR no x t k)) (U : Gm A (finR no x u k)) : Gm A (finR no x (ieQ p ρ0 b t u) k) := ⟨if b = true then T.1 else U.1, by
  cases b with
  | true => exact T.2
  | false => exact U.2⟩
end
/-! the form of a goal -/
section
variable {A : An}
def g_for {K : Kn A.C} (p : Pos) {g : PyData → PEnv → Option PEnv} {f : PEnv → SR} {xs : List PyData} {ρ : PEnv} {k : PEnv → SR} (x : Gm A (fin K (sq (forQ p g f xs ρ) k))) : Gm A (fin K (sq (forQ p g f xs ρ) k)) := x
def g_while {K : Kn A.C} (p : Pos) {c : PEnv → R Bool} {f : PEnv → SR} {W : Nat} {ρ : PEnv} {k : PEnv → SR} (x : Gm A (fin K (sq (whileQ p c f W ρ) k))) : Gm A (fin K (sq (whileQ p c f W ρ) k)) := x
def g_comp {no : A.C} {xc : Exn → PEnv → A.C} {k : List PyData → PEnv → A.C} (p : Pos) {g : PyData → PEnv → Option PEnv} {c : PEnv → R Bool} {f : PEnv → R PyData} {vs : List Nat} {xs acc : List PyData} {ρ : PEnv} (x : Gm A (finR no xc (compQ p g c f vs xs acc ρ) k)) : Gm A (finR no xc (compQ p g c f vs xs acc ρ) k) := x
def g_nx {S : Type} {emb : S → PEnv} {ρ : PEnv} (x : Gm (AB A emb) (SB.nx ρ)) : Gm (AB A emb) (SB.nx ρ) := x
def g_bk {S : Type} {emb : S → PEnv} {ρ : PEnv} (x : Gm (AB A emb) (SB.bk ρ)) : Gm (AB A emb) (SB.bk ρ) := x
def g_ret {α : Type} {f : α → CR} {d : PyData} {fr : Bool} {back : List Sl} (x : Gm (AC f) (CR.ok d fr back)) : Gm (AC f) (CR.ok d fr back) := x
def g_retO {α : Type} {f : α → CR} {d : PyData} {fr : Bool} {back : List Sl} (x : Gm (AO f) (CR.ok d fr back)) : Gm (AO f) (CR.ok d fr back) := x
def g_sk {S γ : Type} [Ty γ] {emb : S → PEnv} {ρ : PEnv} (x : Gm (AS A γ emb) (SC.sk ρ)) : Gm (AS A γ emb) (SC.sk ρ) := x
def g_ad {S γ : Type} [Ty γ] {emb : S → PEnv} {d : PyData} {ρ : PEnv} (x : Gm (AS A γ emb) (SC.ad d ρ)) : Gm (AS A γ emb) (SC.ad d ρ) := x
end
theorem fin_for {C : Type} {K : Kn C} {p : Pos} {g : PyData → PEnv → Option PEnv} {f : PEnv → SR} {xs : List PyData} {ρ : PEnv} : fin K (forQ p g f xs ρ) = fin K (sq (forQ p g f xs ρ) fun ρ => .nx ρ) := by
  unfold forQ
  cases forI g f xs ρ <;> rfl
theorem fin_while {C : Type} {K : Kn C} {p : Pos} {c : PEnv → R Bool} {f : PEnv → SR} {W : Nat} {ρ : PEnv} : fin K (whileQ p c f W ρ) = fin K (sq (whileQ p c f W ρ) fun ρ => .nx ρ) := by
  unfold whileQ
  cases whileI c f W ρ <;> rfl
theorem ifQ_t {p : Pos} {ρ0 : PEnv} {t u : SR} : ifQ p ρ0 true t u = t := (rfl)
theorem ifQ_f {p : Pos} {ρ0 : PEnv} {t u : SR} : ifQ p ρ0 false t u = u := (rfl)
theorem ieQ_t {α : Type} {p : Pos} {ρ0 : PEnv} {t u : R α} : ieQ p ρ0 true t u = t := (rfl)
theorem ieQ_f {α : Type} {p : Pos} {ρ0 : PEnv} {t u : R α} : ieQ p ρ0 false t u = u := (rfl)
theorem fin_ifQ {C : Type} {K : Kn C} {p : Pos} {ρ0 : PEnv} {b : Bool} {t u : SR} : fin K (ifQ p ρ0 b t u) = if b = true then fin K t else fin K u := by cases b <;> rfl
theorem ie_pure {α : Type} [Ty α] {p : Pos} {ρ0 : PEnv} {b f : Bool} {u v : α} {ρ : PEnv} : ieQ p ρ0 b (R.ok (inj u, f) ρ) (R.ok (inj v, f) ρ) = R.ok (inj (if b = true then u else v), f) ρ := by cases b <;> rfl
end TM

set_option Elab.async false
set_option maxRecDepth 100000
set_option maxHeartbeats 1000000
/-! TM3: the primitives on typed values. -/
namespace TM
open PySem TW
theorem sz0 : (0 ≤ sizeLine) = True := eq_true (by decide)
theorem sz1 : (1 ≤ sizeLine) = True := eq_true (by decide)
theorem sz2 : (2 ≤ sizeLine) = True := eq_true (by decide)
theorem sz3 : (3 ≤ sizeLine) = True := eq_true (by decide)
theorem sz4 : (4 ≤ sizeLine) = True := eq_true (by decide)
theorem sz5 : (5 ≤ sizeLine) = True := eq_true (by decide)
theorem sz6 : (6 ≤ sizeLine) = True := eq_true (by decide)
theorem sz7 : (7 ≤ sizeLine) = True := eq_true (by decide)
theorem sz8 : (8 ≤ sizeLine) = True := eq_true (by decide)
theorem sz9 : (9 ≤ sizeLine) = True := eq_true (by decide)
theorem sz10 : (10 ≤ sizeLine) = True := eq_true (by decide)
theorem sz11 : (11 ≤ sizeLine) = True := eq_true (by decide)
theorem sz12 : (12 ≤ sizeLine) = True := eq_true (by decide)
/-- a size that is let; told so that the kernel does not count to it -/
def szOk (n : Nat) : Bool := Nat.blt (Nat.log2 (n - 1)) 24
theorem szOk_eq (n : Nat) : (szOk n = true) = (n ≤ sizeLine) := by
  unfold szOk sizeLine
  apply propext
  have e : (Nat.blt (Nat.log2 (n - 1)) 24 = true) ↔ Nat.log2 (n - 1) < 24 := by
    unfold Nat.blt
    rw [Nat.ble_eq]
    exact Iff.rfl
  rw [e]
  by_cases h : n - 1 = 0
  · rw [h]
    constructor
    · intro _
      have : 1 ≤ 2 ^ 24 := by decide
      omega
    · intro _
      decide
  · rw [Nat.log2_lt h]
    omega
theorem sz_if {α : Type} {n : Nat} {a b : α} : (if n ≤ sizeLine then a else b) = if szOk n = true then a else b := by
  by_cases h : szOk n = true
  · rw [if_pos h, if_pos ((szOk_eq n) ▸ h)]
  · rw [if_neg h, if_neg (fun e => h ((szOk_eq n).symm ▸ e))]
theorem sz_if1 {α : Type} {n : Nat} {a b : α} : (if n < sizeLine then a else b) = if szOk (n + 1) = true then a else b := by
  rw [← sz_if]
  rfl
/-! ### cells that nobody reads -/
inductive Jk where
  | n
  | f (d : PyData)
  | o (d : PyData)
def Jk.s : Jk → Option Sl
  | .n => none
  | .f d => some ⟨.fz, d⟩
  | .o d => some ⟨.own, d⟩
section
variable {j : Jk} {d : PyData} {ρ : PEnv} {β : Type}
theorem j_put : putSl 0 ⟨.fz, d⟩ (Jk.s j :: ρ) = some (Jk.s (.f d) :: ρ) := by cases j <;> rfl
theorem j_putO : putSl 0 ⟨.own, d⟩ (Jk.s j :: ρ) = some (Jk.s (.o d) :: ρ) := by cases j <;> rfl
theorem j_pk : pkSl 0 (Jk.s (.f d) :: ρ) = some d := (rfl)
theorem j_pkO : pkSl 0 (Jk.s (.o d) :: ρ) = some d := (rfl)
theorem j_rd : rdSl 0 (Jk.s (.f d) :: ρ) = .ok (d, false) (Jk.s (.f d) :: ρ) := (rfl)
theorem j_mt : mtSl 0 (Jk.s (.f d) :: ρ) = none := (rfl)
theorem j_mtO : mtSl 0 (Jk.s (.o d) :: ρ) = some (0, .own, d) := (rfl)
theorem j_sh {k : Sl → List (Nat × Bool) → PEnv → R β} : show_ 0 (Jk.s (.f d) :: ρ) k = k ⟨.fz, d⟩ [] (Jk.s (.f d) :: ρ) := (rfl)
theorem j_le {k : Sl → List (Nat × Bool) → PEnv → R β} : lend 0 (Jk.s (.f d) :: ρ) k = k ⟨.fz, d⟩ [] (Jk.s (.f d) :: ρ) := (rfl)
theorem j_leO {k : Sl → List (Nat × Bool) → PEnv → R β} : lend 0 (Jk.s (.o d) :: ρ) k = k ⟨.lent, d⟩ [(0, true)] (none :: ρ) := (rfl)
theorem j_n : Jk.s .n = none := (rfl)
end
section
variable {α : Type} [Ty α] {a b : α} {l : List α} {ρ : PEnv} {β : Type}
theorem o_rd : rdSl 0 (some ⟨.own, inj l⟩ :: ρ) = .ok (inj l, false) (some ⟨.fz, inj l⟩ :: ρ) := (rfl)
theorem o_sh {k : Sl → List (Nat × Bool) → PEnv → R β} : show_ 0 (some ⟨.own, inj l⟩ :: ρ) k = k ⟨.fz, inj l⟩ [] (some ⟨.fz, inj l⟩ :: ρ) := (rfl)
theorem j_rdO : rdSl 0 (Jk.s (.o (inj l)) :: ρ) = .ok (inj l, false) (Jk.s (.f (inj l)) :: ρ) := (rfl)
theorem j_shO {k : Sl → List (Nat × Bool) → PEnv → R β} : show_ 0 (Jk.s (.o (inj l)) :: ρ) k = k ⟨.fz, inj l⟩ [] (Jk.s (.f (inj l)) :: ρ) := (rfl)
/-! ### folding -/
theorem f_int {i : Int} : PyData.int i = inj i := (rfl)
theorem f_bool {i : Bool} : PyData.bool i = inj i := (rfl)
theorem f_str {i : List Nat} : PyData.str ⟨i.toArray⟩ = inj i := (rfl)
theorem f_list : PyData.list (l.map Ty.inj) = inj l := (rfl)
theorem f_tuple : PyData.tuple (l.map Ty.inj) = inj (Tp.mk l) := (rfl)
theorem f_l1 : PyData.list [inj a] = inj [a] := (rfl)
theorem f_l2 : PyData.list [inj a, inj b] = inj [a, b] := (rfl)
theorem f_l3 {c : α} : PyData.list [inj a, inj b, inj c] = inj [a, b, c] := (rfl)
theorem f_l4 {c d : α} : PyData.list [inj a, inj b, inj c, inj d] = inj [a, b, c, d] := (rfl)
theorem f_l5 {c d e : α} : PyData.list [inj a, inj b, inj c, inj d, inj e] = inj [a, b, c, d, e] := (rfl)
theorem f_l6 {c d e f : α} : PyData.list [inj a, inj b, inj c, inj d, inj e, inj f] = inj [a, b, c, d, e, f] := (rfl)
theorem f_t2 {γ : Type} [Ty γ] {c : γ} : PyData.tuple [inj a, inj c] = inj (a, c) := (rfl)
theorem f_t3 {γ δ : Type} [Ty γ] [Ty δ] {c : γ} {d : δ} : PyData.tuple [inj a, inj c, inj d] = inj (T3.mk a c d) := (rfl)
/-! ### keeping -/
theorem k_kp : kp1 (inj a) ρ = .ok (inj a) ρ := by
  have h := Ty.dc a
  show kp1 (Ty.inj a) ρ = .ok (Ty.inj a) ρ
  generalize Ty.inj a = d at h
  cases d <;> first | rfl | cases h
theorem k_kpn : kp1 (.list []) ρ = .ok (.list []) ρ := (rfl)
theorem k_gv {m : Bool} {k : Sl → PEnv → R β} : given (inj a) false m ρ k = k ⟨.fz, inj a⟩ ρ := by
  unfold given
  have h := Ty.dc a
  simp [inj, h]
theorem k_gv2 {k : Sl → PEnv → R β} : given (inj a) true false ρ k = k ⟨.fz, inj a⟩ ρ := by
  unfold given
  have h := Ty.dc a
  simp [inj, h]
theorem k_ct {m : Bool} : TW.ctB m (inj a) false = some ⟨.fz, inj a⟩ := by
  unfold TW.ctB
  have h := Ty.dc a
  simp [inj, h]
theorem k_ct2 : TW.ctB false (inj a) true = some ⟨.fz, inj a⟩ := by
  unfold TW.ctB
  have h := Ty.dc a
  simp [inj, h]
end
section
variable {β : Type} {ρ : PEnv} {m : Bool} {k : Sl → PEnv → R β}
theorem k_ctn : TW.ctB m .none false = some ⟨.fz, .none⟩ := by cases m <;> rfl
theorem k_kpnn : kp1 .none ρ = .ok .none ρ := (rfl)
theorem k_gvn : given .none false m ρ k = k ⟨.fz, .none⟩ ρ := by cases m <;> rfl
theorem k_ctl0 : TW.ctB false (.list []) true = some ⟨.fz, .list []⟩ := (rfl)
theorem k_ctt0 : TW.ctB m (.tuple []) false = some ⟨.fz, .tuple []⟩ := by cases m <;> rfl
theorem k_kpt0 : kp1 (.tuple []) ρ = .ok (.tuple []) ρ := (rfl)
end
theorem k_ct1 {d : PyData} : TW.ctB true d true = some ⟨.own, d⟩ := (rfl)
theorem k_gv1 {β : Type} {ρ : PEnv} {d : PyData} {k : Sl → PEnv → R β} : given d true true ρ k = k ⟨.own, d⟩ ρ := (rfl)
/-! ### which kind -/
section
variable {α β γ : Type} [Ty α] [Ty β] [Ty γ] {i : Int} {b : Bool} {s : List Nat} {l : List α} {t : Tp α} {p : α × β} {q : T3 α β γ}
theorem c_int : isCt (inj i) = false := (rfl)
theorem c_bool : isCt (inj b) = false := (rfl)
theorem c_str : isCt (inj s) = false := (rfl)
theorem c_list : isCt (inj l) = true := (rfl)
theorem c_tp : isCt (inj t) = false := (rfl)
theorem c_pair : isCt (inj p) = false := (rfl)
theorem c_t3 : isCt (inj q) = false := (rfl)
theorem ii_int : iInt (inj i) = true := (rfl)
theorem ii_bool : iInt (inj b) = true := (rfl)
theorem ii_str : iInt (inj s) = false := (rfl)
theorem ii_list : iInt (inj l) = false := (rfl)
theorem ii_tp : iInt (inj t) = false := (rfl)
theorem ii_pair : iInt (inj p) = false := (rfl)
theorem ii_t3 : iInt (inj q) = false := (rfl)
theorem ib_int : iBool (inj i) = false := (rfl)
theorem ib_bool : iBool (inj b) = true := (rfl)
theorem ib_str : iBool (inj s) = false := (rfl)
theorem ib_list : iBool (inj l) = false := (rfl)
theorem ib_tp : iBool (inj t) = false := (rfl)
theorem ib_pair : iBool (inj p) = false := (rfl)
theorem ib_t3 : iBool (inj q) = false := (rfl)
theorem it_int : iTuple (inj i) = false := (rfl)
theorem it_bool : iTuple (inj b) = false := (rfl)
theorem it_str : iTuple (inj s) = false := (rfl)
theorem it_list : iTuple (inj l) = false := (rfl)
theorem it_tp : iTuple (inj t) = true := (rfl)
theorem it_pair : iTuple (inj p) = true := (rfl)
theorem it_t3 : iTuple (inj q) = true := (rfl)
theorem is_int : iStr (inj i) = false := (rfl)
theorem is_bool : iStr (inj b) = false := (rfl)
theorem is_str : iStr (inj s) = true := (rfl)
theorem is_list : iStr (inj l) = false := (rfl)
theorem is_tp : iStr (inj t) = false := (rfl)
theorem is_pair : iStr (inj p) = false := (rfl)
theorem is_t3 : iStr (inj q) = false := (rfl)
theorem il_int : iList (inj i) = false := (rfl)
theorem il_str : iList (inj s) = false := (rfl)
theorem il_list : iList (inj l) = true := (rfl)
theorem il_tp : iList (inj t) = false := (rfl)
theorem il_pair : iList (inj p) = false := (rfl)
theorem ib_opt [NN α] {o : Option Int} : iBool (inj o) = false := by cases o <;> rfl
theorem ii_opt {o : Option Int} : iInt (inj o) = o.isSome := by cases o <;> rfl
end
/-! ### arithmetic -/
section
variable {i j : Int} {b c : Bool} {x y : List Nat}
theorem b_add : binP .Add (inj i) (inj j) = some (inj (i + j)) := (rfl)
theorem b_sub : binP .Sub (inj i) (inj j) = some (inj (i - j)) := (rfl)
theorem b_mul : binP .Mult (inj i) (inj j) = if mulOk i j = true then some (inj (i * j)) else none := (rfl)
theorem b_div : binP .FloorDiv (inj i) (inj j) = if divOk j = true then some (inj (i.fdiv j)) else none := (rfl)
theorem b_mod : binP .Mod (inj i) (inj j) = if j ≠ 0 then some (inj (i.fmod j)) else none := (rfl)
theorem b_pow : binP .Pow (inj i) (inj j) = if powOk i j = true then some (inj (i ^ j.toNat)) else none := (rfl)
theorem a_add : augP .Add (inj i) (inj j) = some (inj (i + j)) := (rfl)
theorem a_sub : augP .Sub (inj i) (inj j) = some (inj (i - j)) := (rfl)
theorem a_mul : augP .Mult (inj i) (inj j) = if mulOk i j = true then some (inj (i * j)) else none := (rfl)
theorem a_div : augP .FloorDiv (inj i) (inj j) = if divOk j = true then some (inj (i.fdiv j)) else none := (rfl)
theorem b_neg : unP .USub (inj i) = some (inj (-i)) := (rfl)
theorem c_lt : cmpP .Lt (inj i) (inj j) = some (decide (i < j)) := (rfl)
theorem c_le : cmpP .LtE (inj i) (inj j) = some (decide (i ≤ j)) := (rfl)
theorem c_gt : cmpP .Gt (inj i) (inj j) = some (decide (j < i)) := (rfl)
theorem c_ge : cmpP .GtE (inj i) (inj j) = some (decide (j ≤ i)) := (rfl)
theorem s_arr : (⟨x.toArray⟩ : Str) ++ ⟨y.toArray⟩ = ⟨(x ++ y).toArray⟩ := by
  show Str.append _ _ = _
  unfold Str.append
  simp
theorem s_len : Str.length ⟨x.toArray⟩ = x.length := by
  unfold Str.length
  simp
theorem s_add : binP .Add (inj x) (inj y) = if szOk (x.length + y.length) = true then some (inj (x ++ y)) else none := by
  rw [← sz_if]
  show (if Str.length ⟨x.toArray⟩ + Str.length ⟨y.toArray⟩ ≤ sizeLine then some (PyData.str (⟨x.toArray⟩ ++ ⟨y.toArray⟩)) else none) = _
  rw [s_len, s_len, s_arr]
  rfl
def repL (x : List Nat) (n : Nat) : List Nat := (List.replicate n x).flatten
def repOk (x : List Nat) (j : Int) : Bool := smallI (2 * j) && szOk (x.length * j.toNat)
theorem s_mul : binP .Mult (inj x) (inj i) = if repOk x i = true then some (inj (repL x i.toNat)) else none := by
  show (if (smallI (2 * i) && decide (Str.length ⟨x.toArray⟩ * i.toNat ≤ sizeLine)) = true then some (PyData.str (repS ⟨x.toArray⟩ i.toNat)) else none) = _
  rw [s_len]
  have e : repOk x i = (smallI (2 * i) && decide (x.length * i.toNat ≤ sizeLine)) := by
    unfold repOk
    congr 1
    rw [Bool.eq_iff_iff, decide_eq_true_eq, szOk_eq]
  rw [e]
  unfold repS repL
  simp
  rfl
theorem as_add : augP .Add (inj x) (inj y) = if szOk (x.length + y.length) = true then some (inj (x ++ y)) else none := by
  rw [← sz_if]
  show (if Str.length ⟨x.toArray⟩ + Str.length ⟨y.toArray⟩ ≤ sizeLine then some (PyData.str (⟨x.toArray⟩ ++ ⟨y.toArray⟩)) else none) = _
  rw [s_len, s_len, s_arr]
  rfl
end
section
variable {α : Type} [Ty α] {a b : α} {l m : List α} {t u : Tp α}
theorem l_add : binP .Add (inj l) (inj m) = if szOk (l.length + m.length) = true then some (inj (l ++ m)) else none := by
  rw [← sz_if]
  show (if (l.map Ty.inj).length + (m.map Ty.inj).length ≤ sizeLine then some (PyData.list (l.map Ty.inj ++ m.map Ty.inj)) else none) = _
  rw [List.length_map, List.length_map, ← List.map_append]
  rfl
theorem tp_add : binP .Add (inj t) (inj u) = if szOk (t.l.length + u.l.length) = true then some (inj (Tp.mk (t.l ++ u.l))) else none := by
  rw [← sz_if]
  show (if (t.l.map Ty.inj).length + (u.l.map Ty.inj).length ≤ sizeLine then some (PyData.tuple (t.l.map Ty.inj ++ u.l.map Ty.inj)) else none) = _
  rw [List.length_map, List.length_map, ← List.map_append]
  rfl
theorem eq_gen {d e : PyData} (h : eqOk d e = true) : cmpP .Eq d e = some (PyData.eqv d e) := by
  cases d <;> cases e <;> first
    | (unfold cmpP; simp only [h, if_true]; done)
    | (unfold cmpP PyData.eqv; simp only [Option.some.injEq]; rw [Bool.eq_iff_iff]; simp)
theorem ne_gen {d e : PyData} (h : eqOk d e = true) : cmpP .NotEq d e = some (!PyData.eqv d e) := by
  cases d <;> cases e <;> first
    | (unfold cmpP; simp only [h, if_true]; done)
    | (unfold cmpP PyData.eqv; simp only [Option.some.injEq]; rw [Bool.eq_iff_iff]; simp)
theorem ok_eq (h : Ty.dB α ≤ 60) : eqOk (inj a) (inj b) = true := by
  unfold eqOk
  have h1 := Ty.pl a
  have h2 := Ty.pl b
  have h3 := Nat.le_trans (Ty.dp a) h
  simp [inj, h1, h2, h3]
theorem e_eq (h : Ty.dB α ≤ 60) : cmpP .Eq (inj a) (inj b) = some (@decide (a = b) (Ty.de a b)) := by
  rw [eq_gen (ok_eq h), ← Ty.eqv]
theorem e_ne (h : Ty.dB α ≤ 60) : cmpP .NotEq (inj a) (inj b) = some (!@decide (a = b) (Ty.de a b)) := by
  rw [ne_gen (ok_eq h), ← Ty.eqv]
theorem eqv_nil {l : List α} : PyData.eqv (inj l) (.list []) = l.isEmpty := by
  show PyData.eqv (.list (l.map Ty.inj)) (.list []) = _
  unfold PyData.eqv
  cases l with
  | nil => unfold PyData.eqvAll; rfl
  | cons a l => unfold PyData.eqvAll; rfl
theorem eqv_nilT {l : Tp α} : PyData.eqv (inj l) (.tuple []) = l.l.isEmpty := by
  show PyData.eqv (.tuple (l.l.map Ty.inj)) (.tuple []) = _
  unfold PyData.eqv
  cases l.l with
  | nil => unfold PyData.eqvAll; rfl
  | cons a l => unfold PyData.eqvAll; rfl
theorem nilOk {d : PyData} (h : d.plain = true) : eqOk d (.list []) = true := by
  unfold eqOk
  simp [h, PyData.plain, PyData.plainAll, PyData.depth, PyData.depthAll]
theorem nilOkT {d : PyData} (h : d.plain = true) : eqOk d (.tuple []) = true := by
  unfold eqOk
  simp [h, PyData.plain, PyData.plainAll, PyData.depth, PyData.depthAll]
theorem e_nil : cmpP .Eq (inj l) (.list []) = some l.isEmpty := by
  rw [eq_gen (nilOk (Ty.pl l)), eqv_nil]
theorem n_nil : cmpP .NotEq (inj l) (.list []) = some (!l.isEmpty) := by
  rw [ne_gen (nilOk (Ty.pl l)), eqv_nil]
theorem e_nilT : cmpP .Eq (inj t) (.tuple []) = some t.l.isEmpty := by
  rw [eq_gen (nilOkT (Ty.pl t)), eqv_nilT]
theorem n_nilT : cmpP .NotEq (inj t) (.tuple []) = some (!t.l.isEmpty) := by
  rw [ne_gen (nilOkT (Ty.pl t)), eqv_nilT]
def memB (a : α) (l : List α) : Bool := l.any fun z => @decide (z = a) (Ty.de z a)
theorem any_map : (l.map Ty.inj).any (fun z => PyData.eqv z (inj a)) = memB a l := by
  unfold memB
  rw [List.any_map]
  congr 1
  funext z
  exact Ty.eqv z a
theorem ok_l (h : Ty.dB α ≤ 59) : eqOk (inj a) (.list (l.map Ty.inj)) = true := by
  unfold eqOk
  have h1 := Ty.pl a
  have h3 : (Ty.inj a).depth ≤ 60 := Nat.le_trans (Ty.dp a) (by omega)
  simp [inj, h1, h3, PyData.plain, plainAll_map]
theorem ok_t (h : Ty.dB α ≤ 59) : eqOk (inj a) (.tuple (l.map Ty.inj)) = true := by
  unfold eqOk
  have h1 := Ty.pl a
  have h3 : (Ty.inj a).depth ≤ 60 := Nat.le_trans (Ty.dp a) (by omega)
  simp [inj, h1, h3, PyData.plain, plainAll_map]
theorem in_list (h : Ty.dB α ≤ 59) : cmpP .In (inj a) (inj l) = some (memB a l) := by
  rw [← any_map]
  show cmpP .In (inj a) (.list (l.map Ty.inj)) = _
  have := ok_l (a := a) (l := l) h
  unfold cmpP
  cases hd : inj a <;> simp only [hd] at this ⊢ <;> rw [if_pos this]
theorem nin_list (h : Ty.dB α ≤ 59) : cmpP .NotIn (inj a) (inj l) = some (!memB a l) := by
  rw [← any_map]
  show cmpP .NotIn (inj a) (.list (l.map Ty.inj)) = _
  have := ok_l (a := a) (l := l) h
  unfold cmpP
  cases hd : inj a <;> simp only [hd] at this ⊢ <;> rw [if_pos this]
theorem in_tp (h : Ty.dB α ≤ 59) : cmpP .In (inj a) (inj t) = some (memB a t.l) := by
  rw [← any_map]
  show cmpP .In (inj a) (.tuple (t.l.map Ty.inj)) = _
  have := ok_t (a := a) (l := t.l) h
  unfold cmpP
  cases hd : inj a <;> simp only [hd] at this ⊢ <;> rw [if_pos this]
theorem nin_tp (h : Ty.dB α ≤ 59) : cmpP .NotIn (inj a) (inj t) = some (!memB a t.l) := by
  rw [← any_map]
  show cmpP .NotIn (inj a) (.tuple (t.l.map Ty.inj)) = _
  have := ok_t (a := a) (l := t.l) h
  unfold cmpP
  cases hd : inj a <;> simp only [hd] at this ⊢ <;> rw [if_pos this]
theorem in_pair {p : α × α} (h : Ty.dB α ≤ 59) : cmpP .In (inj a) (inj p) = some (memB a [p.1, p.2]) := in_tp (t := ⟨[p.1, p.2]⟩) h
theorem nin_pair {p : α × α} (h : Ty.dB α ≤ 59) : cmpP .NotIn (inj a) (inj p) = some (!memB a [p.1, p.2]) := nin_tp (t := ⟨[p.1, p.2]⟩) h
/-! ### places -/
theorem atI_map {γ : Type} {f : α → γ} {i : Int} : L2.atI (l.map f) i = (L2.atI l i).map f := by
  unfold L2.atI
  rw [List.length_map]
  cases L2.ixN l.length i with
  | none => rfl
  | some j => simp
theorem ix_list {i : Int} : idxP (inj l) (inj i) = (L2.atI l i).map Ty.inj := atI_map
theorem ix_tp {i : Int} : idxP (inj t) (inj i) = (L2.atI t.l i).map Ty.inj := atI_map
theorem cutL_map {γ : Type} {f : α → γ} {lo hi : Option Int} : cutL (l.map f) lo hi = (cutL l lo hi).map f := by
  unfold cutL
  rw [List.length_map, ← List.map_drop, ← List.map_take]
theorem sl_list {lo hi : Option Int} : slcP (inj l) lo hi = some (inj (cutL l lo hi)) := by
  show some (PyData.list (cutL (l.map Ty.inj) lo hi)) = _
  rw [cutL_map]
  rfl
theorem sl_tp {lo hi : Option Int} : slcP (inj t) lo hi = some (inj (Tp.mk (cutL t.l lo hi))) := by
  show some (PyData.tuple (cutL (t.l.map Ty.inj) lo hi)) = _
  rw [cutL_map]
  rfl
theorem id_list : itD (inj l) = some (l.map Ty.inj) := (rfl)
theorem id_tp : itD (inj t) = some (t.l.map Ty.inj) := (rfl)
theorem id_pair {p : α × α} : itD (inj p) = some ([p.1, p.2].map Ty.inj) := (rfl)
theorem le_list : bLen (inj l) = some (inj (l.length : Int), false) := by
  show some (PyData.int ((l.map Ty.inj).length : Nat), false) = _
  rw [List.length_map]
  rfl
theorem le_tp : bLen (inj t) = some (inj (t.l.length : Int), false) := by
  show some (PyData.int ((t.l.map Ty.inj).length : Nat), false) = _
  rw [List.length_map]
  rfl
theorem tu_list : bTuple (inj l) = some (inj (Tp.mk l), false) := (rfl)
theorem tu_tp : bTuple (inj t) = some (inj t, false) := (rfl)
theorem li_list : bList (inj l) = some (inj l, true) := (rfl)
theorem li_tp : bList (inj t) = some (inj t.l, true) := (rfl)
theorem tr_list : truP (inj l) = some (!l.isEmpty) := by
  show some (!(l.map Ty.inj).isEmpty) = _
  cases l <;> rfl
end
section
variable {α β γ : Type} [Ty α] [Ty β] [Ty γ] {p : α × β} {q : T3 α β γ} {ρ : PEnv}
theorem ix_p0 : idxP (inj p) (inj (0 : Int)) = some (inj p.1) := (rfl)
theorem ix_p1 : idxP (inj p) (inj (1 : Int)) = some (inj p.2) := (rfl)
theorem ix_pm : idxP (inj p) (inj (-1 : Int)) = some (inj p.2) := (rfl)
theorem ix_q0 : idxP (inj q) (inj (0 : Int)) = some (inj q.a) := (rfl)
theorem ix_q1 : idxP (inj q) (inj (1 : Int)) = some (inj q.b) := (rfl)
theorem ix_q2 : idxP (inj q) (inj (2 : Int)) = some (inj q.c) := (rfl)
theorem un_pair {f : List PyData → SR} : un1 (inj p) f = f [inj p.1, inj p.2] := (rfl)
theorem un_t3 {f : List PyData → SR} : un1 (inj q) f = f [inj q.a, inj q.b, inj q.c] := (rfl)
theorem le_pair : bLen (inj p) = some (inj (2 : Int), false) := (rfl)
theorem le_t3 : bLen (inj q) = some (inj (3 : Int), false) := (rfl)
theorem tg_pair {f : List PyData → Option PEnv} : tgO (inj p) f = f [inj p.1, inj p.2] := (rfl)
theorem tg_t3 {f : List PyData → Option PEnv} : tgO (inj q) f = f [inj q.a, inj q.b, inj q.c] := (rfl)
end
section
variable {s z : List Nat} {i j : Int} {b c : Bool} {ρ : PEnv}
theorem atI_gen {α γ : Type} {l : List α} {f : α → γ} : L2.atI (l.map f) i = (L2.atI l i).map f := by
  unfold L2.atI
  rw [List.length_map]
  cases L2.ixN l.length i with
  | none => rfl
  | some j => simp
theorem ix_str : idxP (inj s) (inj i) = if szOk (s.length) = true then (L2.atI s i).map (fun c => inj [c]) else none := by
  rw [← sz_if]
  show (if Str.length ⟨s.toArray⟩ ≤ sizeLine then (L2.atI (s.toArray.toList) i).map (fun c => PyData.str ⟨#[c]⟩) else none) = _
  rw [s_len]
  rfl
theorem sl_str {lo hi : Option Int} : slcP (inj s) lo hi = if szOk (s.length) = true then some (inj (cutL s lo hi)) else none := by
  rw [← sz_if]
  show (if Str.length ⟨s.toArray⟩ ≤ sizeLine then some (PyData.str ⟨(cutL (s.toArray.toList) lo hi).toArray⟩) else none) = _
  rw [s_len]
  rfl
def chars (s : List Nat) : List (List Nat) := s.map fun c => [c]
theorem id_str : itD (inj s) = some ((chars s).map Ty.inj) := by
  show some (s.toArray.toList.map fun c => PyData.str ⟨#[c]⟩) = _
  unfold chars
  rw [List.map_map]
  rfl
theorem le_str : bLen (inj s) = if szOk (s.length) = true then some (inj (s.length : Int), false) else none := by
  rw [← sz_if]
  show (if Str.length ⟨s.toArray⟩ ≤ sizeLine then some (PyData.int (Str.length ⟨s.toArray⟩ : Nat), false) else none) = _
  rw [s_len]
  rfl
theorem tr_str : truP (inj s) = if szOk (s.length) = true then some (s.length != 0) else none := by
  rw [← sz_if]
  show (if Str.length ⟨s.toArray⟩ ≤ sizeLine then some (Str.length ⟨s.toArray⟩ != 0) else none) = _
  rw [s_len]
theorem tr_bool : truP (inj b) = some b := (rfl)
theorem tr_int : truP (inj i) = some (i != 0) := (rfl)
theorem in_int : bInt (inj i) = some (inj i, false) := (rfl)
def intT (s : List Nat) : Option Int := if s.length ≤ 640 then PySem.intText? ⟨s.toArray⟩ else none
theorem in_str : bInt (inj s) = (intT s).map fun i => (inj i, false) := by
  show (if Str.length ⟨s.toArray⟩ ≤ 640 then (PySem.intText? ⟨s.toArray⟩).map fun i => (PyData.int i, false) else none) = _
  rw [s_len]
  unfold intT
  split <;> rfl
theorem in_bool : bInt (inj b) = some (inj (if b = true then (1 : Int) else 0), false) := (rfl)
def strT (i : Int) : List Nat := (Str.ofString (toString i)).cps.toList
theorem st_int : bStr (inj i) = if i.natAbs.log2 < 1920 then some (inj (strT i), false) else none := by
  show (if i.natAbs.log2 < 1920 then some (PyData.str (Str.ofString (toString i)), false) else none) = _
  unfold strT
  show _ = if i.natAbs.log2 < 1920 then some (PyData.str ⟨(Str.ofString (toString i)).cps.toList.toArray⟩, false) else none
  rw [Array.toArray_toList]
theorem ab_int : bAbs (inj i) = some (inj (if i < 0 then -i else i), false) := (rfl)
theorem ints_map : ∀ l : List Int, intsP (l.map Ty.inj) = some l
  | [] => rfl
  | i :: l => by
    show (intsP (l.map Ty.inj)).map (i :: ·) = _
    rw [ints_map l]
    rfl
theorem su_list {l : List Int} : bSum (inj l) = some (inj l.sum, false) := by
  show (intsP (l.map Ty.inj)).map _ = _
  rw [ints_map]
  rfl
theorem mx_list {l : List Int} : bMax (inj l) = (maxL l).map fun i => (inj i, false) := by
  show (intsP (l.map Ty.inj)).bind _ = _
  rw [ints_map]
  rfl
theorem mn_list {l : List Int} : bMin (inj l) = (minL l).map fun i => (inj i, false) := by
  show (intsP (l.map Ty.inj)).bind _ = _
  rw [ints_map]
  rfl
theorem mx2 : bMax2 (inj i) (inj j) = some (inj (if i < j then j else i), false) := (rfl)
theorem mn2 : bMin2 (inj i) (inj j) = some (inj (if j < i then j else i), false) := (rfl)
theorem gc2 : bGcd (inj i) (inj j) = some (inj ((Int.gcd i j : Nat) : Int), false) := (rfl)
theorem strs_map : ∀ l : List (List Nat), strsP (l.map Ty.inj) = some (l.map fun s => ⟨s.toArray⟩)
  | [] => rfl
  | i :: l => by
    show (strsP (l.map Ty.inj)).map (⟨i.toArray⟩ :: ·) = _
    rw [strs_map l]
    rfl
def joinN (z : List Nat) : List (List Nat) → List Nat
  | [] => []
  | x :: r => match r with
    | [] => x
    | _ :: _ => x ++ z ++ joinN z r
theorem join_eq (z : List Nat) : ∀ l : List (List Nat), Str.join ⟨z.toArray⟩ (l.map fun s => ⟨s.toArray⟩) = ⟨(joinN z l).toArray⟩
  | [] => rfl
  | [x] => rfl
  | x :: y :: r => by
    have ih := join_eq z (y :: r)
    show (⟨x.toArray⟩ : Str) ++ ⟨z.toArray⟩ ++ Str.join ⟨z.toArray⟩ ((y :: r).map fun s => ⟨s.toArray⟩) = _
    rw [ih, s_arr, s_arr]
    rfl
def joinOk (z : List Nat) (l : List (List Nat)) : Bool := szOk ((l.map List.length).sum + z.length * l.length)
theorem jo_list {l : List (List Nat)} : mJoin (inj z) (inj l) = if joinOk z l = true then some (inj (joinN z l)) else none := by
  show (strsP (l.map Ty.inj)).bind (fun ys => if joinLen ⟨z.toArray⟩ ys ≤ 16777216 then some (PyData.str (Str.join ⟨z.toArray⟩ ys)) else none) = _
  rw [strs_map]
  show (if joinLen ⟨z.toArray⟩ (l.map fun s => ⟨s.toArray⟩) ≤ 16777216 then some (PyData.str (Str.join ⟨z.toArray⟩ (l.map fun s => ⟨s.toArray⟩))) else none) = _
  rw [join_eq]
  unfold joinOk joinLen
  rw [List.map_map, List.length_map, s_len]
  have e : ((fun x : Str => x.length) ∘ fun s : List Nat => (⟨s.toArray⟩ : Str)) = List.length := by
    funext s
    exact s_len
  rw [e]
  exact sz_if (n := (l.map List.length).sum + z.length * l.length)
def strIn (x y : List Nat) : Bool := !(Builtin.Str.occurrences ⟨y.toArray⟩ ⟨x.toArray⟩ 0 y.length 1).isEmpty
theorem in_str2 : cmpP .In (inj s) (inj z) = some (strIn s z) := by
  show some (!(Builtin.Str.occurrences ⟨z.toArray⟩ ⟨s.toArray⟩ 0 (Str.length ⟨z.toArray⟩) 1).isEmpty) = _
  rw [s_len]
  rfl
theorem c_slt : cmpP .Lt (inj s) (inj z) = some (decide (s < z)) := by
  show some (decide (s.toArray.toList < z.toArray.toList)) = _
  simp
/-! ### ranges -/
def rngI (a b : Int) : List Int := (List.range (b - a).toNat).map fun i => a + (i : Nat)
theorem rngL_eq : rngL i j = (rngI i j).map Ty.inj := by
  unfold rngL rngI
  rw [List.map_map]
  rfl
theorem r_1 : rng1 (inj i) ρ = if rngOk 0 i = true then .ok ((rngI 0 i).map Ty.inj) ρ else .no := by
  rw [← rngL_eq]
  rfl
theorem r_2 : rng2 (inj i) (inj j) ρ = if rngOk i j = true then .ok ((rngI i j).map Ty.inj) ρ else .no := by
  rw [← rngL_eq]
  rfl
theorem p_ip : ip (inj i) ρ = .ok (some i) ρ := (rfl)
/-! ### and, or -/
variable {k : PEnv → R VR} {kb : PEnv → R Bool}
theorem v_and : bv .And (inj b) ρ k = if b = true then k ρ else .ok (inj false, false) ρ := by cases b <;> rfl
theorem v_or : bv .Or (inj b) ρ k = if b = true then .ok (inj true, false) ρ else k ρ := by cases b <;> rfl
theorem t_and : bt .And b ρ kb = if b = true then kb ρ else .ok false ρ := by cases b <;> rfl
theorem t_or : bt .Or b ρ kb = if b = true then .ok true ρ else kb ρ := by cases b <;> rfl
theorem m_and : (if b = true then R.ok (inj c, false) ρ else R.ok (inj false, false) ρ) = R.ok (inj (b && c), false) ρ := by cases b <;> rfl
theorem m_or : (if b = true then R.ok (inj true, false) ρ else R.ok (inj c, false) ρ) = R.ok (inj (b || c), false) ρ := by cases b <;> rfl
theorem n_and : (if b = true then R.ok c ρ else R.ok false ρ) = R.ok (b && c) ρ := by cases b <;> rfl
theorem n_or : (if b = true then R.ok true ρ else R.ok c ρ) = R.ok (b || c) ρ := by cases b <;> rfl
end
/-! ### None -/
section
variable {α : Type} [Ty α] [NN α] {o : Option α} {a : α} {p : Option Int} {i : Int}
theorem ix_non {d : PyData} : idxP .none d = none := (rfl)
theorem le_non : bLen .none = none := (rfl)
theorem un_non {f : List PyData → SR} : un1 .none f = .no := (rfl)
theorem lt_non {d : PyData} : cmpP .Lt .none d = none := by cases d <;> rfl
theorem le2_non {d : PyData} : cmpP .LtE .none d = none := by cases d <;> rfl
theorem gt_non {d : PyData} : cmpP .Gt .none d = none := by cases d <;> rfl
theorem ge_non {d : PyData} : cmpP .GtE .none d = none := by cases d <;> rfl
theorem ad_non {d : PyData} : binP .Add .none d = none := by cases d <;> rfl
theorem sb_non {d : PyData} : binP .Sub .none d = none := by cases d <;> rfl
theorem iin_non : iInt .none = false := (rfl)
theorem ibn_non : iBool .none = false := (rfl)
theorem itn_non : iTuple .none = false := (rfl)
theorem isn_nons : iStr .none = false := (rfl)
theorem iln_non : iList .none = false := (rfl)
theorem eq_an : cmpP .Eq (inj a) .none = some false := by
  rw [eq_gen (by unfold eqOk; simp [inj, Ty.pl, PyData.plain, PyData.depth]), NN.r]
theorem ne_an : cmpP .NotEq (inj a) .none = some true := by
  rw [ne_gen (by unfold eqOk; simp [inj, Ty.pl, PyData.plain, PyData.depth]), NN.r]
  rfl
theorem eq_na : cmpP .Eq .none (inj a) = some false := by
  rw [eq_gen (by unfold eqOk; simp [inj, Ty.pl, PyData.plain, PyData.depth]), NN.l]
theorem ne_na : cmpP .NotEq .none (inj a) = some true := by
  rw [ne_gen (by unfold eqOk; simp [inj, Ty.pl, PyData.plain, PyData.depth]), NN.l]
  rfl
theorem is_non : cmpP .Is .none .none = some true := (rfl)
theorem isn_non : cmpP .IsNot .none .none = some false := (rfl)
theorem eq_non : cmpP .Eq .none .none = some true := (rfl)
theorem ne_non : cmpP .NotEq .none .none = some false := (rfl)
theorem inj_none : inj (none : Option α) = .none := (rfl)
theorem inj_some : inj (some a) = inj a := (rfl)
theorem is_opt : cmpP .Is (inj o) .none = some o.isNone := by
  show some (isNo (Ty.inj o)) = _
  cases o with
  | none => rfl
  | some a => exact congrArg some (NN.n a)
theorem isn_opt : cmpP .IsNot (inj o) .none = some o.isSome := by
  show some (!isNo (Ty.inj o)) = _
  cases o with
  | none => rfl
  | some a =>
    have := NN.n a
    show some (!isNo (Ty.inj a)) = _
    rw [this]
    rfl
theorem is_nn : cmpP .Is (inj a) .none = some false := congrArg some (NN.n a)
theorem isn_nn : cmpP .IsNot (inj a) .none = some true := by
  show some (!isNo (Ty.inj a)) = _
  rw [NN.n]
  rfl
theorem lt_o1 : cmpP .Lt (inj p) (inj i) = p.map fun a => decide (a < i) := by cases p <;> rfl
theorem le_o1 : cmpP .LtE (inj p) (inj i) = p.map fun a => decide (a ≤ i) := by cases p <;> rfl
theorem gt_o1 : cmpP .Gt (inj p) (inj i) = p.map fun a => decide (i < a) := by cases p <;> rfl
theorem ge_o1 : cmpP .GtE (inj p) (inj i) = p.map fun a => decide (i ≤ a) := by cases p <;> rfl
theorem add_o1 : binP .Add (inj p) (inj i) = p.map fun a => inj (a + i) := by cases p <;> rfl
theorem sub_o1 : binP .Sub (inj p) (inj i) = p.map fun a => inj (a - i) := by cases p <;> rfl
end
/-! ### changes -/
def rt2 (o : Option (Nat × Tg × PyData)) (i : Nat) (ρ : PEnv) : SR := match o with
  | some (i, .own, d) => .rt d true (ρ.set i none)
  | _ => (rdSl i ρ).toS fun v ρ' => .rt v.1 v.2 ρ'
def ap1 (o : Option (Nat × Tg × PyData)) (k : SR) : SR := match o with
  | some (_, _, d) => if isLs d then k else .no
  | none => .no
def ap2 (o : Option (Nat × Tg × PyData)) (v : PyData) (ρ : PEnv) : SR := match o with
  | some (i, t, .list xs) => if xs.length < sizeLine then .nx (ρ.set i (some ⟨t, .list (xs ++ [v])⟩)) else .no
  | _ => .no
def sg2 (o : Option (Nat × Tg × PyData)) (k : SR) : SR := match o with
  | some _ => k
  | none => .no
def su2 (o : Option (Nat × Tg × PyData)) (key v : PyData) (ρ : PEnv) : SR := match o with
  | some (j, t, d) => TW.os (setIt t d key v) fun s => .nx (ρ.set j (some s))
  | none => .no
section
variable {i : Nat} {ρ : PEnv} {d v key : PyData} {t : Tg} {k : SR}
theorem retN_eq : retN i ρ = rt2 (mtSl i ρ) i ρ := (rfl)
theorem apS_eq {e : PEnv → R PyData} : apS i ρ e = ap1 (mtSl i ρ) ((e ρ).toS fun v ρ1 => ap2 (mtSl i ρ1) v ρ1) := by
  unfold apS ap1 ap2
  rfl
theorem sgS_eq {k : PEnv → SR} : sgS i ρ k = sg2 (mtSl i ρ) (k ρ) := by
  unfold sgS sg2
  rfl
theorem suS_eq : suS i key v ρ = su2 (mtSl i ρ) key v ρ := by
  unfold suS su2 TW.os
  cases mtSl i ρ with
  | none => rfl
  | some x =>
    obtain ⟨j, t, d⟩ := x
    simp only
    generalize setIt t d key v = o
    cases o <;> rfl
theorem ag_eq {op : Operator} : agS i op v ρ = TW.os (pkSl i ρ) fun u => TW.os (augP op u v) fun d => nxO (putSl i ⟨.fz, d⟩ ρ) := (rfl)
theorem rt_own : rt2 (some (i, .own, d)) j ρ = .rt d true (ρ.set i none) := (rfl)
theorem rt_none {j : Nat} : rt2 none j ρ = (rdSl j ρ).toS fun v ρ' => .rt v.1 v.2 ρ' := (rfl)
theorem rt_lent {j : Nat} : rt2 (some (i, .lent, d)) j ρ = (rdSl j ρ).toS fun v ρ' => .rt v.1 v.2 ρ' := (rfl)
theorem sg_some {o : Nat × Tg × PyData} : sg2 (some o) k = k := (rfl)
theorem su_some : su2 (some (i, t, d)) key v ρ = TW.os (setIt t d key v) fun s => .nx (ρ.set i (some s)) := (rfl)
variable {α : Type} [Ty α] {l : List α} {a : α}
theorem ap_1 : ap1 (some (i, t, inj l)) k = k := (rfl)
theorem ap_2 : ap2 (some (i, t, inj l)) (inj a) ρ = if szOk (l.length + 1) = true then .nx (ρ.set i (some ⟨t, inj (l ++ [a])⟩)) else .no := by
  rw [← sz_if1]
  show (if (l.map Ty.inj).length < sizeLine then SR.nx (ρ.set i (some ⟨t, .list (l.map Ty.inj ++ [Ty.inj a])⟩)) else .no) = _
  rw [List.length_map]
  have e : l.map Ty.inj ++ [Ty.inj a] = (l ++ [a]).map Ty.inj := by simp
  rw [e]
  rfl
theorem ap_2n : ap2 (some (i, t, PyData.list [])) (inj a) ρ = .nx (ρ.set i (some ⟨t, inj [a]⟩)) := (rfl)
theorem ap_1n : ap1 (some (i, t, PyData.list [])) k = k := (rfl)
theorem si_list {n : Int} : setIt t (inj l) (inj n) (inj a) = (L2.ixN l.length n).map fun j => ⟨t, inj (l.set j a)⟩ := by
  show (L2.ixN (l.map Ty.inj).length n).map (fun j => (⟨t, .list ((l.map Ty.inj).set j (Ty.inj a))⟩ : Sl)) = _
  rw [List.length_map]
  congr 1
  funext j
  rw [← List.map_set]
  rfl
end
/-! ### hidden slots -/
section
variable {ρ : PEnv} {d : PyData} {v : Nat} {vs : List Nat}
def hid1 (v : Nat) (ρ : PEnv) : Bool := match ρ[v]? with
  | some none => true
  | some (some ⟨.fz, _⟩) => true
  | _ => false
theorem hid_nil : hidOk ρ [] = true := (rfl)
theorem hid_cons : hidOk ρ (v :: vs) = (hid1 v ρ && hidOk ρ vs) := (rfl)
theorem hid_s {o : Option Sl} : hid1 (v + 1) (o :: ρ) = hid1 v ρ := by
  unfold hid1
  rw [List.getElem?_cons_succ]
theorem hid_n : hid1 0 (none :: ρ) = true := (rfl)
theorem hid_f : hid1 0 (some ⟨.fz, d⟩ :: ρ) = true := (rfl)
theorem hid_jf : hid1 0 (Jk.s (.f d) :: ρ) = true := (rfl)
theorem hid_jn : hid1 0 (Jk.s .n :: ρ) = true := (rfl)
theorem wipe_nil : wipeP ρ [] = ρ := (rfl)
theorem wipe_cons : wipeP ρ (v :: vs) = (wipeP ρ vs).set v none := (rfl)
variable {ρ0 : PEnv}
theorem unh_nil : unhide ρ0 [] ρ = ρ := (rfl)
theorem unh_cons : unhide ρ0 (v :: vs) ρ = (unhide ρ0 vs ρ).set v ((ρ0[v]?).getD none) := (rfl)
theorem finR_lcT {C : Type} {no : C} {x : Exn → PEnv → C} {vs : List Nat} {i : PEnv → R (List PyData)} {g : PyData → PEnv → Option PEnv} {c : PEnv → R Bool} {f : PEnv → R PyData} {k : VR → PEnv → C} {p : Pos} : finR no x (lcTQ p vs i g c f ρ) k = finR no x (i ρ) fun xs ρ1 => if hidOk ρ1 vs = true then finR no x (compQ p g c f vs xs [] (wipeP ρ1 vs)) fun ds ρ2 => k (.list ds, true) (unhide ρ1 vs ρ2) else no := by
  unfold lcTQ
  rw [finR_bind]
  congr 1
  funext xs ρ1
  rw [finR_ite, finR_bind]
  rfl
end
/-! ### the state of the draws -/
structure MS where
  L : Int
  S : Int
  cs : List Int
  p : Int
def mKvs (a b : Int) (c : List Int) (d : Int) : List (PyData × PyData) := [(.str ⟨#[108, 101, 102, 116]⟩, .int a), (.str ⟨#[115, 101, 101, 100]⟩, .int b), (.str ⟨#[99, 101, 108, 108, 115]⟩, .list (c.map .int)), (.str ⟨#[115, 112, 111, 116]⟩, .int d)]
def injM (m : MS) : PyData := .dict (mKvs m.L m.S m.cs m.p)
section
variable {m : MS} {a b d : Int} {c : List Int} {t : Tg} {k : PyData}
theorem mg : mrg [(inj [108, 101, 102, 116], inj a), (inj [115, 101, 101, 100], inj b), (inj [99, 101, 108, 108, 115], inj c), (inj [115, 112, 111, 116], inj d)] [] = some (mKvs a b c d) := (rfl)
theorem f_m : PyData.dict (mKvs a b c d) = injM ⟨a, b, c, d⟩ := (rfl)
theorem m_l : idxP (injM m) (inj [108, 101, 102, 116]) = some (inj m.L) := (rfl)
theorem m_s : idxP (injM m) (inj [115, 101, 101, 100]) = some (inj m.S) := (rfl)
theorem m_c : idxP (injM m) (inj [99, 101, 108, 108, 115]) = some (inj m.cs) := (rfl)
theorem m_p : idxP (injM m) (inj [115, 112, 111, 116]) = some (inj m.p) := (rfl)
theorem m_sl : setIt t (injM m) (inj [108, 101, 102, 116]) (inj a) = some ⟨t, injM ⟨a, m.S, m.cs, m.p⟩⟩ := (rfl)
theorem m_sp : setIt t (injM m) (inj [115, 112, 111, 116]) (inj a) = some ⟨t, injM ⟨m.L, m.S, m.cs, a⟩⟩ := (rfl)
end
end TM

set_option Elab.async false
set_option maxRecDepth 100000
set_option maxHeartbeats 1000000
/-! TM4: loops by the number of the names that they carry (printed by mk4.py). -/
namespace TM
open PySem TW
def u0 (f : PEnv) (s : Unit) : PEnv := f 
theorem u0_eq {f : PEnv} {s : Unit} : u0 f s = f  := (rfl)
def x_nx0 {A : An} {f : PEnv} {ρ : PEnv}  (h : ρ = f ) : Gm (AB A (u0 f)) (SB.nx ρ) := ⟨.nx (), congrArg SB.nx h⟩
def x_bk0 {A : An} {f : PEnv} {ρ : PEnv}  (h : ρ = f ) : Gm (AB A (u0 f)) (SB.bk ρ) := ⟨.bk (), congrArg SB.bk h⟩
def x_sk0 {A : An} {γ : Type} [Ty γ] {f : PEnv} {ρ : PEnv}  (h : ρ = f ) : Gm (AS A γ (u0 f)) (SC.sk ρ) := ⟨.sk (), congrArg SC.sk h⟩
def x_ad0 {A : An} {γ : Type} [Ty γ] {f : PEnv} {ρ : PEnv} {d : PyData} (v : γ)  (hd : d = inj v) (h : ρ = f ) : Gm (AS A γ (u0 f)) (SC.ad d ρ) := ⟨.ad v (), by rw [hd, h]; rfl⟩
def x_for0 {A : An} {β : Type} [Ty β] {K : Kn A.C} {k : PEnv → SR} {g : PyData → PEnv → Option PEnv} {f : PEnv → SR} {ρ0 : PEnv} {xs : List β}
    (p : Pos) (e : PEnv → PEnv)  (h0 : ρ0 = e ρ0 )
    (B : ∀ (s : Unit) (x : β), Gm (AB A (u0 (e ρ0))) (osG (SB.fin K.no) (g (inj x) (u0 (e ρ0) s)) fun ρ1 => fin (turnK K) (f ρ1)))
    (D : ∀ s, Gm A (fin K (k (u0 (e ρ0) s)))) : Gm A (fin K (sq (forQ p g f (xs.map Ty.inj) ρ0) k)) := x_for p (fun ρ => u0 (e ρ)) () h0 B D
def x_while0 {A : An} {K : Kn A.C} {k : PEnv → SR} {c : PEnv → R Bool} {f : PEnv → SR} {ρ0 : PEnv} {W : Nat}
    (p : Pos) (e : PEnv → PEnv)  (h0 : ρ0 = e ρ0 )
    (B : ∀ s : Unit, Gm (AB A (u0 (e ρ0))) (finR (SB.fin K.no) (fun x ρ => SB.fin (K.ex x ρ)) (c (u0 (e ρ0) s)) fun b ρ1 => if b = true then fin (turnK K) (f ρ1) else SB.bk ρ1))
    (D : ∀ s, Gm A (fin K (k (u0 (e ρ0) s)))) (hn : K.no = A.no := by rfl) : Gm A (fin K (sq (whileQ p c f W ρ0) k)) := x_while p (fun ρ => u0 (e ρ)) () h0 B D hn
def x_comp0 {A : An} {β γ : Type} [Ty β] [Ty γ] {no : A.C} {xc : Exn → PEnv → A.C} {k : List PyData → PEnv → A.C} {g : PyData → PEnv → Option PEnv} {c : PEnv → R Bool} {f : PEnv → R PyData} {vs : List Nat} {ρ0 : PEnv} {xs : List β}
    (p : Pos) (e : PEnv → PEnv)  (h0 : ρ0 = e ρ0 )
    (B : ∀ (s : Unit) (x : β), Gm (AS A γ (u0 (e ρ0))) (osG (SC.fin no) (g (inj x) (wipeP (u0 (e ρ0) s) vs)) fun ρ1 => finR (SC.fin no) (fun x ρ => SC.fin (xc x ρ)) (c ρ1) fun b ρ2 => if b = true then finR (SC.fin no) (fun x ρ => SC.fin (xc x ρ)) (f ρ2) fun v ρ3 => SC.ad v (wipeP ρ3 vs) else SC.sk (wipeP ρ2 vs)))
    (D : ∀ (ds : List γ) s, Gm A (k (ds.map Ty.inj) (u0 (e ρ0) s))) (hn : no = A.no := by rfl) : Gm A (finR no xc (compQ p g c f vs (xs.map Ty.inj) [] ρ0) k) := x_comp p (fun ρ => u0 (e ρ)) () h0 B D hn
def x_join0 {A : An} {K : Kn A.C} {k : PEnv → SR} {b : Bool} {t u : SR} {ρ0 : PEnv} (p : Pos) (e : PEnv → PEnv)
    (T : Gm (AB A (u0 (e ρ0))) (fin (joinK K) t)) (U : Gm (AB A (u0 (e ρ0))) (fin (joinK K) u)) (D : ∀ s : Unit, Gm A (fin K (k (u0 (e ρ0) s)))) : Gm A (fin K (sq (ifQ p ρ0 b t u) k)) := x_join p (fun ρ => u0 (e ρ)) T U D
def x_ieJ0 {A : An} {no : A.C} {x : Exn → PEnv → A.C} {k : VR → PEnv → A.C} {b : Bool} {t u : R VR} {ρ0 : PEnv} (p : Pos) (γ : Type) [Ty γ] (fr : Bool) (e : PEnv → PEnv)
    (T : Gm (AS A γ (u0 (e ρ0))) (finR (SC.fin no) (fun x' ρ => SC.fin (x x' ρ)) t fun v ρ' => if v.2 = fr then SC.ad v.1 ρ' else SC.bad))
    (U : Gm (AS A γ (u0 (e ρ0))) (finR (SC.fin no) (fun x' ρ => SC.fin (x x' ρ)) u fun v ρ' => if v.2 = fr then SC.ad v.1 ρ' else SC.bad))
    (D : ∀ (v : γ) (s : Unit), Gm A (k (inj v, fr) (u0 (e ρ0) s))) : Gm A (finR no x (ieQ p ρ0 b t u) k) := x_ieJ p γ fr (fun ρ => u0 (e ρ)) T U D
def u1 {α0 : Type} (f : α0 → PEnv) (s : α0) : PEnv := f s
theorem u1_eq {α0 : Type} {f : α0 → PEnv} {s : α0} : u1 f s = f s := (rfl)
def x_nx1 {A : An} {α0 : Type} {f : α0 → PEnv} {ρ : PEnv} (a0 : α0) (h : ρ = f a0) : Gm (AB A (u1 f)) (SB.nx ρ) := ⟨.nx (a0), congrArg SB.nx h⟩
def x_bk1 {A : An} {α0 : Type} {f : α0 → PEnv} {ρ : PEnv} (a0 : α0) (h : ρ = f a0) : Gm (AB A (u1 f)) (SB.bk ρ) := ⟨.bk (a0), congrArg SB.bk h⟩
def x_sk1 {A : An} {γ : Type} [Ty γ] {α0 : Type} {f : α0 → PEnv} {ρ : PEnv} (a0 : α0) (h : ρ = f a0) : Gm (AS A γ (u1 f)) (SC.sk ρ) := ⟨.sk (a0), congrArg SC.sk h⟩
def x_ad1 {A : An} {γ : Type} [Ty γ] {α0 : Type} {f : α0 → PEnv} {ρ : PEnv} {d : PyData} (v : γ) (a0 : α0) (hd : d = inj v) (h : ρ = f a0) : Gm (AS A γ (u1 f)) (SC.ad d ρ) := ⟨.ad v (a0), by rw [hd, h]; rfl⟩
def x_for1 {A : An} {β : Type} [Ty β] {α0 : Type} {K : Kn A.C} {k : PEnv → SR} {g : PyData → PEnv → Option PEnv} {f : PEnv → SR} {ρ0 : PEnv} {xs : List β}
    (p : Pos) (e : PEnv → α0 → PEnv) (a0 : α0) (h0 : ρ0 = e ρ0 a0)
    (B : ∀ (s : α0) (x : β), Gm (AB A (u1 (e ρ0))) (osG (SB.fin K.no) (g (inj x) (u1 (e ρ0) s)) fun ρ1 => fin (turnK K) (f ρ1)))
    (D : ∀ s, Gm A (fin K (k (u1 (e ρ0) s)))) : Gm A (fin K (sq (forQ p g f (xs.map Ty.inj) ρ0) k)) := x_for p (fun ρ => u1 (e ρ)) (a0) h0 B D
def x_while1 {A : An} {α0 : Type} {K : Kn A.C} {k : PEnv → SR} {c : PEnv → R Bool} {f : PEnv → SR} {ρ0 : PEnv} {W : Nat}
    (p : Pos) (e : PEnv → α0 → PEnv) (a0 : α0) (h0 : ρ0 = e ρ0 a0)
    (B : ∀ s : α0, Gm (AB A (u1 (e ρ0))) (finR (SB.fin K.no) (fun x ρ => SB.fin (K.ex x ρ)) (c (u1 (e ρ0) s)) fun b ρ1 => if b = true then fin (turnK K) (f ρ1) else SB.bk ρ1))
    (D : ∀ s, Gm A (fin K (k (u1 (e ρ0) s)))) (hn : K.no = A.no := by rfl) : Gm A (fin K (sq (whileQ p c f W ρ0) k)) := x_while p (fun ρ => u1 (e ρ)) (a0) h0 B D hn
def x_comp1 {A : An} {β γ : Type} [Ty β] [Ty γ] {α0 : Type} {no : A.C} {xc : Exn → PEnv → A.C} {k : List PyData → PEnv → A.C} {g : PyData → PEnv → Option PEnv} {c : PEnv → R Bool} {f : PEnv → R PyData} {vs : List Nat} {ρ0 : PEnv} {xs : List β}
    (p : Pos) (e : PEnv → α0 → PEnv) (a0 : α0) (h0 : ρ0 = e ρ0 a0)
    (B : ∀ (s : α0) (x : β), Gm (AS A γ (u1 (e ρ0))) (osG (SC.fin no) (g (inj x) (wipeP (u1 (e ρ0) s) vs)) fun ρ1 => finR (SC.fin no) (fun x ρ => SC.fin (xc x ρ)) (c ρ1) fun b ρ2 => if b = true then finR (SC.fin no) (fun x ρ => SC.fin (xc x ρ)) (f ρ2) fun v ρ3 => SC.ad v (wipeP ρ3 vs) else SC.sk (wipeP ρ2 vs)))
    (D : ∀ (ds : List γ) s, Gm A (k (ds.map Ty.inj) (u1 (e ρ0) s))) (hn : no = A.no := by rfl) : Gm A (finR no xc (compQ p g c f vs (xs.map Ty.inj) [] ρ0) k) := x_comp p (fun ρ => u1 (e ρ)) (a0) h0 B D hn
def x_join1 {A : An} {α0 : Type} {K : Kn A.C} {k : PEnv → SR} {b : Bool} {t u : SR} {ρ0 : PEnv} (p : Pos) (e : PEnv → α0 → PEnv)
    (T : Gm (AB A (u1 (e ρ0))) (fin (joinK K) t)) (U : Gm (AB A (u1 (e ρ0))) (fin (joinK K) u)) (D : ∀ s : α0, Gm A (fin K (k (u1 (e ρ0) s)))) : Gm A (fin K (sq (ifQ p ρ0 b t u) k)) := x_join p (fun ρ => u1 (e ρ)) T U D
def x_ieJ1 {A : An} {α0 : Type} {no : A.C} {x : Exn → PEnv → A.C} {k : VR → PEnv → A.C} {b : Bool} {t u : R VR} {ρ0 : PEnv} (p : Pos) (γ : Type) [Ty γ] (fr : Bool) (e : PEnv → α0 → PEnv)
    (T : Gm (AS A γ (u1 (e ρ0))) (finR (SC.fin no) (fun x' ρ => SC.fin (x x' ρ)) t fun v ρ' => if v.2 = fr then SC.ad v.1 ρ' else SC.bad))
    (U : Gm (AS A γ (u1 (e ρ0))) (finR (SC.fin no) (fun x' ρ => SC.fin (x x' ρ)) u fun v ρ' => if v.2 = fr then SC.ad v.1 ρ' else SC.bad))
    (D : ∀ (v : γ) (s : α0), Gm A (k (inj v, fr) (u1 (e ρ0) s))) : Gm A (finR no x (ieQ p ρ0 b t u) k) := x_ieJ p γ fr (fun ρ => u1 (e ρ)) T U D
def u2 {α0 α1 : Type} (f : α0 → α1 → PEnv) (s : α0 × α1) : PEnv := f s.1 s.2
theorem u2_eq {α0 α1 : Type} {f : α0 → α1 → PEnv} {s : α0 × α1} : u2 f s = f s.1 s.2 := (rfl)
def x_nx2 {A : An} {α0 α1 : Type} {f : α0 → α1 → PEnv} {ρ : PEnv} (a0 : α0) (a1 : α1) (h : ρ = f a0 a1) : Gm (AB A (u2 f)) (SB.nx ρ) := ⟨.nx (a0, a1), congrArg SB.nx h⟩
def x_bk2 {A : An} {α0 α1 : Type} {f : α0 → α1 → PEnv} {ρ : PEnv} (a0 : α0) (a1 : α1) (h : ρ = f a0 a1) : Gm (AB A (u2 f)) (SB.bk ρ) := ⟨.bk (a0, a1), congrArg SB.bk h⟩
def x_sk2 {A : An} {γ : Type} [Ty γ] {α0 α1 : Type} {f : α0 → α1 → PEnv} {ρ : PEnv} (a0 : α0) (a1 : α1) (h : ρ = f a0 a1) : Gm (AS A γ (u2 f)) (SC.sk ρ) := ⟨.sk (a0, a1), congrArg SC.sk h⟩
def x_ad2 {A : An} {γ : Type} [Ty γ] {α0 α1 : Type} {f : α0 → α1 → PEnv} {ρ : PEnv} {d : PyData} (v : γ) (a0 : α0) (a1 : α1) (hd : d = inj v) (h : ρ = f a0 a1) : Gm (AS A γ (u2 f)) (SC.ad d ρ) := ⟨.ad v (a0, a1), by rw [hd, h]; rfl⟩
def x_for2 {A : An} {β : Type} [Ty β] {α0 α1 : Type} {K : Kn A.C} {k : PEnv → SR} {g : PyData → PEnv → Option PEnv} {f : PEnv → SR} {ρ0 : PEnv} {xs : List β}
    (p : Pos) (e : PEnv → α0 → α1 → PEnv) (a0 : α0) (a1 : α1) (h0 : ρ0 = e ρ0 a0 a1)
    (B : ∀ (s : α0 × α1) (x : β), Gm (AB A (u2 (e ρ0))) (osG (SB.fin K.no) (g (inj x) (u2 (e ρ0) s)) fun ρ1 => fin (turnK K) (f ρ1)))
    (D : ∀ s, Gm A (fin K (k (u2 (e ρ0) s)))) : Gm A (fin K (sq (forQ p g f (xs.map Ty.inj) ρ0) k)) := x_for p (fun ρ => u2 (e ρ)) (a0, a1) h0 B D
def x_while2 {A : An} {α0 α1 : Type} {K : Kn A.C} {k : PEnv → SR} {c : PEnv → R Bool} {f : PEnv → SR} {ρ0 : PEnv} {W : Nat}
    (p : Pos) (e : PEnv → α0 → α1 → PEnv) (a0 : α0) (a1 : α1) (h0 : ρ0 = e ρ0 a0 a1)
    (B : ∀ s : α0 × α1, Gm (AB A (u2 (e ρ0))) (finR (SB.fin K.no) (fun x ρ => SB.fin (K.ex x ρ)) (c (u2 (e ρ0) s)) fun b ρ1 => if b = true then fin (turnK K) (f ρ1) else SB.bk ρ1))
    (D : ∀ s, Gm A (fin K (k (u2 (e ρ0) s)))) (hn : K.no = A.no := by rfl) : Gm A (fin K (sq (whileQ p c f W ρ0) k)) := x_while p (fun ρ => u2 (e ρ)) (a0, a1) h0 B D hn
def x_comp2 {A : An} {β γ : Type} [Ty β] [Ty γ] {α0 α1 : Type} {no : A.C} {xc : Exn → PEnv → A.C} {k : List PyData → PEnv → A.C} {g : PyData → PEnv → Option PEnv} {c : PEnv → R Bool} {f : PEnv → R PyData} {vs : List Nat} {ρ0 : PEnv} {xs : List β}
    (p : Pos) (e : PEnv → α0 → α1 → PEnv) (a0 : α0) (a1 : α1) (h0 : ρ0 = e ρ0 a0 a1)
    (B : ∀ (s : α0 × α1) (x : β), Gm (AS A γ (u2 (e ρ0))) (osG (SC.fin no) (g (inj x) (wipeP (u2 (e ρ0) s) vs)) fun ρ1 => finR (SC.fin no) (fun x ρ => SC.fin (xc x ρ)) (c ρ1) fun b ρ2 => if b = true then finR (SC.fin no) (fun x ρ => SC.fin (xc x ρ)) (f ρ2) fun v ρ3 => SC.ad v (wipeP ρ3 vs) else SC.sk (wipeP ρ2 vs)))
    (D : ∀ (ds : List γ) s, Gm A (k (ds.map Ty.inj) (u2 (e ρ0) s))) (hn : no = A.no := by rfl) : Gm A (finR no xc (compQ p g c f vs (xs.map Ty.inj) [] ρ0) k) := x_comp p (fun ρ => u2 (e ρ)) (a0, a1) h0 B D hn
def x_join2 {A : An} {α0 α1 : Type} {K : Kn A.C} {k : PEnv → SR} {b : Bool} {t u : SR} {ρ0 : PEnv} (p : Pos) (e : PEnv → α0 → α1 → PEnv)
    (T : Gm (AB A (u2 (e ρ0))) (fin (joinK K) t)) (U : Gm (AB A (u2 (e ρ0))) (fin (joinK K) u)) (D : ∀ s : α0 × α1, Gm A (fin K (k (u2 (e ρ0) s)))) : Gm A (fin K (sq (ifQ p ρ0 b t u) k)) := x_join p (fun ρ => u2 (e ρ)) T U D
def x_ieJ2 {A : An} {α0 α1 : Type} {no : A.C} {x : Exn → PEnv → A.C} {k : VR → PEnv → A.C} {b : Bool} {t u : R VR} {ρ0 : PEnv} (p : Pos) (γ : Type) [Ty γ] (fr : Bool) (e : PEnv → α0 → α1 → PEnv)
    (T : Gm (AS A γ (u2 (e ρ0))) (finR (SC.fin no) (fun x' ρ => SC.fin (x x' ρ)) t fun v ρ' => if v.2 = fr then SC.ad v.1 ρ' else SC.bad))
    (U : Gm (AS A γ (u2 (e ρ0))) (finR (SC.fin no) (fun x' ρ => SC.fin (x x' ρ)) u fun v ρ' => if v.2 = fr then SC.ad v.1 ρ' else SC.bad))
    (D : ∀ (v : γ) (s : α0 × α1), Gm A (k (inj v, fr) (u2 (e ρ0) s))) : Gm A (finR no x (ieQ p ρ0 b t u) k) := x_ieJ p γ fr (fun ρ => u2 (e ρ)) T U D
def u3 {α0 α1 α2 : Type} (f : α0 → α1 → α2 → PEnv) (s : α0 × α1 × α2) : PEnv := f s.1 s.2.1 s.2.2
theorem u3_eq {α0 α1 α2 : Type} {f : α0 → α1 → α2 → PEnv} {s : α0 × α1 × α2} : u3 f s = f s.1 s.2.1 s.2.2 := (rfl)
def x_nx3 {A : An} {α0 α1 α2 : Type} {f : α0 → α1 → α2 → PEnv} {ρ : PEnv} (a0 : α0) (a1 : α1) (a2 : α2) (h : ρ = f a0 a1 a2) : Gm (AB A (u3 f)) (SB.nx ρ) := ⟨.nx (a0, a1, a2), congrArg SB.nx h⟩
def x_bk3 {A : An} {α0 α1 α2 : Type} {f : α0 → α1 → α2 → PEnv} {ρ : PEnv} (a0 : α0) (a1 : α1) (a2 : α2) (h : ρ = f a0 a1 a2) : Gm (AB A (u3 f)) (SB.bk ρ) := ⟨.bk (a0, a1, a2), congrArg SB.bk h⟩
def x_sk3 {A : An} {γ : Type} [Ty γ] {α0 α1 α2 : Type} {f : α0 → α1 → α2 → PEnv} {ρ : PEnv} (a0 : α0) (a1 : α1) (a2 : α2) (h : ρ = f a0 a1 a2) : Gm (AS A γ (u3 f)) (SC.sk ρ) := ⟨.sk (a0, a1, a2), congrArg SC.sk h⟩
def x_ad3 {A : An} {γ : Type} [Ty γ] {α0 α1 α2 : Type} {f : α0 → α1 → α2 → PEnv} {ρ : PEnv} {d : PyData} (v : γ) (a0 : α0) (a1 : α1) (a2 : α2) (hd : d = inj v) (h : ρ = f a0 a1 a2) : Gm (AS A γ (u3 f)) (SC.ad d ρ) := ⟨.ad v (a0, a1, a2), by rw [hd, h]; rfl⟩
def x_for3 {A : An} {β : Type} [Ty β] {α0 α1 α2 : Type} {K : Kn A.C} {k : PEnv → SR} {g : PyData → PEnv → Option PEnv} {f : PEnv → SR} {ρ0 : PEnv} {xs : List β}
    (p : Pos) (e : PEnv → α0 → α1 → α2 → PEnv) (a0 : α0) (a1 : α1) (a2 : α2) (h0 : ρ0 = e ρ0 a0 a1 a2)
    (B : ∀ (s : α0 × α1 × α2) (x : β), Gm (AB A (u3 (e ρ0))) (osG (SB.fin K.no) (g (inj x) (u3 (e ρ0) s)) fun ρ1 => fin (turnK K) (f ρ1)))
    (D : ∀ s, Gm A (fin K (k (u3 (e ρ0) s)))) : Gm A (fin K (sq (forQ p g f (xs.map Ty.inj) ρ0) k)) := x_for p (fun ρ => u3 (e ρ)) (a0, a1, a2) h0 B D
def x_while3 {A : An} {α0 α1 α2 : Type} {K : Kn A.C} {k : PEnv → SR} {c : PEnv → R Bool} {f : PEnv → SR} {ρ0 : PEnv} {W : Nat}
    (p : Pos) (e : PEnv → α0 → α1 → α2 → PEnv) (a0 : α0) (a1 : α1) (a2 : α2) (h0 : ρ0 = e ρ0 a0 a1 a2)
    (B : ∀ s : α0 × α1 × α2, Gm (AB A (u3 (e ρ0))) (finR (SB.fin K.no) (fun x ρ => SB.fin (K.ex x ρ)) (c (u3 (e ρ0) s)) fun b ρ1 => if b = true then fin (turnK K) (f ρ1) else SB.bk ρ1))
    (D : ∀ s, Gm A (fin K (k (u3 (e ρ0) s)))) (hn : K.no = A.no := by rfl) : Gm A (fin K (sq (whileQ p c f W ρ0) k)) := x_while p (fun ρ => u3 (e ρ)) (a0, a1, a2) h0 B D hn
def x_comp3 {A : An} {β γ : Type} [Ty β] [Ty γ] {α0 α1 α2 : Type} {no : A.C} {xc : Exn → PEnv → A.C} {k : List PyData → PEnv → A.C} {g : PyData → PEnv → Option PEnv} {c : PEnv → R Bool} {f : PEnv → R PyData} {vs : List Nat} {ρ0 : PEnv} {xs : List β}
    (p : Pos) (e : PEnv → α0 → α1 → α2 → PEnv) (a0 : α0) (a1 : α1) (a2 : α2) (h0 : ρ0 = e ρ0 a0 a1 a2)
    (B : ∀ (s : α0 × α1 × α2) (x : β), Gm (AS A γ (u3 (e ρ0))) (osG (SC.fin no) (g (inj x) (wipeP (u3 (e ρ0) s) vs)) fun ρ1 => finR (SC.fin no) (fun x ρ => SC.fin (xc x ρ)) (c ρ1) fun b ρ2 => if b = true then finR (SC.fin no) (fun x ρ => SC.fin (xc x ρ)) (f ρ2) fun v ρ3 => SC.ad v (wipeP ρ3 vs) else SC.sk (wipeP ρ2 vs)))
    (D : ∀ (ds : List γ) s, Gm A (k (ds.map Ty.inj) (u3 (e ρ0) s))) (hn : no = A.no := by rfl) : Gm A (finR no xc (compQ p g c f vs (xs.map Ty.inj) [] ρ0) k) := x_comp p (fun ρ => u3 (e ρ)) (a0, a1, a2) h0 B D hn
def x_join3 {A : An} {α0 α1 α2 : Type} {K : Kn A.C} {k : PEnv → SR} {b : Bool} {t u : SR} {ρ0 : PEnv} (p : Pos) (e : PEnv → α0 → α1 → α2 → PEnv)
    (T : Gm (AB A (u3 (e ρ0))) (fin (joinK K) t)) (U : Gm (AB A (u3 (e ρ0))) (fin (joinK K) u)) (D : ∀ s : α0 × α1 × α2, Gm A (fin K (k (u3 (e ρ0) s)))) : Gm A (fin K (sq (ifQ p ρ0 b t u) k)) := x_join p (fun ρ => u3 (e ρ)) T U D
def x_ieJ3 {A : An} {α0 α1 α2 : Type} {no : A.C} {x : Exn → PEnv → A.C} {k : VR → PEnv → A.C} {b : Bool} {t u : R VR} {ρ0 : PEnv} (p : Pos) (γ : Type) [Ty γ] (fr : Bool) (e : PEnv → α0 → α1 → α2 → PEnv)
    (T : Gm (AS A γ (u3 (e ρ0))) (finR (SC.fin no) (fun x' ρ => SC.fin (x x' ρ)) t fun v ρ' => if v.2 = fr then SC.ad v.1 ρ' else SC.bad))
    (U : Gm (AS A γ (u3 (e ρ0))) (finR (SC.fin no) (fun x' ρ => SC.fin (x x' ρ)) u fun v ρ' => if v.2 = fr then SC.ad v.1 ρ' else SC.bad))
    (D : ∀ (v : γ) (s : α0 × α1 × α2), Gm A (k (inj v, fr) (u3 (e ρ0) s))) : Gm A (finR no x (ieQ p ρ0 b t u) k) := x_ieJ p γ fr (fun ρ => u3 (e ρ)) T U D
def u4 {α0 α1 α2 α3 : Type} (f : α0 → α1 → α2 → α3 → PEnv) (s : α0 × α1 × α2 × α3) : PEnv := f s.1 s.2.1 s.2.2.1 s.2.2.2
theorem u4_eq {α0 α1 α2 α3 : Type} {f : α0 → α1 → α2 → α3 → PEnv} {s : α0 × α1 × α2 × α3} : u4 f s = f s.1 s.2.1 s.2.2.1 s.2.2.2 := (rfl)
def x_nx4 {A : An} {α0 α1 α2 α3 : Type} {f : α0 → α1 → α2 → α3 → PEnv} {ρ : PEnv} (a0 : α0) (a1 : α1) (a2 : α2) (a3 : α3) (h : ρ = f a0 a1 a2 a3) : Gm (AB A (u4 f)) (SB.nx ρ) := ⟨.nx (a0, a1, a2, a3), congrArg SB.nx h⟩
def x_bk4 {A : An} {α0 α1 α2 α3 : Type} {f : α0 → α1 → α2 → α3 → PEnv} {ρ : PEnv} (a0 : α0) (a1 : α1) (a2 : α2) (a3 : α3) (h : ρ = f a0 a1 a2 a3) : Gm (AB A (u4 f)) (SB.bk ρ) := ⟨.bk (a0, a1, a2, a3), congrArg SB.bk h⟩
def x_sk4 {A : An} {γ : Type} [Ty γ] {α0 α1 α2 α3 : Type} {f : α0 → α1 → α2 → α3 → PEnv} {ρ : PEnv} (a0 : α0) (a1 : α1) (a2 : α2) (a3 : α3) (h : ρ = f a0 a1 a2 a3) : Gm (AS A γ (u4 f)) (SC.sk ρ) := ⟨.sk (a0, a1, a2, a3), congrArg SC.sk h⟩
def x_ad4 {A : An} {γ : Type} [Ty γ] {α0 α1 α2 α3 : Type} {f : α0 → α1 → α2 → α3 → PEnv} {ρ : PEnv} {d : PyData} (v : γ) (a0 : α0) (a1 : α1) (a2 : α2) (a3 : α3) (hd : d = inj v) (h : ρ = f a0 a1 a2 a3) : Gm (AS A γ (u4 f)) (SC.ad d ρ) := ⟨.ad v (a0, a1, a2, a3), by rw [hd, h]; rfl⟩
def x_for4 {A : An} {β : Type} [Ty β] {α0 α1 α2 α3 : Type} {K : Kn A.C} {k : PEnv → SR} {g : PyData → PEnv → Option PEnv} {f : PEnv → SR} {ρ0 : PEnv} {xs : List β}
    (p : Pos) (e : PEnv → α0 → α1 → α2 → α3 → PEnv) (a0 : α0) (a1 : α1) (a2 : α2) (a3 : α3) (h0 : ρ0 = e ρ0 a0 a1 a2 a3)
    (B : ∀ (s : α0 × α1 × α2 × α3) (x : β), Gm (AB A (u4 (e ρ0))) (osG (SB.fin K.no) (g (inj x) (u4 (e ρ0) s)) fun ρ1 => fin (turnK K) (f ρ1)))
    (D : ∀ s, Gm A (fin K (k (u4 (e ρ0) s)))) : Gm A (fin K (sq (forQ p g f (xs.map Ty.inj) ρ0) k)) := x_for p (fun ρ => u4 (e ρ)) (a0, a1, a2, a3) h0 B D
def x_while4 {A : An} {α0 α1 α2 α3 : Type} {K : Kn A.C} {k : PEnv → SR} {c : PEnv → R Bool} {f : PEnv → SR} {ρ0 : PEnv} {W : Nat}
    (p : Pos) (e : PEnv → α0 → α1 → α2 → α3 → PEnv) (a0 : α0) (a1 : α1) (a2 : α2) (a3 : α3) (h0 : ρ0 = e ρ0 a0 a1 a2 a3)
    (B : ∀ s : α0 × α1 × α2 × α3, Gm (AB A (u4 (e ρ0))) (finR (SB.fin K.no) (fun x ρ => SB.fin (K.ex x ρ)) (c (u4 (e ρ0) s)) fun b ρ1 => if b = true then fin (turnK K) (f ρ1) else SB.bk ρ1))
    (D : ∀ s, Gm A (fin K (k (u4 (e ρ0) s)))) (hn : K.no = A.no := by rfl) : Gm A (fin K (sq (whileQ p c f W ρ0) k)) := x_while p (fun ρ => u4 (e ρ)) (a0, a1, a2, a3) h0 B D hn
def x_comp4 {A : An} {β γ : Type} [Ty β] [Ty γ] {α0 α1 α2 α3 : Type} {no : A.C} {xc : Exn → PEnv → A.C} {k : List PyData → PEnv → A.C} {g : PyData → PEnv → Option PEnv} {c : PEnv → R Bool} {f : PEnv → R PyData} {vs : List Nat} {ρ0 : PEnv} {xs : List β}
    (p : Pos) (e : PEnv → α0 → α1 → α2 → α3 → PEnv) (a0 : α0) (a1 : α1) (a2 : α2) (a3 : α3) (h0 : ρ0 = e ρ0 a0 a1 a2 a3)
    (B : ∀ (s : α0 × α1 × α2 × α3) (x : β), Gm (AS A γ (u4 (e ρ0))) (osG (SC.fin no) (g (inj x) (wipeP (u4 (e ρ0) s) vs)) fun ρ1 => finR (SC.fin no) (fun x ρ => SC.fin (xc x ρ)) (c ρ1) fun b ρ2 => if b = true then finR (SC.fin no) (fun x ρ => SC.fin (xc x ρ)) (f ρ2) fun v ρ3 => SC.ad v (wipeP ρ3 vs) else SC.sk (wipeP ρ2 vs)))
    (D : ∀ (ds : List γ) s, Gm A (k (ds.map Ty.inj) (u4 (e ρ0) s))) (hn : no = A.no := by rfl) : Gm A (finR no xc (compQ p g c f vs (xs.map Ty.inj) [] ρ0) k) := x_comp p (fun ρ => u4 (e ρ)) (a0, a1, a2, a3) h0 B D hn
def x_join4 {A : An} {α0 α1 α2 α3 : Type} {K : Kn A.C} {k : PEnv → SR} {b : Bool} {t u : SR} {ρ0 : PEnv} (p : Pos) (e : PEnv → α0 → α1 → α2 → α3 → PEnv)
    (T : Gm (AB A (u4 (e ρ0))) (fin (joinK K) t)) (U : Gm (AB A (u4 (e ρ0))) (fin (joinK K) u)) (D : ∀ s : α0 × α1 × α2 × α3, Gm A (fin K (k (u4 (e ρ0) s)))) : Gm A (fin K (sq (ifQ p ρ0 b t u) k)) := x_join p (fun ρ => u4 (e ρ)) T U D
def x_ieJ4 {A : An} {α0 α1 α2 α3 : Type} {no : A.C} {x : Exn → PEnv → A.C} {k : VR → PEnv → A.C} {b : Bool} {t u : R VR} {ρ0 : PEnv} (p : Pos) (γ : Type) [Ty γ] (fr : Bool) (e : PEnv → α0 → α1 → α2 → α3 → PEnv)
    (T : Gm (AS A γ (u4 (e ρ0))) (finR (SC.fin no) (fun x' ρ => SC.fin (x x' ρ)) t fun v ρ' => if v.2 = fr then SC.ad v.1 ρ' else SC.bad))
    (U : Gm (AS A γ (u4 (e ρ0))) (finR (SC.fin no) (fun x' ρ => SC.fin (x x' ρ)) u fun v ρ' => if v.2 = fr then SC.ad v.1 ρ' else SC.bad))
    (D : ∀ (v : γ) (s : α0 × α1 × α2 × α3), Gm A (k (inj v, fr) (u4 (e ρ0) s))) : Gm A (finR no x (ieQ p ρ0 b t u) k) := x_ieJ p γ fr (fun ρ => u4 (e ρ)) T U D
def u5 {α0 α1 α2 α3 α4 : Type} (f : α0 → α1 → α2 → α3 → α4 → PEnv) (s : α0 × α1 × α2 × α3 × α4) : PEnv := f s.1 s.2.1 s.2.2.1 s.2.2.2.1 s.2.2.2.2
theorem u5_eq {α0 α1 α2 α3 α4 : Type} {f : α0 → α1 → α2 → α3 → α4 → PEnv} {s : α0 × α1 × α2 × α3 × α4} : u5 f s = f s.1 s.2.1 s.2.2.1 s.2.2.2.1 s.2.2.2.2 := (rfl)
def x_nx5 {A : An} {α0 α1 α2 α3 α4 : Type} {f : α0 → α1 → α2 → α3 → α4 → PEnv} {ρ : PEnv} (a0 : α0) (a1 : α1) (a2 : α2) (a3 : α3) (a4 : α4) (h : ρ = f a0 a1 a2 a3 a4) : Gm (AB A (u5 f)) (SB.nx ρ) := ⟨.nx (a0, a1, a2, a3, a4), congrArg SB.nx h⟩
def x_bk5 {A : An} {α0 α1 α2 α3 α4 : Type} {f : α0 → α1 → α2 → α3 → α4 → PEnv} {ρ : PEnv} (a0 : α0) (a1 : α1) (a2 : α2) (a3 : α3) (a4 : α4) (h : ρ = f a0 a1 a2 a3 a4) : Gm (AB A (u5 f)) (SB.bk ρ) := ⟨.bk (a0, a1, a2, a3, a4), congrArg SB.bk h⟩
def x_sk5 {A : An} {γ : Type} [Ty γ] {α0 α1 α2 α3 α4 : Type} {f : α0 → α1 → α2 → α3 → α4 → PEnv} {ρ : PEnv} (a0 : α0) (a1 : α1) (a2 : α2) (a3 : α3) (a4 : α4) (h : ρ = f a0 a1 a2 a3 a4) : Gm (AS A γ (u5 f)) (SC.sk ρ) := ⟨.sk (a0, a1, a2, a3, a4), congrArg SC.sk h⟩
def x_ad5 {A : An} {γ : Type} [Ty γ] {α0 α1 α2 α3 α4 : Type} {f : α0 → α1 → α2 → α3 → α4 → PEnv} {ρ : PEnv} {d : PyData} (v : γ) (a0 : α0) (a1 : α1) (a2 : α2) (a3 : α3) (a4 : α4) (hd : d = inj v) (h : ρ = f a0 a1 a2 a3 a4) : Gm (AS A γ (u5 f)) (SC.ad d ρ) := ⟨.ad v (a0, a1, a2, a3, a4), by rw [hd, h]; rfl⟩
def x_for5 {A : An} {β : Type} [Ty β] {α0 α1 α2 α3 α4 : Type} {K : Kn A.C} {k : PEnv → SR} {g : PyData → PEnv → Option PEnv} {f : PEnv → SR} {ρ0 : PEnv} {xs : List β}
    (p : Pos) (e : PEnv → α0 → α1 → α2 → α3 → α4 → PEnv) (a0 : α0) (a1 : α1) (a2 : α2) (a3 : α3) (a4 : α4) (h0 : ρ0 = e ρ0 a0 a1 a2 a3 a4)
    (B : ∀ (s : α0 × α1 × α2 × α3 × α4) (x : β), Gm (AB A (u5 (e ρ0))) (osG (SB.fin K.no) (g (inj x) (u5 (e ρ0) s)) fun ρ1 => fin (turnK K) (f ρ1)))
    (D : ∀ s, Gm A (fin K (k (u5 (e ρ0) s)))) : Gm A (fin K (sq (forQ p g f (xs.map Ty.inj) ρ0) k)) := x_for p (fun ρ => u5 (e ρ)) (a0, a1, a2, a3, a4) h0 B D
def x_while5 {A : An} {α0 α1 α2 α3 α4 : Type} {K : Kn A.C} {k : PEnv → SR} {c : PEnv → R Bool} {f : PEnv → SR} {ρ0 : PEnv} {W : Nat}
    (p : Pos) (e : PEnv → α0 → α1 → α2 → α3 → α4 → PEnv) (a0 : α0) (a1 : α1) (a2 : α2) (a3 : α3) (a4 : α4) (h0 : ρ0 = e ρ0 a0 a1 a2 a3 a4)
    (B : ∀ s : α0 × α1 × α2 × α3 × α4, Gm (AB A (u5 (e ρ0))) (finR (SB.fin K.no) (fun x ρ => SB.fin (K.ex x ρ)) (c (u5 (e ρ0) s)) fun b ρ1 => if b = true then fin (turnK K) (f ρ1) else SB.bk ρ1))
    (D : ∀ s, Gm A (fin K (k (u5 (e ρ0) s)))) (hn : K.no = A.no := by rfl) : Gm A (fin K (sq (whileQ p c f W ρ0) k)) := x_while p (fun ρ => u5 (e ρ)) (a0, a1, a2, a3, a4) h0 B D hn
def x_comp5 {A : An} {β γ : Type} [Ty β] [Ty γ] {α0 α1 α2 α3 α4 : Type} {no : A.C} {xc : Exn → PEnv → A.C} {k : List PyData → PEnv → A.C} {g : PyData → PEnv → Option PEnv} {c : PEnv → R Bool} {f : PEnv → R PyData} {vs : List Nat} {ρ0 : PEnv} {xs : List β}
    (p : Pos) (e : PEnv → α0 → α1 → α2 → α3 → α4 → PEnv) (a0 : α0) (a1 : α1) (a2 : α2) (a3 : α3) (a4 : α4) (h0 : ρ0 = e ρ0 a0 a1 a2 a3 a4)
    (B : ∀ (s : α0 × α1 × α2 × α3 × α4) (x : β), Gm (AS A γ (u5 (e ρ0))) (osG (SC.fin no) (g (inj x) (wipeP (u5 (e ρ0) s) vs)) fun ρ1 => finR (SC.fin no) (fun x ρ => SC.fin (xc x ρ)) (c ρ1) fun b ρ2 => if b = true then finR (SC.fin no) (fun x ρ => SC.fin (xc x ρ)) (f ρ2) fun v ρ3 => SC.ad v (wipeP ρ3 vs) else SC.sk (wipeP ρ2 vs)))
    (D : ∀ (ds : List γ) s, Gm A (k (ds.map Ty.inj) (u5 (e ρ0) s))) (hn : no = A.no := by rfl) : Gm A (finR no xc (compQ p g c f vs (xs.map Ty.inj) [] ρ0) k) := x_comp p (fun ρ => u5 (e ρ)) (a0, a1, a2, a3, a4) h0 B D hn
def x_join5 {A : An} {α0 α1 α2 α3 α4 : Type} {K : Kn A.C} {k : PEnv → SR} {b : Bool} {t u : SR} {ρ0 : PEnv} (p : Pos) (e : PEnv → α0 → α1 → α2 → α3 → α4 → PEnv)
    (T : Gm (AB A (u5 (e ρ0))) (fin (joinK K) t)) (U : Gm (AB A (u5 (e ρ0))) (fin (joinK K) u)) (D : ∀ s : α0 × α1 × α2 × α3 × α4, Gm A (fin K (k (u5 (e ρ0) s)))) : Gm A (fin K (sq (ifQ p ρ0 b t u) k)) := x_join p (fun ρ => u5 (e ρ)) T U D
def x_ieJ5 {A : An} {α0 α1 α2 α3 α4 : Type} {no : A.C} {x : Exn → PEnv → A.C} {k : VR → PEnv → A.C} {b : Bool} {t u : R VR} {ρ0 : PEnv} (p : Pos) (γ : Type) [Ty γ] (fr : Bool) (e : PEnv → α0 → α1 → α2 → α3 → α4 → PEnv)
    (T : Gm (AS A γ (u5 (e ρ0))) (finR (SC.fin no) (fun x' ρ => SC.fin (x x' ρ)) t fun v ρ' => if v.2 = fr then SC.ad v.1 ρ' else SC.bad))
    (U : Gm (AS A γ (u5 (e ρ0))) (finR (SC.fin no) (fun x' ρ => SC.fin (x x' ρ)) u fun v ρ' => if v.2 = fr then SC.ad v.1 ρ' else SC.bad))
    (D : ∀ (v : γ) (s : α0 × α1 × α2 × α3 × α4), Gm A (k (inj v, fr) (u5 (e ρ0) s))) : Gm A (finR no x (ieQ p ρ0 b t u) k) := x_ieJ p γ fr (fun ρ => u5 (e ρ)) T U D
def u6 {α0 α1 α2 α3 α4 α5 : Type} (f : α0 → α1 → α2 → α3 → α4 → α5 → PEnv) (s : α0 × α1 × α2 × α3 × α4 × α5) : PEnv := f s.1 s.2.1 s.2.2.1 s.2.2.2.1 s.2.2.2.2.1 s.2.2.2.2.2
theorem u6_eq {α0 α1 α2 α3 α4 α5 : Type} {f : α0 → α1 → α2 → α3 → α4 → α5 → PEnv} {s : α0 × α1 × α2 × α3 × α4 × α5} : u6 f s = f s.1 s.2.1 s.2.2.1 s.2.2.2.1 s.2.2.2.2.1 s.2.2.2.2.2 := (rfl)
def x_nx6 {A : An} {α0 α1 α2 α3 α4 α5 : Type} {f : α0 → α1 → α2 → α3 → α4 → α5 → PEnv} {ρ : PEnv} (a0 : α0) (a1 : α1) (a2 : α2) (a3 : α3) (a4 : α4) (a5 : α5) (h : ρ = f a0 a1 a2 a3 a4 a5) : Gm (AB A (u6 f)) (SB.nx ρ) := ⟨.nx (a0, a1, a2, a3, a4, a5), congrArg SB.nx h⟩
def x_bk6 {A : An} {α0 α1 α2 α3 α4 α5 : Type} {f : α0 → α1 → α2 → α3 → α4 → α5 → PEnv} {ρ : PEnv} (a0 : α0) (a1 : α1) (a2 : α2) (a3 : α3) (a4 : α4) (a5 : α5) (h : ρ = f a0 a1 a2 a3 a4 a5) : Gm (AB A (u6 f)) (SB.bk ρ) := ⟨.bk (a0, a1, a2, a3, a4, a5), congrArg SB.bk h⟩
def x_sk6 {A : An} {γ : Type} [Ty γ] {α0 α1 α2 α3 α4 α5 : Type} {f : α0 → α1 → α2 → α3 → α4 → α5 → PEnv} {ρ : PEnv} (a0 : α0) (a1 : α1) (a2 : α2) (a3 : α3) (a4 : α4) (a5 : α5) (h : ρ = f a0 a1 a2 a3 a4 a5) : Gm (AS A γ (u6 f)) (SC.sk ρ) := ⟨.sk (a0, a1, a2, a3, a4, a5), congrArg SC.sk h⟩
def x_ad6 {A : An} {γ : Type} [Ty γ] {α0 α1 α2 α3 α4 α5 : Type} {f : α0 → α1 → α2 → α3 → α4 → α5 → PEnv} {ρ : PEnv} {d : PyData} (v : γ) (a0 : α0) (a1 : α1) (a2 : α2) (a3 : α3) (a4 : α4) (a5 : α5) (hd : d = inj v) (h : ρ = f a0 a1 a2 a3 a4 a5) : Gm (AS A γ (u6 f)) (SC.ad d ρ) := ⟨.ad v (a0, a1, a2, a3, a4, a5), by rw [hd, h]; rfl⟩
def x_for6 {A : An} {β : Type} [Ty β] {α0 α1 α2 α3 α4 α5 : Type} {K : Kn A.C} {k : PEnv → SR} {g : PyData → PEnv → Option PEnv} {f : PEnv → SR} {ρ0 : PEnv} {xs : List β}
    (p : Pos) (e : PEnv → α0 → α1 → α2 → α3 → α4 → α5 → PEnv) (a0 : α0) (a1 : α1) (a2 : α2) (a3 : α3) (a4 : α4) (a5 : α5) (h0 : ρ0 = e ρ0 a0 a1 a2 a3 a4 a5)
    (B : ∀ (s : α0 × α1 × α2 × α3 × α4 × α5) (x : β), Gm (AB A (u6 (e ρ0))) (osG (SB.fin K.no) (g (inj x) (u6 (e ρ0) s)) fun ρ1 => fin (turnK K) (f ρ1)))
    (D : ∀ s, Gm A (fin K (k (u6 (e ρ0) s)))) : Gm A (fin K (sq (forQ p g f (xs.map Ty.inj) ρ0) k)) := x_for p (fun ρ => u6 (e ρ)) (a0, a1, a2, a3, a4, a5) h0 B D
def x_while6 {A : An} {α0 α1 α2 α3 α4 α5 : Type} {K : Kn A.C} {k : PEnv → SR} {c : PEnv → R Bool} {f : PEnv → SR} {ρ0 : PEnv} {W : Nat}
    (p : Pos) (e : PEnv → α0 → α1 → α2 → α3 → α4 → α5 → PEnv) (a0 : α0) (a1 : α1) (a2 : α2) (a3 : α3) (a4 : α4) (a5 : α5) (h0 : ρ0 = e ρ0 a0 a1 a2 a3 a4 a5)
    (B : ∀ s : α0 × α1 × α2 × α3 × α4 × α5, Gm (AB A (u6 (e ρ0))) (finR (SB.fin K.no) (fun x ρ => SB.fin (K.ex x ρ)) (c (u6 (e ρ0) s)) fun b ρ1 => if b = true then fin (turnK K) (f ρ1) else SB.bk ρ1))
    (D : ∀ s, Gm A (fin K (k (u6 (e ρ0) s)))) (hn : K.no = A.no := by rfl) : Gm A (fin K (sq (whileQ p c f W ρ0) k)) := x_while p (fun ρ => u6 (e ρ)) (a0, a1, a2, a3, a4, a5) h0 B D hn
def x_comp6 {A : An} {β γ : Type} [Ty β] [Ty γ] {α0 α1 α2 α3 α4 α5 : Type} {no : A.C} {xc : Exn → PEnv → A.C} {k : List PyData → PEnv → A.C} {g : PyData → PEnv → Option PEnv} {c : PEnv → R Bool} {f : PEnv → R PyData} {vs : List Nat} {ρ0 : PEnv} {xs : List β}
    (p : Pos) (e : PEnv → α0 → α1 → α2 → α3 → α4 → α5 → PEnv) (a0 : α0) (a1 : α1) (a2 : α2) (a3 : α3) (a4 : α4) (a5 : α5) (h0 : ρ0 = e ρ0 a0 a1 a2 a3 a4 a5)
    (B : ∀ (s : α0 × α1 × α2 × α3 × α4 × α5) (x : β), Gm (AS A γ (u6 (e ρ0))) (osG (SC.fin no) (g (inj x) (wipeP (u6 (e ρ0) s) vs)) fun ρ1 => finR (SC.fin no) (fun x ρ => SC.fin (xc x ρ)) (c ρ1) fun b ρ2 => if b = true then finR (SC.fin no) (fun x ρ => SC.fin (xc x ρ)) (f ρ2) fun v ρ3 => SC.ad v (wipeP ρ3 vs) else SC.sk (wipeP ρ2 vs)))
    (D : ∀ (ds : List γ) s, Gm A (k (ds.map Ty.inj) (u6 (e ρ0) s))) (hn : no = A.no := by rfl) : Gm A (finR no xc (compQ p g c f vs (xs.map Ty.inj) [] ρ0) k) := x_comp p (fun ρ => u6 (e ρ)) (a0, a1, a2, a3, a4, a5) h0 B D hn
def x_join6 {A : An} {α0 α1 α2 α3 α4 α5 : Type} {K : Kn A.C} {k : PEnv → SR} {b : Bool} {t u : SR} {ρ0 : PEnv} (p : Pos) (e : PEnv → α0 → α1 → α2 → α3 → α4 → α5 → PEnv)
    (T : Gm (AB A (u6 (e ρ0))) (fin (joinK K) t)) (U : Gm (AB A (u6 (e ρ0))) (fin (joinK K) u)) (D : ∀ s : α0 × α1 × α2 × α3 × α4 × α5, Gm A (fin K (k (u6 (e ρ0) s)))) : Gm A (fin K (sq (ifQ p ρ0 b t u) k)) := x_join p (fun ρ => u6 (e ρ)) T U D
def x_ieJ6 {A : An} {α0 α1 α2 α3 α4 α5 : Type} {no : A.C} {x : Exn → PEnv → A.C} {k : VR → PEnv → A.C} {b : Bool} {t u : R VR} {ρ0 : PEnv} (p : Pos) (γ : Type) [Ty γ] (fr : Bool) (e : PEnv → α0 → α1 → α2 → α3 → α4 → α5 → PEnv)
    (T : Gm (AS A γ (u6 (e ρ0))) (finR (SC.fin no) (fun x' ρ => SC.fin (x x' ρ)) t fun v ρ' => if v.2 = fr then SC.ad v.1 ρ' else SC.bad))
    (U : Gm (AS A γ (u6 (e ρ0))) (finR (SC.fin no) (fun x' ρ => SC.fin (x x' ρ)) u fun v ρ' => if v.2 = fr then SC.ad v.1 ρ' else SC.bad))
    (D : ∀ (v : γ) (s : α0 × α1 × α2 × α3 × α4 × α5), Gm A (k (inj v, fr) (u6 (e ρ0) s))) : Gm A (finR no x (ieQ p ρ0 b t u) k) := x_ieJ p γ fr (fun ρ => u6 (e ρ)) T U D
def u7 {α0 α1 α2 α3 α4 α5 α6 : Type} (f : α0 → α1 → α2 → α3 → α4 → α5 → α6 → PEnv) (s : α0 × α1 × α2 × α3 × α4 × α5 × α6) : PEnv := f s.1 s.2.1 s.2.2.1 s.2.2.2.1 s.2.2.2.2.1 s.2.2.2.2.2.1 s.2.2.2.2.2.2
theorem u7_eq {α0 α1 α2 α3 α4 α5 α6 : Type} {f : α0 → α1 → α2 → α3 → α4 → α5 → α6 → PEnv} {s : α0 × α1 × α2 × α3 × α4 × α5 × α6} : u7 f s = f s.1 s.2.1 s.2.2.1 s.2.2.2.1 s.2.2.2.2.1 s.2.2.2.2.2.1 s.2.2.2.2.2.2 := (rfl)
def x_nx7 {A : An} {α0 α1 α2 α3 α4 α5 α6 : Type} {f : α0 → α1 → α2 → α3 → α4 → α5 → α6 → PEnv} {ρ : PEnv} (a0 : α0) (a1 : α1) (a2 : α2) (a3 : α3) (a4 : α4) (a5 : α5) (a6 : α6) (h : ρ = f a0 a1 a2 a3 a4 a5 a6) : Gm (AB A (u7 f)) (SB.nx ρ) := ⟨.nx (a0, a1, a2, a3, a4, a5, a6), congrArg SB.nx h⟩
def x_bk7 {A : An} {α0 α1 α2 α3 α4 α5 α6 : Type} {f : α0 → α1 → α2 → α3 → α4 → α5 → α6 → PEnv} {ρ : PEnv} (a0 : α0) (a1 : α1) (a2 : α2) (a3 : α3) (a4 : α4) (a5 : α5) (a6 : α6) (h : ρ = f a0 a1 a2 a3 a4 a5 a6) : Gm (AB A (u7 f)) (SB.bk ρ) := ⟨.bk (a0, a1, a2, a3, a4, a5, a6), congrArg SB.bk h⟩
def x_sk7 {A : An} {γ : Type} [Ty γ] {α0 α1 α2 α3 α4 α5 α6 : Type} {f : α0 → α1 → α2 → α3 → α4 → α5 → α6 → PEnv} {ρ : PEnv} (a0 : α0) (a1 : α1) (a2 : α2) (a3 : α3) (a4 : α4) (a5 : α5) (a6 : α6) (h : ρ = f a0 a1 a2 a3 a4 a5 a6) : Gm (AS A γ (u7 f)) (SC.sk ρ) := ⟨.sk (a0, a1, a2, a3, a4, a5, a6), congrArg SC.sk h⟩
def x_ad7 {A : An} {γ : Type} [Ty γ] {α0 α1 α2 α3 α4 α5 α6 : Type} {f : α0 → α1 → α2 → α3 → α4 → α5 → α6 → PEnv} {ρ : PEnv} {d : PyData} (v : γ) (a0 : α0) (a1 : α1) (a2 : α2) (a3 : α3) (a4 : α4) (a5 : α5) (a6 : α6) (hd : d = inj v) (h : ρ = f a0 a1 a2 a3 a4 a5 a6) : Gm (AS A γ (u7 f)) (SC.ad d ρ) := ⟨.ad v (a0, a1, a2, a3, a4, a5, a6), by rw [hd, h]; rfl⟩
def x_for7 {A : An} {β : Type} [Ty β] {α0 α1 α2 α3 α4 α5 α6 : Type} {K : Kn A.C} {k : PEnv → SR} {g : PyData → PEnv → Option PEnv} {f : PEnv → SR} {ρ0 : PEnv} {xs : List β}
    (p : Pos) (e : PEnv → α0 → α1 → α2 → α3 → α4 → α5 → α6 → PEnv) (a0 : α0) (a1 : α1) (a2 : α2) (a3 : α3) (a4 : α4) (a5 : α5) (a6 : α6) (h0 : ρ0 = e ρ0 a0 a1 a2 a3 a4 a5 a6)
    (B : ∀ (s : α0 × α1 × α2 × α3 × α4 × α5 × α6) (x : β), Gm (AB A (u7 (e ρ0))) (osG (SB.fin K.no) (g (inj x) (u7 (e ρ0) s)) fun ρ1 => fin (turnK K) (f ρ1)))
    (D : ∀ s, Gm A (fin K (k (u7 (e ρ0) s)))) : Gm A (fin K (sq (forQ p g f (xs.map Ty.inj) ρ0) k)) := x_for p (fun ρ => u7 (e ρ)) (a0, a1, a2, a3, a4, a5, a6) h0 B D
def x_while7 {A : An} {α0 α1 α2 α3 α4 α5 α6 : Type} {K : Kn A.C} {k : PEnv → SR} {c : PEnv → R Bool} {f : PEnv → SR} {ρ0 : PEnv} {W : Nat}
    (p : Pos) (e : PEnv → α0 → α1 → α2 → α3 → α4 → α5 → α6 → PEnv) (a0 : α0) (a1 : α1) (a2 : α2) (a3 : α3) (a4 : α4) (a5 : α5) (a6 : α6) (h0 : ρ0 = e ρ0 a0 a1 a2 a3 a4 a5 a6)
    (B : ∀ s : α0 × α1 × α2 × α3 × α4 × α5 × α6, Gm (AB A (u7 (e ρ0))) (finR (SB.fin K.no) (fun x ρ => SB.fin (K.ex x ρ)) (c (u7 (e ρ0) s)) fun b ρ1 => if b = true then fin (turnK K) (f ρ1) else SB.bk ρ1))
    (D : ∀ s, Gm A (fin K (k (u7 (e ρ0) s)))) (hn : K.no = A.no := by rfl) : Gm A (fin K (sq (whileQ p c f W ρ0) k)) := x_while p (fun ρ => u7 (e ρ)) (a0, a1, a2, a3, a4, a5, a6) h0 B D hn
def x_comp7 {A : An} {β γ : Type} [Ty β] [Ty γ] {α0 α1 α2 α3 α4 α5 α6 : Type} {no : A.C} {xc : Exn → PEnv → A.C} {k : List PyData → PEnv → A.C} {g : PyData → PEnv → Option PEnv} {c : PEnv → R Bool} {f : PEnv → R PyData} {vs : List Nat} {ρ0 : PEnv} {xs : List β}
    (p : Pos) (e : PEnv → α0 → α1 → α2 → α3 → α4 → α5 → α6 → PEnv) (a0 : α0) (a1 : α1) (a2 : α2) (a3 : α3) (a4 : α4) (a5 : α5) (a6 : α6) (h0 : ρ0 = e ρ0 a0 a1 a2 a3 a4 a5 a6)
    (B : ∀ (s : α0 × α1 × α2 × α3 × α4 × α5 × α6) (x : β), Gm (AS A γ (u7 (e ρ0))) (osG (SC.fin no) (g (inj x) (wipeP (u7 (e ρ0) s) vs)) fun ρ1 => finR (SC.fin no) (fun x ρ => SC.fin (xc x ρ)) (c ρ1) fun b ρ2 => if b = true then finR (SC.fin no) (fun x ρ => SC.fin (xc x ρ)) (f ρ2) fun v ρ3 => SC.ad v (wipeP ρ3 vs) else SC.sk (wipeP ρ2 vs)))
    (D : ∀ (ds : List γ) s, Gm A (k (ds.map Ty.inj) (u7 (e ρ0) s))) (hn : no = A.no := by rfl) : Gm A (finR no xc (compQ p g c f vs (xs.map Ty.inj) [] ρ0) k) := x_comp p (fun ρ => u7 (e ρ)) (a0, a1, a2, a3, a4, a5, a6) h0 B D hn
def x_join7 {A : An} {α0 α1 α2 α3 α4 α5 α6 : Type} {K : Kn A.C} {k : PEnv → SR} {b : Bool} {t u : SR} {ρ0 : PEnv} (p : Pos) (e : PEnv → α0 → α1 → α2 → α3 → α4 → α5 → α6 → PEnv)
    (T : Gm (AB A (u7 (e ρ0))) (fin (joinK K) t)) (U : Gm (AB A (u7 (e ρ0))) (fin (joinK K) u)) (D : ∀ s : α0 × α1 × α2 × α3 × α4 × α5 × α6, Gm A (fin K (k (u7 (e ρ0) s)))) : Gm A (fin K (sq (ifQ p ρ0 b t u) k)) := x_join p (fun ρ => u7 (e ρ)) T U D
def x_ieJ7 {A : An} {α0 α1 α2 α3 α4 α5 α6 : Type} {no : A.C} {x : Exn → PEnv → A.C} {k : VR → PEnv → A.C} {b : Bool} {t u : R VR} {ρ0 : PEnv} (p : Pos) (γ : Type) [Ty γ] (fr : Bool) (e : PEnv → α0 → α1 → α2 → α3 → α4 → α5 → α6 → PEnv)
    (T : Gm (AS A γ (u7 (e ρ0))) (finR (SC.fin no) (fun x' ρ => SC.fin (x x' ρ)) t fun v ρ' => if v.2 = fr then SC.ad v.1 ρ' else SC.bad))
    (U : Gm (AS A γ (u7 (e ρ0))) (finR (SC.fin no) (fun x' ρ => SC.fin (x x' ρ)) u fun v ρ' => if v.2 = fr then SC.ad v.1 ρ' else SC.bad))
    (D : ∀ (v : γ) (s : α0 × α1 × α2 × α3 × α4 × α5 × α6), Gm A (k (inj v, fr) (u7 (e ρ0) s))) : Gm A (finR no x (ieQ p ρ0 b t u) k) := x_ieJ p γ fr (fun ρ => u7 (e ρ)) T U D
def u8 {α0 α1 α2 α3 α4 α5 α6 α7 : Type} (f : α0 → α1 → α2 → α3 → α4 → α5 → α6 → α7 → PEnv) (s : α0 × α1 × α2 × α3 × α4 × α5 × α6 × α7) : PEnv := f s.1 s.2.1 s.2.2.1 s.2.2.2.1 s.2.2.2.2.1 s.2.2.2.2.2.1 s.2.2.2.2.2.2.1 s.2.2.2.2.2.2.2
theorem u8_eq {α0 α1 α2 α3 α4 α5 α6 α7 : Type} {f : α0 → α1 → α2 → α3 → α4 → α5 → α6 → α7 → PEnv} {s : α0 × α1 × α2 × α3 × α4 × α5 × α6 × α7} : u8 f s = f s.1 s.2.1 s.2.2.1 s.2.2.2.1 s.2.2.2.2.1 s.2.2.2.2.2.1 s.2.2.2.2.2.2.1 s.2.2.2.2.2.2.2 := (rfl)
def x_nx8 {A : An} {α0 α1 α2 α3 α4 α5 α6 α7 : Type} {f : α0 → α1 → α2 → α3 → α4 → α5 → α6 → α7 → PEnv} {ρ : PEnv} (a0 : α0) (a1 : α1) (a2 : α2) (a3 : α3) (a4 : α4) (a5 : α5) (a6 : α6) (a7 : α7) (h : ρ = f a0 a1 a2 a3 a4 a5 a6 a7) : Gm (AB A (u8 f)) (SB.nx ρ) := ⟨.nx (a0, a1, a2, a3, a4, a5, a6, a7), congrArg SB.nx h⟩
def x_bk8 {A : An} {α0 α1 α2 α3 α4 α5 α6 α7 : Type} {f : α0 → α1 → α2 → α3 → α4 → α5 → α6 → α7 → PEnv} {ρ : PEnv} (a0 : α0) (a1 : α1) (a2 : α2) (a3 : α3) (a4 : α4) (a5 : α5) (a6 : α6) (a7 : α7) (h : ρ = f a0 a1 a2 a3 a4 a5 a6 a7) : Gm (AB A (u8 f)) (SB.bk ρ) := ⟨.bk (a0, a1, a2, a3, a4, a5, a6, a7), congrArg SB.bk h⟩
def x_sk8 {A : An} {γ : Type} [Ty γ] {α0 α1 α2 α3 α4 α5 α6 α7 : Type} {f : α0 → α1 → α2 → α3 → α4 → α5 → α6 → α7 → PEnv} {ρ : PEnv} (a0 : α0) (a1 : α1) (a2 : α2) (a3 : α3) (a4 : α4) (a5 : α5) (a6 : α6) (a7 : α7) (h : ρ = f a0 a1 a2 a3 a4 a5 a6 a7) : Gm (AS A γ (u8 f)) (SC.sk ρ) := ⟨.sk (a0, a1, a2, a3, a4, a5, a6, a7), congrArg SC.sk h⟩
def x_ad8 {A : An} {γ : Type} [Ty γ] {α0 α1 α2 α3 α4 α5 α6 α7 : Type} {f : α0 → α1 → α2 → α3 → α4 → α5 → α6 → α7 → PEnv} {ρ : PEnv} {d : PyData} (v : γ) (a0 : α0) (a1 : α1) (a2 : α2) (a3 : α3) (a4 : α4) (a5 : α5) (a6 : α6) (a7 : α7) (hd : d = inj v) (h : ρ = f a0 a1 a2 a3 a4 a5 a6 a7) : Gm (AS A γ (u8 f)) (SC.ad d ρ) := ⟨.ad v (a0, a1, a2, a3, a4, a5, a6, a7), by rw [hd, h]; rfl⟩
def x_for8 {A : An} {β : Type} [Ty β] {α0 α1 α2 α3 α4 α5 α6 α7 : Type} {K : Kn A.C} {k : PEnv → SR} {g : PyData → PEnv → Option PEnv} {f : PEnv → SR} {ρ0 : PEnv} {xs : List β}
    (p : Pos) (e : PEnv → α0 → α1 → α2 → α3 → α4 → α5 → α6 → α7 → PEnv) (a0 : α0) (a1 : α1) (a2 : α2) (a3 : α3) (a4 : α4) (a5 : α5) (a6 : α6) (a7 : α7) (h0 : ρ0 = e ρ0 a0 a1 a2 a3 a4 a5 a6 a7)
    (B : ∀ (s : α0 × α1 × α2 × α3 × α4 × α5 × α6 × α7) (x : β), Gm (AB A (u8 (e ρ0))) (osG (SB.fin K.no) (g (inj x) (u8 (e ρ0) s)) fun ρ1 => fin (turnK K) (f ρ1)))
    (D : ∀ s, Gm A (fin K (k (u8 (e ρ0) s)))) : Gm A (fin K (sq (forQ p g f (xs.map Ty.inj) ρ0) k)) := x_for p (fun ρ => u8 (e ρ)) (a0, a1, a2, a3, a4, a5, a6, a7) h0 B D
def x_while8 {A : An} {α0 α1 α2 α3 α4 α5 α6 α7 : Type} {K : Kn A.C} {k : PEnv → SR} {c : PEnv → R Bool} {f : PEnv → SR} {ρ0 : PEnv} {W : Nat}
    (p : Pos) (e : PEnv → α0 → α1 → α2 → α3 → α4 → α5 → α6 → α7 → PEnv) (a0 : α0) (a1 : α1) (a2 : α2) (a3 : α3) (a4 : α4) (a5 : α5) (a6 : α6) (a7 : α7) (h0 : ρ0 = e ρ0 a0 a1 a2 a3 a4 a5 a6 a7)
    (B : ∀ s : α0 × α1 × α2 × α3 × α4 × α5 × α6 × α7, Gm (AB A (u8 (e ρ0))) (finR (SB.fin K.no) (fun x ρ => SB.fin (K.ex x ρ)) (c (u8 (e ρ0) s)) fun b ρ1 => if b = true then fin (turnK K) (f ρ1) else SB.bk ρ1))
    (D : ∀ s, Gm A (fin K (k (u8 (e ρ0) s)))) (hn : K.no = A.no := by rfl) : Gm A (fin K (sq (whileQ p c f W ρ0) k)) := x_while p (fun ρ => u8 (e ρ)) (a0, a1, a2, a3, a4, a5, a6, a7) h0 B D hn
def x_comp8 {A : An} {β γ : Type} [Ty β] [Ty γ] {α0 α1 α2 α3 α4 α5 α6 α7 : Type} {no : A.C} {xc : Exn → PEnv → A.C} {k : List PyData → PEnv → A.C} {g : PyData → PEnv → Option PEnv} {c : PEnv → R Bool} {f : PEnv → R PyData} {vs : List Nat} {ρ0 : PEnv} {xs : List β}
    (p : Pos) (e : PEnv → α0 → α1 → α2 → α3 → α4 → α5 → α6 → α7 → PEnv) (a0 : α0) (a1 : α1) (a2 : α2) (a3 : α3) (a4 : α4) (a5 : α5) (a6 : α6) (a7 : α7) (h0 : ρ0 = e ρ0 a0 a1 a2 a3 a4 a5 a6 a7)
    (B : ∀ (s : α0 × α1 × α2 × α3 × α4 × α5 × α6 × α7) (x : β), Gm (AS A γ (u8 (e ρ0))) (osG (SC.fin no) (g (inj x) (wipeP (u8 (e ρ0) s) vs)) fun ρ1 => finR (SC.fin no) (fun x ρ => SC.fin (xc x ρ)) (c ρ1) fun b ρ2 => if b = true then finR (SC.fin no) (fun x ρ => SC.fin (xc x ρ)) (f ρ2) fun v ρ3 => SC.ad v (wipeP ρ3 vs) else SC.sk (wipeP ρ2 vs)))
    (D : ∀ (ds : List γ) s, Gm A (k (ds.map Ty.inj) (u8 (e ρ0) s))) (hn : no = A.no := by rfl) : Gm A (finR no xc (compQ p g c f vs (xs.map Ty.inj) [] ρ0) k) := x_comp p (fun ρ => u8 (e ρ)) (a0, a1, a2, a3, a4, a5, a6, a7) h0 B D hn
def x_join8 {A : An} {α0 α1 α2 α3 α4 α5 α6 α7 : Type} {K : Kn A.C} {k : PEnv → SR} {b : Bool} {t u : SR} {ρ0 : PEnv} (p : Pos) (e : PEnv → α0 → α1 → α2 → α3 → α4 → α5 → α6 → α7 → PEnv)
    (T : Gm (AB A (u8 (e ρ0))) (fin (joinK K) t)) (U : Gm (AB A (u8 (e ρ0))) (fin (joinK K) u)) (D : ∀ s : α0 × α1 × α2 × α3 × α4 × α5 × α6 × α7, Gm A (fin K (k (u8 (e ρ0) s)))) : Gm A (fin K (sq (ifQ p ρ0 b t u) k)) := x_join p (fun ρ => u8 (e ρ)) T U D
def x_ieJ8 {A : An} {α0 α1 α2 α3 α4 α5 α6 α7 : Type} {no : A.C} {x : Exn → PEnv → A.C} {k : VR → PEnv → A.C} {b : Bool} {t u : R VR} {ρ0 : PEnv} (p : Pos) (γ : Type) [Ty γ] (fr : Bool) (e : PEnv → α0 → α1 → α2 → α3 → α4 → α5 → α6 → α7 → PEnv)
    (T : Gm (AS A γ (u8 (e ρ0))) (finR (SC.fin no) (fun x' ρ => SC.fin (x x' ρ)) t fun v ρ' => if v.2 = fr then SC.ad v.1 ρ' else SC.bad))
    (U : Gm (AS A γ (u8 (e ρ0))) (finR (SC.fin no) (fun x' ρ => SC.fin (x x' ρ)) u fun v ρ' => if v.2 = fr then SC.ad v.1 ρ' else SC.bad))
    (D : ∀ (v : γ) (s : α0 × α1 × α2 × α3 × α4 × α5 × α6 × α7), Gm A (k (inj v, fr) (u8 (e ρ0) s))) : Gm A (finR no x (ieQ p ρ0 b t u) k) := x_ieJ p γ fr (fun ρ => u8 (e ρ)) T U D
def u9 {α0 α1 α2 α3 α4 α5 α6 α7 α8 : Type} (f : α0 → α1 → α2 → α3 → α4 → α5 → α6 → α7 → α8 → PEnv) (s : α0 × α1 × α2 × α3 × α4 × α5 × α6 × α7 × α8) : PEnv := f s.1 s.2.1 s.2.2.1 s.2.2.2.1 s.2.2.2.2.1 s.2.2.2.2.2.1 s.2.2.2.2.2.2.1 s.2.2.2.2.2.2.2.1 s.2.2.2.2.2.2.2.2
theorem u9_eq {α0 α1 α2 α3 α4 α5 α6 α7 α8 : Type} {f : α0 → α1 → α2 → α3 → α4 → α5 → α6 → α7 → α8 → PEnv} {s : α0 × α1 × α2 × α3 × α4 × α5 × α6 × α7 × α8} : u9 f s = f s.1 s.2.1 s.2.2.1 s.2.2.2.1 s.2.2.2.2.1 s.2.2.2.2.2.1 s.2.2.2.2.2.2.1 s.2.2.2.2.2.2.2.1 s.2.2.2.2.2.2.2.2 := (rfl)
def x_nx9 {A : An} {α0 α1 α2 α3 α4 α5 α6 α7 α8 : Type} {f : α0 → α1 → α2 → α3 → α4 → α5 → α6 → α7 → α8 → PEnv} {ρ : PEnv} (a0 : α0) (a1 : α1) (a2 : α2) (a3 : α3) (a4 : α4) (a5 : α5) (a6 : α6) (a7 : α7) (a8 : α8) (h : ρ = f a0 a1 a2 a3 a4 a5 a6 a7 a8) : Gm (AB A (u9 f)) (SB.nx ρ) := ⟨.nx (a0, a1, a2, a3, a4, a5, a6, a7, a8), congrArg SB.nx h⟩
def x_bk9 {A : An} {α0 α1 α2 α3 α4 α5 α6 α7 α8 : Type} {f : α0 → α1 → α2 → α3 → α4 → α5 → α6 → α7 → α8 → PEnv} {ρ : PEnv} (a0 : α0) (a1 : α1) (a2 : α2) (a3 : α3) (a4 : α4) (a5 : α5) (a6 : α6) (a7 : α7) (a8 : α8) (h : ρ = f a0 a1 a2 a3 a4 a5 a6 a7 a8) : Gm (AB A (u9 f)) (SB.bk ρ) := ⟨.bk (a0, a1, a2, a3, a4, a5, a6, a7, a8), congrArg SB.bk h⟩
def x_sk9 {A : An} {γ : Type} [Ty γ] {α0 α1 α2 α3 α4 α5 α6 α7 α8 : Type} {f : α0 → α1 → α2 → α3 → α4 → α5 → α6 → α7 → α8 → PEnv} {ρ : PEnv} (a0 : α0) (a1 : α1) (a2 : α2) (a3 : α3) (a4 : α4) (a5 : α5) (a6 : α6) (a7 : α7) (a8 : α8) (h : ρ = f a0 a1 a2 a3 a4 a5 a6 a7 a8) : Gm (AS A γ (u9 f)) (SC.sk ρ) := ⟨.sk (a0, a1, a2, a3, a4, a5, a6, a7, a8), congrArg SC.sk h⟩
def x_ad9 {A : An} {γ : Type} [Ty γ] {α0 α1 α2 α3 α4 α5 α6 α7 α8 : Type} {f : α0 → α1 → α2 → α3 → α4 → α5 → α6 → α7 → α8 → PEnv} {ρ : PEnv} {d : PyData} (v : γ) (a0 : α0) (a1 : α1) (a2 : α2) (a3 : α3) (a4 : α4) (a5 : α5) (a6 : α6) (a7 : α7) (a8 : α8) (hd : d = inj v) (h : ρ = f a0 a1 a2 a3 a4 a5 a6 a7 a8) : Gm (AS A γ (u9 f)) (SC.ad d ρ) := ⟨.ad v (a0, a1, a2, a3, a4, a5, a6, a7, a8), by rw [hd, h]; rfl⟩
def x_for9 {A : An} {β : Type} [Ty β] {α0 α1 α2 α3 α4 α5 α6 α7 α8 : Type} {K : Kn A.C} {k : PEnv → SR} {g : PyData → PEnv → Option PEnv} {f : PEnv → SR} {ρ0 : PEnv} {xs : List β}
    (p : Pos) (e : PEnv → α0 → α1 → α2 → α3 → α4 → α5 → α6 → α7 → α8 → PEnv) (a0 : α0) (a1 : α1) (a2 : α2) (a3 : α3) (a4 : α4) (a5 : α5) (a6 : α6) (a7 : α7) (a8 : α8) (h0 : ρ0 = e ρ0 a0 a1 a2 a3 a4 a5 a6 a7 a8)
    (B : ∀ (s : α0 × α1 × α2 × α3 × α4 × α5 × α6 × α7 × α8) (x : β), Gm (AB A (u9 (e ρ0))) (osG (SB.fin K.no) (g (inj x) (u9 (e ρ0) s)) fun ρ1 => fin (turnK K) (f ρ1)))
    (D : ∀ s, Gm A (fin K (k (u9 (e ρ0) s)))) : Gm A (fin K (sq (forQ p g f (xs.map Ty.inj) ρ0) k)) := x_for p (fun ρ => u9 (e ρ)) (a0, a1, a2, a3, a4, a5, a6, a7, a8) h0 B D
def x_while9 {A : An} {α0 α1 α2 α3 α4 α5 α6 α7 α8 : Type} {K : Kn A.C} {k : PEnv → SR} {c : PEnv → R Bool} {f : PEnv → SR} {ρ0 : PEnv} {W : Nat}
    (p : Pos) (e : PEnv → α0 → α1 → α2 → α3 → α4 → α5 → α6 → α7 → α8 → PEnv) (a0 : α0) (a1 : α1) (a2 : α2) (a3 : α3) (a4 : α4) (a5 : α5) (a6 : α6) (a7 : α7) (a8 : α8) (h0 : ρ0 = e ρ0 a0 a1 a2 a3 a4 a5 a6 a7 a8)
    (B : ∀ s : α0 × α1 × α2 × α3 × α4 × α5 × α6 × α7 × α8, Gm (AB A (u9 (e ρ0))) (finR (SB.fin K.no) (fun x ρ => SB.fin (K.ex x ρ)) (c (u9 (e ρ0) s)) fun b ρ1 => if b = true then fin (turnK K) (f ρ1) else SB.bk ρ1))
    (D : ∀ s, Gm A (fin K (k (u9 (e ρ0) s)))) (hn : K.no = A.no := by rfl) : Gm A (fin K (sq (whileQ p c f W ρ0) k)) := x_while p (fun ρ => u9 (e ρ)) (a0, a1, a2, a3, a4, a5, a6, a7, a8) h0 B D hn
def x_comp9 {A : An} {β γ : Type} [Ty β] [Ty γ] {α0 α1 α2 α3 α4 α5 α6 α7 α8 : Type} {no : A.C} {xc : Exn → PEnv → A.C} {k : List PyData → PEnv → A.C} {g : PyData → PEnv → Option PEnv} {c : PEnv → R Bool} {f : PEnv → R PyData} {vs : List Nat} {ρ0 : PEnv} {xs : List β}
    (p : Pos) (e : PEnv → α0 → α1 → α2 → α3 → α4 → α5 → α6 → α7 → α8 → PEnv) (a0 : α0) (a1 : α1) (a2 : α2) (a3 : α3) (a4 : α4) (a5 : α5) (a6 : α6) (a7 : α7) (a8 : α8) (h0 : ρ0 = e ρ0 a0 a1 a2 a3 a4 a5 a6 a7 a8)
    (B : ∀ (s : α0 × α1 × α2 × α3 × α4 × α5 × α6 × α7 × α8) (x : β), Gm (AS A γ (u9 (e ρ0))) (osG (SC.fin no) (g (inj x) (wipeP (u9 (e ρ0) s) vs)) fun ρ1 => finR (SC.fin no) (fun x ρ => SC.fin (xc x ρ)) (c ρ1) fun b ρ2 => if b = true then finR (SC.fin no) (fun x ρ => SC.fin (xc x ρ)) (f ρ2) fun v ρ3 => SC.ad v (wipeP ρ3 vs) else SC.sk (wipeP ρ2 vs)))
    (D : ∀ (ds : List γ) s, Gm A (k (ds.map Ty.inj) (u9 (e ρ0) s))) (hn : no = A.no := by rfl) : Gm A (finR no xc (compQ p g c f vs (xs.map Ty.inj) [] ρ0) k) := x_comp p (fun ρ => u9 (e ρ)) (a0, a1, a2, a3, a4, a5, a6, a7, a8) h0 B D hn
def x_join9 {A : An} {α0 α1 α2 α3 α4 α5 α6 α7 α8 : Type} {K : Kn A.C} {k : PEnv → SR} {b : Bool} {t u : SR} {ρ0 : PEnv} (p : Pos) (e : PEnv → α0 → α1 → α2 → α3 → α4 → α5 → α6 → α7 → α8 → PEnv)
    (T : Gm (AB A (u9 (e ρ0))) (fin (joinK K) t)) (U : Gm (AB A (u9 (e ρ0))) (fin (joinK K) u)) (D : ∀ s : α0 × α1 × α2 × α3 × α4 × α5 × α6 × α7 × α8, Gm A (fin K (k (u9 (e ρ0) s)))) : Gm A (fin K (sq (ifQ p ρ0 b t u) k)) := x_join p (fun ρ => u9 (e ρ)) T U D
def x_ieJ9 {A : An} {α0 α1 α2 α3 α4 α5 α6 α7 α8 : Type} {no : A.C} {x : Exn → PEnv → A.C} {k : VR → PEnv → A.C} {b : Bool} {t u : R VR} {ρ0 : PEnv} (p : Pos) (γ : Type) [Ty γ] (fr : Bool) (e : PEnv → α0 → α1 → α2 → α3 → α4 → α5 → α6 → α7 → α8 → PEnv)
    (T : Gm (AS A γ (u9 (e ρ0))) (finR (SC.fin no) (fun x' ρ => SC.fin (x x' ρ)) t fun v ρ' => if v.2 = fr then SC.ad v.1 ρ' else SC.bad))
    (U : Gm (AS A γ (u9 (e ρ0))) (finR (SC.fin no) (fun x' ρ => SC.fin (x x' ρ)) u fun v ρ' => if v.2 = fr then SC.ad v.1 ρ' else SC.bad))
    (D : ∀ (v : γ) (s : α0 × α1 × α2 × α3 × α4 × α5 × α6 × α7 × α8), Gm A (k (inj v, fr) (u9 (e ρ0) s))) : Gm A (finR no x (ieQ p ρ0 b t u) k) := x_ieJ p γ fr (fun ρ => u9 (e ρ)) T U D
def u10 {α0 α1 α2 α3 α4 α5 α6 α7 α8 α9 : Type} (f : α0 → α1 → α2 → α3 → α4 → α5 → α6 → α7 → α8 → α9 → PEnv) (s : α0 × α1 × α2 × α3 × α4 × α5 × α6 × α7 × α8 × α9) : PEnv := f s.1 s.2.1 s.2.2.1 s.2.2.2.1 s.2.2.2.2.1 s.2.2.2.2.2.1 s.2.2.2.2.2.2.1 s.2.2.2.2.2.2.2.1 s.2.2.2.2.2.2.2.2.1 s.2.2.2.2.2.2.2.2.2
theorem u10_eq {α0 α1 α2 α3 α4 α5 α6 α7 α8 α9 : Type} {f : α0 → α1 → α2 → α3 → α4 → α5 → α6 → α7 → α8 → α9 → PEnv} {s : α0 × α1 × α2 × α3 × α4 × α5 × α6 × α7 × α8 × α9} : u10 f s = f s.1 s.2.1 s.2.2.1 s.2.2.2.1 s.2.2.2.2.1 s.2.2.2.2.2.1 s.2.2.2.2.2.2.1 s.2.2.2.2.2.2.2.1 s.2.2.2.2.2.2.2.2.1 s.2.2.2.2.2.2.2.2.2 := (rfl)
def x_nx10 {A : An} {α0 α1 α2 α3 α4 α5 α6 α7 α8 α9 : Type} {f : α0 → α1 → α2 → α3 → α4 → α5 → α6 → α7 → α8 → α9 → PEnv} {ρ : PEnv} (a0 : α0) (a1 : α1) (a2 : α2) (a3 : α3) (a4 : α4) (a5 : α5) (a6 : α6) (a7 : α7) (a8 : α8) (a9 : α9) (h : ρ = f a0 a1 a2 a3 a4 a5 a6 a7 a8 a9) : Gm (AB A (u10 f)) (SB.nx ρ) := ⟨.nx (a0, a1, a2, a3, a4, a5, a6, a7, a8, a9), congrArg SB.nx h⟩
def x_bk10 {A : An} {α0 α1 α2 α3 α4 α5 α6 α7 α8 α9 : Type} {f : α0 → α1 → α2 → α3 → α4 → α5 → α6 → α7 → α8 → α9 → PEnv} {ρ : PEnv} (a0 : α0) (a1 : α1) (a2 : α2) (a3 : α3) (a4 : α4) (a5 : α5) (a6 : α6) (a7 : α7) (a8 : α8) (a9 : α9) (h : ρ = f a0 a1 a2 a3 a4 a5 a6 a7 a8 a9) : Gm (AB A (u10 f)) (SB.bk ρ) := ⟨.bk (a0, a1, a2, a3, a4, a5, a6, a7, a8, a9), congrArg SB.bk h⟩
def x_sk10 {A : An} {γ : Type} [Ty γ] {α0 α1 α2 α3 α4 α5 α6 α7 α8 α9 : Type} {f : α0 → α1 → α2 → α3 → α4 → α5 → α6 → α7 → α8 → α9 → PEnv} {ρ : PEnv} (a0 : α0) (a1 : α1) (a2 : α2) (a3 : α3) (a4 : α4) (a5 : α5) (a6 : α6) (a7 : α7) (a8 : α8) (a9 : α9) (h : ρ = f a0 a1 a2 a3 a4 a5 a6 a7 a8 a9) : Gm (AS A γ (u10 f)) (SC.sk ρ) := ⟨.sk (a0, a1, a2, a3, a4, a5, a6, a7, a8, a9), congrArg SC.sk h⟩
def x_ad10 {A : An} {γ : Type} [Ty γ] {α0 α1 α2 α3 α4 α5 α6 α7 α8 α9 : Type} {f : α0 → α1 → α2 → α3 → α4 → α5 → α6 → α7 → α8 → α9 → PEnv} {ρ : PEnv} {d : PyData} (v : γ) (a0 : α0) (a1 : α1) (a2 : α2) (a3 : α3) (a4 : α4) (a5 : α5) (a6 : α6) (a7 : α7) (a8 : α8) (a9 : α9) (hd : d = inj v) (h : ρ = f a0 a1 a2 a3 a4 a5 a6 a7 a8 a9) : Gm (AS A γ (u10 f)) (SC.ad d ρ) := ⟨.ad v (a0, a1, a2, a3, a4, a5, a6, a7, a8, a9), by rw [hd, h]; rfl⟩
def x_for10 {A : An} {β : Type} [Ty β] {α0 α1 α2 α3 α4 α5 α6 α7 α8 α9 : Type} {K : Kn A.C} {k : PEnv → SR} {g : PyData → PEnv → Option PEnv} {f : PEnv → SR} {ρ0 : PEnv} {xs : List β}
    (p : Pos) (e : PEnv → α0 → α1 → α2 → α3 → α4 → α5 → α6 → α7 → α8 → α9 → PEnv) (a0 : α0) (a1 : α1) (a2 : α2) (a3 : α3) (a4 : α4) (a5 : α5) (a6 : α6) (a7 : α7) (a8 : α8) (a9 : α9) (h0 : ρ0 = e ρ0 a0 a1 a2 a3 a4 a5 a6 a7 a8 a9)
    (B : ∀ (s : α0 × α1 × α2 × α3 × α4 × α5 × α6 × α7 × α8 × α9) (x : β), Gm (AB A (u10 (e ρ0))) (osG (SB.fin K.no) (g (inj x) (u10 (e ρ0) s)) fun ρ1 => fin (turnK K) (f ρ1)))
    (D : ∀ s, Gm A (fin K (k (u10 (e ρ0) s)))) : Gm A (fin K (sq (forQ p g f (xs.map Ty.inj) ρ0) k)) := x_for p (fun ρ => u10 (e ρ)) (a0, a1, a2, a3, a4, a5, a6, a7, a8, a9) h0 B D
def x_while10 {A : An} {α0 α1 α2 α3 α4 α5 α6 α7 α8 α9 : Type} {K : Kn A.C} {k : PEnv → SR} {c : PEnv → R Bool} {f : PEnv → SR} {ρ0 : PEnv} {W : Nat}
    (p : Pos) (e : PEnv → α0 → α1 → α2 → α3 → α4 → α5 → α6 → α7 → α8 → α9 → PEnv) (a0 : α0) (a1 : α1) (a2 : α2) (a3 : α3) (a4 : α4) (a5 : α5) (a6 : α6) (a7 : α7) (a8 : α8) (a9 : α9) (h0 : ρ0 = e ρ0 a0 a1 a2 a3 a4 a5 a6 a7 a8 a9)
    (B : ∀ s : α0 × α1 × α2 × α3 × α4 × α5 × α6 × α7 × α8 × α9, Gm (AB A (u10 (e ρ0))) (finR (SB.fin K.no) (fun x ρ => SB.fin (K.ex x ρ)) (c (u10 (e ρ0) s)) fun b ρ1 => if b = true then fin (turnK K) (f ρ1) else SB.bk ρ1))
    (D : ∀ s, Gm A (fin K (k (u10 (e ρ0) s)))) (hn : K.no = A.no := by rfl) : Gm A (fin K (sq (whileQ p c f W ρ0) k)) := x_while p (fun ρ => u10 (e ρ)) (a0, a1, a2, a3, a4, a5, a6, a7, a8, a9) h0 B D hn
def x_comp10 {A : An} {β γ : Type} [Ty β] [Ty γ] {α0 α1 α2 α3 α4 α5 α6 α7 α8 α9 : Type} {no : A.C} {xc : Exn → PEnv → A.C} {k : List PyData → PEnv → A.C} {g : PyData → PEnv → Option PEnv} {c : PEnv → R Bool} {f : PEnv → R PyData} {vs : List Nat} {ρ0 : PEnv} {xs : List β}
    (p : Pos) (e : PEnv → α0 → α1 → α2 → α3 → α4 → α5 → α6 → α7 → α8 → α9 → PEnv) (a0 : α0) (a1 : α1) (a2 : α2) (a3 : α3) (a4 : α4) (a5 : α5) (a6 : α6) (a7 : α7) (a8 : α8) (a9 : α9) (h0 : ρ0 = e ρ0 a0 a1 a2 a3 a4 a5 a6 a7 a8 a9)
    (B : ∀ (s : α0 × α1 × α2 × α3 × α4 × α5 × α6 × α7 × α8 × α9) (x : β), Gm (AS A γ (u10 (e ρ0))) (osG (SC.fin no) (g (inj x) (wipeP (u10 (e ρ0) s) vs)) fun ρ1 => finR (SC.fin no) (fun x ρ => SC.fin (xc x ρ)) (c ρ1) fun b ρ2 => if b = true then finR (SC.fin no) (fun x ρ => SC.fin (xc x ρ)) (f ρ2) fun v ρ3 => SC.ad v (wipeP ρ3 vs) else SC.sk (wipeP ρ2 vs)))
    (D : ∀ (ds : List γ) s, Gm A (k (ds.map Ty.inj) (u10 (e ρ0) s))) (hn : no = A.no := by rfl) : Gm A (finR no xc (compQ p g c f vs (xs.map Ty.inj) [] ρ0) k) := x_comp p (fun ρ => u10 (e ρ)) (a0, a1, a2, a3, a4, a5, a6, a7, a8, a9) h0 B D hn
def x_join10 {A : An} {α0 α1 α2 α3 α4 α5 α6 α7 α8 α9 : Type} {K : Kn A.C} {k : PEnv → SR} {b : Bool} {t u : SR} {ρ0 : PEnv} (p : Pos) (e : PEnv → α0 → α1 → α2 → α3 → α4 → α5 → α6 → α7 → α8 → α9 → PEnv)
    (T : Gm (AB A (u10 (e ρ0))) (fin (joinK K) t)) (U : Gm (AB A (u10 (e ρ0))) (fin (joinK K) u)) (D : ∀ s : α0 × α1 × α2 × α3 × α4 × α5 × α6 × α7 × α8 × α9, Gm A (fin K (k (u10 (e ρ0) s)))) : Gm A (fin K (sq (ifQ p ρ0 b t u) k)) := x_join p (fun ρ => u10 (e ρ)) T U D
def x_ieJ10 {A : An} {α0 α1 α2 α3 α4 α5 α6 α7 α8 α9 : Type} {no : A.C} {x : Exn → PEnv → A.C} {k : VR → PEnv → A.C} {b : Bool} {t u : R VR} {ρ0 : PEnv} (p : Pos) (γ : Type) [Ty γ] (fr : Bool) (e : PEnv → α0 → α1 → α2 → α3 → α4 → α5 → α6 → α7 → α8 → α9 → PEnv)
    (T : Gm (AS A γ (u10 (e ρ0))) (finR (SC.fin no) (fun x' ρ => SC.fin (x x' ρ)) t fun v ρ' => if v.2 = fr then SC.ad v.1 ρ' else SC.bad))
    (U : Gm (AS A γ (u10 (e ρ0))) (finR (SC.fin no) (fun x' ρ => SC.fin (x x' ρ)) u fun v ρ' => if v.2 = fr then SC.ad v.1 ρ' else SC.bad))
    (D : ∀ (v : γ) (s : α0 × α1 × α2 × α3 × α4 × α5 × α6 × α7 × α8 × α9), Gm A (k (inj v, fr) (u10 (e ρ0) s))) : Gm A (finR no x (ieQ p ρ0 b t u) k) := x_ieJ p γ fr (fun ρ => u10 (e ρ)) T U D
def u11 {α0 α1 α2 α3 α4 α5 α6 α7 α8 α9 α10 : Type} (f : α0 → α1 → α2 → α3 → α4 → α5 → α6 → α7 → α8 → α9 → α10 → PEnv) (s : α0 × α1 × α2 × α3 × α4 × α5 × α6 × α7 × α8 × α9 × α10) : PEnv := f s.1 s.2.1 s.2.2.1 s.2.2.2.1 s.2.2.2.2.1 s.2.2.2.2.2.1 s.2.2.2.2.2.2.1 s.2.2.2.2.2.2.2.1 s.2.2.2.2.2.2.2.2.1 s.2.2.2.2.2.2.2.2.2.1 s.2.2.2.2.2.2.2.2.2.2
theorem u11_eq {α0 α1 α2 α3 α4 α5 α6 α7 α8 α9 α10 : Type} {f : α0 → α1 → α2 → α3 → α4 → α5 → α6 → α7 → α8 → α9 → α10 → PEnv} {s : α0 × α1 × α2 × α3 × α4 × α5 × α6 × α7 × α8 × α9 × α10} : u11 f s = f s.1 s.2.1 s.2.2.1 s.2.2.2.1 s.2.2.2.2.1 s.2.2.2.2.2.1 s.2.2.2.2.2.2.1 s.2.2.2.2.2.2.2.1 s.2.2.2.2.2.2.2.2.1 s.2.2.2.2.2.2.2.2.2.1 s.2.2.2.2.2.2.2.2.2.2 := (rfl)
def x_nx11 {A : An} {α0 α1 α2 α3 α4 α5 α6 α7 α8 α9 α10 : Type} {f : α0 → α1 → α2 → α3 → α4 → α5 → α6 → α7 → α8 → α9 → α10 → PEnv} {ρ : PEnv} (a0 : α0) (a1 : α1) (a2 : α2) (a3 : α3) (a4 : α4) (a5 : α5) (a6 : α6) (a7 : α7) (a8 : α8) (a9 : α9) (a10 : α10) (h : ρ = f a0 a1 a2 a3 a4 a5 a6 a7 a8 a9 a10) : Gm (AB A (u11 f)) (SB.nx ρ) := ⟨.nx (a0, a1, a2, a3, a4, a5, a6, a7, a8, a9, a10), congrArg SB.nx h⟩
def x_bk11 {A : An} {α0 α1 α2 α3 α4 α5 α6 α7 α8 α9 α10 : Type} {f : α0 → α1 → α2 → α3 → α4 → α5 → α6 → α7 → α8 → α9 → α10 → PEnv} {ρ : PEnv} (a0 : α0) (a1 : α1) (a2 : α2) (a3 : α3) (a4 : α4) (a5 : α5) (a6 : α6) (a7 : α7) (a8 : α8) (a9 : α9) (a10 : α10) (h : ρ = f a0 a1 a2 a3 a4 a5 a6 a7 a8 a9 a10) : Gm (AB A (u11 f)) (SB.bk ρ) := ⟨.bk (a0, a1, a2, a3, a4, a5, a6, a7, a8, a9, a10), congrArg SB.bk h⟩
def x_sk11 {A : An} {γ : Type} [Ty γ] {α0 α1 α2 α3 α4 α5 α6 α7 α8 α9 α10 : Type} {f : α0 → α1 → α2 → α3 → α4 → α5 → α6 → α7 → α8 → α9 → α10 → PEnv} {ρ : PEnv} (a0 : α0) (a1 : α1) (a2 : α2) (a3 : α3) (a4 : α4) (a5 : α5) (a6 : α6) (a7 : α7) (a8 : α8) (a9 : α9) (a10 : α10) (h : ρ = f a0 a1 a2 a3 a4 a5 a6 a7 a8 a9 a10) : Gm (AS A γ (u11 f)) (SC.sk ρ) := ⟨.sk (a0, a1, a2, a3, a4, a5, a6, a7, a8, a9, a10), congrArg SC.sk h⟩
def x_ad11 {A : An} {γ : Type} [Ty γ] {α0 α1 α2 α3 α4 α5 α6 α7 α8 α9 α10 : Type} {f : α0 → α1 → α2 → α3 → α4 → α5 → α6 → α7 → α8 → α9 → α10 → PEnv} {ρ : PEnv} {d : PyData} (v : γ) (a0 : α0) (a1 : α1) (a2 : α2) (a3 : α3) (a4 : α4) (a5 : α5) (a6 : α6) (a7 : α7) (a8 : α8) (a9 : α9) (a10 : α10) (hd : d = inj v) (h : ρ = f a0 a1 a2 a3 a4 a5 a6 a7 a8 a9 a10) : Gm (AS A γ (u11 f)) (SC.ad d ρ) := ⟨.ad v (a0, a1, a2, a3, a4, a5, a6, a7, a8, a9, a10), by rw [hd, h]; rfl⟩
def x_for11 {A : An} {β : Type} [Ty β] {α0 α1 α2 α3 α4 α5 α6 α7 α8 α9 α10 : Type} {K : Kn A.C} {k : PEnv → SR} {g : PyData → PEnv → Option PEnv} {f : PEnv → SR} {ρ0 : PEnv} {xs : List β}
    (p : Pos) (e : PEnv → α0 → α1 → α2 → α3 → α4 → α5 → α6 → α7 → α8 → α9 → α10 → PEnv) (a0 : α0) (a1 : α1) (a2 : α2) (a3 : α3) (a4 : α4) (a5 : α5) (a6 : α6) (a7 : α7) (a8 : α8) (a9 : α9) (a10 : α10) (h0 : ρ0 = e ρ0 a0 a1 a2 a3 a4 a5 a6 a7 a8 a9 a10)
    (B : ∀ (s : α0 × α1 × α2 × α3 × α4 × α5 × α6 × α7 × α8 × α9 × α10) (x : β), Gm (AB A (u11 (e ρ0))) (osG (SB.fin K.no) (g (inj x) (u11 (e ρ0) s)) fun ρ1 => fin (turnK K) (f ρ1)))
    (D : ∀ s, Gm A (fin K (k (u11 (e ρ0) s)))) : Gm A (fin K (sq (forQ p g f (xs.map Ty.inj) ρ0) k)) := x_for p (fun ρ => u11 (e ρ)) (a0, a1, a2, a3, a4, a5, a6, a7, a8, a9, a10) h0 B D
def x_while11 {A : An} {α0 α1 α2 α3 α4 α5 α6 α7 α8 α9 α10 : Type} {K : Kn A.C} {k : PEnv → SR} {c : PEnv → R Bool} {f : PEnv → SR} {ρ0 : PEnv} {W : Nat}
    (p : Pos) (e : PEnv → α0 → α1 → α2 → α3 → α4 → α5 → α6 → α7 → α8 → α9 → α10 → PEnv) (a0 : α0) (a1 : α1) (a2 : α2) (a3 : α3) (a4 : α4) (a5 : α5) (a6 : α6) (a7 : α7) (a8 : α8) (a9 : α9) (a10 : α10) (h0 : ρ0 = e ρ0 a0 a1 a2 a3 a4 a5 a6 a7 a8 a9 a10)
    (B : ∀ s : α0 × α1 × α2 × α3 × α4 × α5 × α6 × α7 × α8 × α9 × α10, Gm (AB A (u11 (e ρ0))) (finR (SB.fin K.no) (fun x ρ => SB.fin (K.ex x ρ)) (c (u11 (e ρ0) s)) fun b ρ1 => if b = true then fin (turnK K) (f ρ1) else SB.bk ρ1))
    (D : ∀ s, Gm A (fin K (k (u11 (e ρ0) s)))) (hn : K.no = A.no := by rfl) : Gm A (fin K (sq (whileQ p c f W ρ0) k)) := x_while p (fun ρ => u11 (e ρ)) (a0, a1, a2, a3, a4, a5, a6, a7, a8, a9, a10) h0 B D hn
def x_comp11 {A : An} {β γ : Type} [Ty β] [Ty γ] {α0 α1 α2 α3 α4 α5 α6 α7 α8 α9 α10 : Type} {no : A.C} {xc : Exn → PEnv → A.C} {k : List PyData → PEnv → A.C} {g : PyData → PEnv → Option PEnv} {c : PEnv → R Bool} {f : PEnv → R PyData} {vs : List Nat} {ρ0 : PEnv} {xs : List β}
    (p : Pos) (e : PEnv → α0 → α1 → α2 → α3 → α4 → α5 → α6 → α7 → α8 → α9 → α10 → PEnv) (a0 : α0) (a1 : α1) (a2 : α2) (a3 : α3) (a4 : α4) (a5 : α5) (a6 : α6) (a7 : α7) (a8 : α8) (a9 : α9) (a10 : α10) (h0 : ρ0 = e ρ0 a0 a1 a2 a3 a4 a5 a6 a7 a8 a9 a10)
    (B : ∀ (s : α0 × α1 × α2 × α3 × α4 × α5 × α6 × α7 × α8 × α9 × α10) (x : β), Gm (AS A γ (u11 (e ρ0))) (osG (SC.fin no) (g (inj x) (wipeP (u11 (e ρ0) s) vs)) fun ρ1 => finR (SC.fin no) (fun x ρ => SC.fin (xc x ρ)) (c ρ1) fun b ρ2 => if b = true then finR (SC.fin no) (fun x ρ => SC.fin (xc x ρ)) (f ρ2) fun v ρ3 => SC.ad v (wipeP ρ3 vs) else SC.sk (wipeP ρ2 vs)))
    (D : ∀ (ds : List γ) s, Gm A (k (ds.map Ty.inj) (u11 (e ρ0) s))) (hn : no = A.no := by rfl) : Gm A (finR no xc (compQ p g c f vs (xs.map Ty.inj) [] ρ0) k) := x_comp p (fun ρ => u11 (e ρ)) (a0, a1, a2, a3, a4, a5, a6, a7, a8, a9, a10) h0 B D hn
def x_join11 {A : An} {α0 α1 α2 α3 α4 α5 α6 α7 α8 α9 α10 : Type} {K : Kn A.C} {k : PEnv → SR} {b : Bool} {t u : SR} {ρ0 : PEnv} (p : Pos) (e : PEnv → α0 → α1 → α2 → α3 → α4 → α5 → α6 → α7 → α8 → α9 → α10 → PEnv)
    (T : Gm (AB A (u11 (e ρ0))) (fin (joinK K) t)) (U : Gm (AB A (u11 (e ρ0))) (fin (joinK K) u)) (D : ∀ s : α0 × α1 × α2 × α3 × α4 × α5 × α6 × α7 × α8 × α9 × α10, Gm A (fin K (k (u11 (e ρ0) s)))) : Gm A (fin K (sq (ifQ p ρ0 b t u) k)) := x_join p (fun ρ => u11 (e ρ)) T U D
def x_ieJ11 {A : An} {α0 α1 α2 α3 α4 α5 α6 α7 α8 α9 α10 : Type} {no : A.C} {x : Exn → PEnv → A.C} {k : VR → PEnv → A.C} {b : Bool} {t u : R VR} {ρ0 : PEnv} (p : Pos) (γ : Type) [Ty γ] (fr : Bool) (e : PEnv → α0 → α1 → α2 → α3 → α4 → α5 → α6 → α7 → α8 → α9 → α10 → PEnv)
    (T : Gm (AS A γ (u11 (e ρ0))) (finR (SC.fin no) (fun x' ρ => SC.fin (x x' ρ)) t fun v ρ' => if v.2 = fr then SC.ad v.1 ρ' else SC.bad))
    (U : Gm (AS A γ (u11 (e ρ0))) (finR (SC.fin no) (fun x' ρ => SC.fin (x x' ρ)) u fun v ρ' => if v.2 = fr then SC.ad v.1 ρ' else SC.bad))
    (D : ∀ (v : γ) (s : α0 × α1 × α2 × α3 × α4 × α5 × α6 × α7 × α8 × α9 × α10), Gm A (k (inj v, fr) (u11 (e ρ0) s))) : Gm A (finR no x (ieQ p ρ0 b t u) k) := x_ieJ p γ fr (fun ρ => u11 (e ρ)) T U D
def u12 {α0 α1 α2 α3 α4 α5 α6 α7 α8 α9 α10 α11 : Type} (f : α0 → α1 → α2 → α3 → α4 → α5 → α6 → α7 → α8 → α9 → α10 → α11 → PEnv) (s : α0 × α1 × α2 × α3 × α4 × α5 × α6 × α7 × α8 × α9 × α10 × α11) : PEnv := f s.1 s.2.1 s.2.2.1 s.2.2.2.1 s.2.2.2.2.1 s.2.2.2.2.2.1 s.2.2.2.2.2.2.1 s.2.2.2.2.2.2.2.1 s.2.2.2.2.2.2.2.2.1 s.2.2.2.2.2.2.2.2.2.1 s.2.2.2.2.2.2.2.2.2.2.1 s.2.2.2.2.2.2.2.2.2.2.2
theorem u12_eq {α0 α1 α2 α3 α4 α5 α6 α7 α8 α9 α10 α11 : Type} {f : α0 → α1 → α2 → α3 → α4 → α5 → α6 → α7 → α8 → α9 → α10 → α11 → PEnv} {s : α0 × α1 × α2 × α3 × α4 × α5 × α6 × α7 × α8 × α9 × α10 × α11} : u12 f s = f s.1 s.2.1 s.2.2.1 s.2.2.2.1 s.2.2.2.2.1 s.2.2.2.2.2.1 s.2.2.2.2.2.2.1 s.2.2.2.2.2.2.2.1 s.2.2.2.2.2.2.2.2.1 s.2.2.2.2.2.2.2.2.2.1 s.2.2.2.2.2.2.2.2.2.2.1 s.2.2.2.2.2.2.2.2.2.2.2 := (rfl)
def x_nx12 {A : An} {α0 α1 α2 α3 α4 α5 α6 α7 α8 α9 α10 α11 : Type} {f : α0 → α1 → α2 → α3 → α4 → α5 → α6 → α7 → α8 → α9 → α10 → α11 → PEnv} {ρ : PEnv} (a0 : α0) (a1 : α1) (a2 : α2) (a3 : α3) (a4 : α4) (a5 : α5) (a6 : α6) (a7 : α7) (a8 : α8) (a9 : α9) (a10 : α10) (a11 : α11) (h : ρ = f a0 a1 a2 a3 a4 a5 a6 a7 a8 a9 a10 a11) : Gm (AB A (u12 f)) (SB.nx ρ) := ⟨.nx (a0, a1, a2, a3, a4, a5, a6, a7, a8, a9, a10, a11), congrArg SB.nx h⟩
def x_bk12 {A : An} {α0 α1 α2 α3 α4 α5 α6 α7 α8 α9 α10 α11 : Type} {f : α0 → α1 → α2 → α3 → α4 → α5 → α6 → α7 → α8 → α9 → α10 → α11 → PEnv} {ρ : PEnv} (a0 : α0) (a1 : α1) (a2 : α2) (a3 : α3) (a4 : α4) (a5 : α5) (a6 : α6) (a7 : α7) (a8 : α8) (a9 : α9) (a10 : α10) (a11 : α11) (h : ρ = f a0 a1 a2 a3 a4 a5 a6 a7 a8 a9 a10 a11) : Gm (AB A (u12 f)) (SB.bk ρ) := ⟨.bk (a0, a1, a2, a3, a4, a5, a6, a7, a8, a9, a10, a11), congrArg SB.bk h⟩
def x_sk12 {A : An} {γ : Type} [Ty γ] {α0 α1 α2 α3 α4 α5 α6 α7 α8 α9 α10 α11 : Type} {f : α0 → α1 → α2 → α3 → α4 → α5 → α6 → α7 → α8 → α9 → α10 → α11 → PEnv} {ρ : PEnv} (a0 : α0) (a1 : α1) (a2 : α2) (a3 : α3) (a4 : α4) (a5 : α5) (a6 : α6) (a7 : α7) (a8 : α8) (a9 : α9) (a10 : α10) (a11 : α11) (h : ρ = f a0 a1 a2 a3 a4 a5 a6 a7 a8 a9 a10 a11) : Gm (AS A γ (u12 f)) (SC.sk ρ) := ⟨.sk (a0, a1, a2, a3, a4, a5, a6, a7, a8, a9, a10, a11), congrArg SC.sk h⟩
def x_ad12 {A : An} {γ : Type} [Ty γ] {α0 α1 α2 α3 α4 α5 α6 α7 α8 α9 α10 α11 : Type} {f : α0 → α1 → α2 → α3 → α4 → α5 → α6 → α7 → α8 → α9 → α10 → α11 → PEnv} {ρ : PEnv} {d : PyData} (v : γ) (a0 : α0) (a1 : α1) (a2 : α2) (a3 : α3) (a4 : α4) (a5 : α5) (a6 : α6) (a7 : α7) (a8 : α8) (a9 : α9) (a10 : α10) (a11 : α11) (hd : d = inj v) (h : ρ = f a0 a1 a2 a3 a4 a5 a6 a7 a8 a9 a10 a11) : Gm (AS A γ (u12 f)) (SC.ad d ρ) := ⟨.ad v (a0, a1, a2, a3, a4, a5, a6, a7, a8, a9, a10, a11), by rw [hd, h]; rfl⟩
def x_for12 {A : An} {β : Type} [Ty β] {α0 α1 α2 α3 α4 α5 α6 α7 α8 α9 α10 α11 : Type} {K : Kn A.C} {k : PEnv → SR} {g : PyData → PEnv → Option PEnv} {f : PEnv → SR} {ρ0 : PEnv} {xs : List β}
    (p : Pos) (e : PEnv → α0 → α1 → α2 → α3 → α4 → α5 → α6 → α7 → α8 → α9 → α10 → α11 → PEnv) (a0 : α0) (a1 : α1) (a2 : α2) (a3 : α3) (a4 : α4) (a5 : α5) (a6 : α6) (a7 : α7) (a8 : α8) (a9 : α9) (a10 : α10) (a11 : α11) (h0 : ρ0 = e ρ0 a0 a1 a2 a3 a4 a5 a6 a7 a8 a9 a10 a11)
    (B : ∀ (s : α0 × α1 × α2 × α3 × α4 × α5 × α6 × α7 × α8 × α9 × α10 × α11) (x : β), Gm (AB A (u12 (e ρ0))) (osG (SB.fin K.no) (g (inj x) (u12 (e ρ0) s)) fun ρ1 => fin (turnK K) (f ρ1)))
    (D : ∀ s, Gm A (fin K (k (u12 (e ρ0) s)))) : Gm A (fin K (sq (forQ p g f (xs.map Ty.inj) ρ0) k)) := x_for p (fun ρ => u12 (e ρ)) (a0, a1, a2, a3, a4, a5, a6, a7, a8, a9, a10, a11) h0 B D
def x_while12 {A : An} {α0 α1 α2 α3 α4 α5 α6 α7 α8 α9 α10 α11 : Type} {K : Kn A.C} {k : PEnv → SR} {c : PEnv → R Bool} {f : PEnv → SR} {ρ0 : PEnv} {W : Nat}
    (p : Pos) (e : PEnv → α0 → α1 → α2 → α3 → α4 → α5 → α6 → α7 → α8 → α9 → α10 → α11 → PEnv) (a0 : α0) (a1 : α1) (a2 : α2) (a3 : α3) (a4 : α4) (a5 : α5) (a6 : α6) (a7 : α7) (a8 : α8) (a9 : α9) (a10 : α10) (a11 : α11) (h0 : ρ0 = e ρ0 a0 a1 a2 a3 a4 a5 a6 a7 a8 a9 a10 a11)
    (B : ∀ s : α0 × α1 × α2 × α3 × α4 × α5 × α6 × α7 × α8 × α9 × α10 × α11, Gm (AB A (u12 (e ρ0))) (finR (SB.fin K.no) (fun x ρ => SB.fin (K.ex x ρ)) (c (u12 (e ρ0) s)) fun b ρ1 => if b = true then fin (turnK K) (f ρ1) else SB.bk ρ1))
    (D : ∀ s, Gm A (fin K (k (u12 (e ρ0) s)))) (hn : K.no = A.no := by rfl) : Gm A (fin K (sq (whileQ p c f W ρ0) k)) := x_while p (fun ρ => u12 (e ρ)) (a0, a1, a2, a3, a4, a5, a6, a7, a8, a9, a10, a11) h0 B D hn
def x_comp12 {A : An} {β γ : Type} [Ty β] [Ty γ] {α0 α1 α2 α3 α4 α5 α6 α7 α8 α9 α10 α11 : Type} {no : A.C} {xc : Exn → PEnv → A.C} {k : List PyData → PEnv → A.C} {g : PyData → PEnv → Option PEnv} {c : PEnv → R Bool} {f : PEnv → R PyData} {vs : List Nat} {ρ0 : PEnv} {xs : List β}
    (p : Pos) (e : PEnv → α0 → α1 → α2 → α3 → α4 → α5 → α6 → α7 → α8 → α9 → α10 → α11 → PEnv) (a0 : α0) (a1 : α1) (a2 : α2) (a3 : α3) (a4 : α4) (a5 : α5) (a6 : α6) (a7 : α7) (a8 : α8) (a9 : α9) (a10 : α10) (a11 : α11) (h0 : ρ0 = e ρ0 a0 a1 a2 a3 a4 a5 a6 a7 a8 a9 a10 a11)
    (B : ∀ (s : α0 × α1 × α2 × α3 × α4 × α5 × α6 × α7 × α8 × α9 × α10 × α11) (x : β), Gm (AS A γ (u12 (e ρ0))) (osG (SC.fin no) (g (inj x) (wipeP (u12 (e ρ0) s) vs)) fun ρ1 => finR (SC.fin no) (fun x ρ => SC.fin (xc x ρ)) (c ρ1) fun b ρ2 => if b = true then finR (SC.fin no) (fun x ρ => SC.fin (xc x ρ)) (f ρ2) fun v ρ3 => SC.ad v (wipeP ρ3 vs) else SC.sk (wipeP ρ2 vs)))
    (D : ∀ (ds : List γ) s, Gm A (k (ds.map Ty.inj) (u12 (e ρ0) s))) (hn : no = A.no := by rfl) : Gm A (finR no xc (compQ p g c f vs (xs.map Ty.inj) [] ρ0) k) := x_comp p (fun ρ => u12 (e ρ)) (a0, a1, a2, a3, a4, a5, a6, a7, a8, a9, a10, a11) h0 B D hn
def x_join12 {A : An} {α0 α1 α2 α3 α4 α5 α6 α7 α8 α9 α10 α11 : Type} {K : Kn A.C} {k : PEnv → SR} {b : Bool} {t u : SR} {ρ0 : PEnv} (p : Pos) (e : PEnv → α0 → α1 → α2 → α3 → α4 → α5 → α6 → α7 → α8 → α9 → α10 → α11 → PEnv)
    (T : Gm (AB A (u12 (e ρ0))) (fin (joinK K) t)) (U : Gm (AB A (u12 (e ρ0))) (fin (joinK K) u)) (D : ∀ s : α0 × α1 × α2 × α3 × α4 × α5 × α6 × α7 × α8 × α9 × α10 × α11, Gm A (fin K (k (u12 (e ρ0) s)))) : Gm A (fin K (sq (ifQ p ρ0 b t u) k)) := x_join p (fun ρ => u12 (e ρ)) T U D
def x_ieJ12 {A : An} {α0 α1 α2 α3 α4 α5 α6 α7 α8 α9 α10 α11 : Type} {no : A.C} {x : Exn → PEnv → A.C} {k : VR → PEnv → A.C} {b : Bool} {t u : R VR} {ρ0 : PEnv} (p : Pos) (γ : Type) [Ty γ] (fr : Bool) (e : PEnv → α0 → α1 → α2 → α3 → α4 → α5 → α6 → α7 → α8 → α9 → α10 → α11 → PEnv)
    (T : Gm (AS A γ (u12 (e ρ0))) (finR (SC.fin no) (fun x' ρ => SC.fin (x x' ρ)) t fun v ρ' => if v.2 = fr then SC.ad v.1 ρ' else SC.bad))
    (U : Gm (AS A γ (u12 (e ρ0))) (finR (SC.fin no) (fun x' ρ => SC.fin (x x' ρ)) u fun v ρ' => if v.2 = fr then SC.ad v.1 ρ' else SC.bad))
    (D : ∀ (v : γ) (s : α0 × α1 × α2 × α3 × α4 × α5 × α6 × α7 × α8 × α9 × α10 × α11), Gm A (k (inj v, fr) (u12 (e ρ0) s))) : Gm A (finR no x (ieQ p ρ0 b t u) k) := x_ieJ p γ fr (fun ρ => u12 (e ρ)) T U D
end TM

set_option Elab.async false
set_option maxRecDepth 100000
set_option maxHeartbeats 0
namespace L_k14
open PySem
def top (i : Nat) : PySem.Stmt := PySem.Challenge.pw_twicedial_k14_rows_in_least_form.main.body.getD i (.Pass ⟨0, 0, 0, 0⟩)
def d_0 : TW.Def := { name := "least_row", ps := ["head", "cycle"], N := ["head", "cycle", "size"], mu := [], pm := [false, false], args := L2.defArgs (top 1), body := L2.defBody (top 1), sc := L2.defScope (top 1) }
def d_1 : TW.Def := { name := "first_mark", ps := ["row"], N := ["row"], mu := [], pm := [false], args := L2.defArgs (top 2), body := L2.defBody (top 2), sc := L2.defScope (top 2) }
def d_2 : TW.Def := { name := "shifted", ps := ["row"], N := ["row", "head", "cycle"], mu := [], pm := [false], args := L2.defArgs (top 3), body := L2.defBody (top 3), sc := L2.defScope (top 3) }
def d_3 : TW.Def := { name := "_law_begun", ps := ["script", "k"], N := ["script", "k", "cells", "great", "seed", "cell"], mu := [], pm := [false, false], args := L2.defArgs (top 5), body := L2.defBody (top 5), sc := L2.defScope (top 5) }
def d_4 : TW.Def := { name := "_law_draw", ps := ["m", "below"], N := ["m", "below", "spot", "cell", "blend", "found", "cells", "extra"], mu := ["m"], pm := [true, false], args := L2.defArgs (top 6), body := L2.defBody (top 6), sc := L2.defScope (top 6) }
def d_5 : TW.Def := { name := "_law_of", ps := ["m", "some"], N := ["m", "some"], mu := ["m"], pm := [true, false], args := L2.defArgs (top 7), body := L2.defBody (top 7), sc := L2.defScope (top 7) }
def d_6 : TW.Def := { name := "_law_at", ps := ["row", "k"], N := ["row", "k"], mu := [], pm := [false, false], args := L2.defArgs (top 8), body := L2.defBody (top 8), sc := L2.defScope (top 8) }
def d_7 : TW.Def := { name := "_law_least_row", ps := ["head", "cycle"], N := ["head", "cycle", "size", "k"], mu := [], pm := [false, false], args := L2.defArgs (top 9), body := L2.defBody (top 9), sc := L2.defScope (top 9) }
def d_8 : TW.Def := { name := "_law_is_least", ps := ["row"], N := ["row", "size", "head", "cycle"], mu := [], pm := [false], args := L2.defArgs (top 10), body := L2.defBody (top 10), sc := L2.defScope (top 10) }
def d_9 : TW.Def := { name := "_law_marks", ps := ["m", "size"], N := ["m", "size", "k"], mu := ["m"], pm := [true, false], args := L2.defArgs (top 11), body := L2.defBody (top 11), sc := L2.defScope (top 11) }
def d_10 : TW.Def := { name := "_law_otherwise", ps := ["m", "head", "cycle"], N := ["m", "head", "cycle", "spare", "k", "both", "at"], mu := ["m"], pm := [true, false, false], args := L2.defArgs (top 12), body := L2.defBody (top 12), sc := L2.defScope (top 12) }
def d_11 : TW.Def := { name := "law", ps := ["script"], N := ["script", "turn", "m", "cycle", "told", "other", "same", "k", "head", "left", "line", "rest"], mu := ["m"], pm := [false], args := L2.defArgs (top 13), body := L2.defBody (top 13), sc := L2.defScope (top 13) }
def G : TW.Prog := { defs := [d_0, d_1, d_2, d_3, d_4, d_5, d_6, d_7, d_8, d_9, d_10, d_11], glo := [], blt := ["int", "isinstance", "len", "max", "min", "range", "str", "tuple"], gcd := false }
end L_k14
namespace L_k14
open PySem TW
def idx (f : Str) : Nat := ((G.defs.findIdx? fun d => decide (d.name = f)).getD 999)
def cl (ci : Nat → List Sl → CR) (f : Str) (as : List Sl) : CR := ci (idx f) as
theorem cl_0 (ci : Nat → List Sl → CR) (as : List Sl) : cl ci "least_row" as = ci 0 as := rfl
theorem cl_1 (ci : Nat → List Sl → CR) (as : List Sl) : cl ci "first_mark" as = ci 1 as := rfl
theorem cl_2 (ci : Nat → List Sl → CR) (as : List Sl) : cl ci "shifted" as = ci 2 as := rfl
theorem cl_3 (ci : Nat → List Sl → CR) (as : List Sl) : cl ci "_law_begun" as = ci 3 as := rfl
theorem cl_4 (ci : Nat → List Sl → CR) (as : List Sl) : cl ci "_law_draw" as = ci 4 as := rfl
theorem cl_5 (ci : Nat → List Sl → CR) (as : List Sl) : cl ci "_law_of" as = ci 5 as := rfl
theorem cl_6 (ci : Nat → List Sl → CR) (as : List Sl) : cl ci "_law_at" as = ci 6 as := rfl
theorem cl_7 (ci : Nat → List Sl → CR) (as : List Sl) : cl ci "_law_least_row" as = ci 7 as := rfl
theorem cl_8 (ci : Nat → List Sl → CR) (as : List Sl) : cl ci "_law_is_least" as = ci 8 as := rfl
theorem cl_9 (ci : Nat → List Sl → CR) (as : List Sl) : cl ci "_law_marks" as = ci 9 as := rfl
theorem cl_10 (ci : Nat → List Sl → CR) (as : List Sl) : cl ci "_law_otherwise" as = ci 10 as := rfl
theorem cl_11 (ci : Nat → List Sl → CR) (as : List Sl) : cl ci "law" as = ci 11 as := rfl
theorem lit_0 : Str.ofString "twicedial.rowforms" = ⟨#[116, 119, 105, 99, 101, 100, 105, 97, 108, 46, 114, 111, 119, 102, 111, 114, 109, 115]⟩ := by decide +kernel
theorem lit_1 : Str.ofString "law_twicedial_k14_rows_in_least_form" = ⟨#[108, 97, 119, 95, 116, 119, 105, 99, 101, 100, 105, 97, 108, 95, 107, 49, 52, 95, 114, 111, 119, 115, 95, 105, 110, 95, 108, 101, 97, 115, 116, 95, 102, 111, 114, 109]⟩ := by decide +kernel
theorem lit_2 : Str.ofString "" = ⟨#[]⟩ := by decide +kernel
theorem lit_3 : Str.ofString "left" = ⟨#[108, 101, 102, 116]⟩ := by decide +kernel
theorem lit_4 : Str.ofString "seed" = ⟨#[115, 101, 101, 100]⟩ := by decide +kernel
theorem lit_5 : Str.ofString "cells" = ⟨#[99, 101, 108, 108, 115]⟩ := by decide +kernel
theorem lit_6 : Str.ofString "spot" = ⟨#[115, 112, 111, 116]⟩ := by decide +kernel
theorem lit_7 : Str.ofString "0" = ⟨#[48]⟩ := by decide +kernel
theorem lit_8 : Str.ofString "1" = ⟨#[49]⟩ := by decide +kernel
theorem lit_9 : Str.ofString "*" = ⟨#[42]⟩ := by decide +kernel
theorem ok_cycle : okNm "cycle" = true := rfl
theorem ok_head : okNm "head" = true := rfl
theorem ok_len : okNm "len" = true := rfl
theorem ok_range : okNm "range" = true := rfl
theorem ok_size : okNm "size" = true := rfl
theorem nn_0 (call : Str → List Sl → CR) : (ctxOf G d_0 call).N = [("head" : Str), ("cycle" : Str), ("size" : Str)] := by kernel_rfl
theorem kd_0 (call : Str → List Sl → CR) : isFnK (ctxOf G d_0 call).sc = true := by kernel_rfl
theorem x_0_head (call : Str → List Sl → CR) : TW.ixN [("head" : Str), ("cycle" : Str), ("size" : Str)] "head" = some 0 := rfl
theorem r_0_head (call : Str → List Sl → CR) (ρ : PEnv) : rdName (ctxOf G d_0 call) "head" ρ = rdSl 0 ρ := by kernel_rfl
theorem p_0_head (call : Str → List Sl → CR) (ρ : PEnv) : pkName (ctxOf G d_0 call) "head" ρ = pkSl 0 ρ := by kernel_rfl
theorem m_0_head (call : Str → List Sl → CR) (ρ : PEnv) : mutSl (ctxOf G d_0 call) "head" ρ = mtSl 0 ρ := by kernel_rfl
theorem s_0_head (call : Str → List Sl → CR) (s : Sl) (ρ : PEnv) : setSl (ctxOf G d_0 call) "head" s ρ = putSl 0 s ρ := by kernel_rfl
theorem c_0_head (call : Str → List Sl → CR) (d : PyData) (f : Bool) : ctName (ctxOf G d_0 call) "head" d f = ctB false d f := by kernel_rfl
theorem l_0_head (call : Str → List Sl → CR) (p : Pos) : lnOf (ctxOf G d_0 call) (.Name "head" p) = some (("head" : Str), 0) := by kernel_rfl
theorem rn_0_head (call : Str → List Sl → CR) (n : Nat) (p p2 : Pos) (ρ : PEnv) : stStep (evN (n + 1)) (ctxOf G d_0 call) (.Return (some (.Name "head" p)) p2) ρ = retN 0 ρ := by kernel_rfl
theorem o_0_head (call : Str → List Sl → CR) : slotOf (ctxOf G d_0 call) "head" = some 0 := by kernel_rfl
theorem il_0_head (call : Str → List Sl → CR) : (ctxOf G d_0 call).sc.names.lookup ("head" : Str) = some NameKind.local := by kernel_rfl
theorem x_0_cycle (call : Str → List Sl → CR) : TW.ixN [("head" : Str), ("cycle" : Str), ("size" : Str)] "cycle" = some 1 := rfl
theorem r_0_cycle (call : Str → List Sl → CR) (ρ : PEnv) : rdName (ctxOf G d_0 call) "cycle" ρ = rdSl 1 ρ := by kernel_rfl
theorem p_0_cycle (call : Str → List Sl → CR) (ρ : PEnv) : pkName (ctxOf G d_0 call) "cycle" ρ = pkSl 1 ρ := by kernel_rfl
theorem m_0_cycle (call : Str → List Sl → CR) (ρ : PEnv) : mutSl (ctxOf G d_0 call) "cycle" ρ = mtSl 1 ρ := by kernel_rfl
theorem s_0_cycle (call : Str → List Sl → CR) (s : Sl) (ρ : PEnv) : setSl (ctxOf G d_0 call) "cycle" s ρ = putSl 1 s ρ := by kernel_rfl
theorem c_0_cycle (call : Str → List Sl → CR) (d : PyData) (f : Bool) : ctName (ctxOf G d_0 call) "cycle" d f = ctB false d f := by kernel_rfl
theorem l_0_cycle (call : Str → List Sl → CR) (p : Pos) : lnOf (ctxOf G d_0 call) (.Name "cycle" p) = some (("cycle" : Str), 1) := by kernel_rfl
theorem rn_0_cycle (call : Str → List Sl → CR) (n : Nat) (p p2 : Pos) (ρ : PEnv) : stStep (evN (n + 1)) (ctxOf G d_0 call) (.Return (some (.Name "cycle" p)) p2) ρ = retN 1 ρ := by kernel_rfl
theorem o_0_cycle (call : Str → List Sl → CR) : slotOf (ctxOf G d_0 call) "cycle" = some 1 := by kernel_rfl
theorem il_0_cycle (call : Str → List Sl → CR) : (ctxOf G d_0 call).sc.names.lookup ("cycle" : Str) = some NameKind.local := by kernel_rfl
theorem x_0_size (call : Str → List Sl → CR) : TW.ixN [("head" : Str), ("cycle" : Str), ("size" : Str)] "size" = some 2 := rfl
theorem r_0_size (call : Str → List Sl → CR) (ρ : PEnv) : rdName (ctxOf G d_0 call) "size" ρ = rdSl 2 ρ := by kernel_rfl
theorem p_0_size (call : Str → List Sl → CR) (ρ : PEnv) : pkName (ctxOf G d_0 call) "size" ρ = pkSl 2 ρ := by kernel_rfl
theorem m_0_size (call : Str → List Sl → CR) (ρ : PEnv) : mutSl (ctxOf G d_0 call) "size" ρ = mtSl 2 ρ := by kernel_rfl
theorem s_0_size (call : Str → List Sl → CR) (s : Sl) (ρ : PEnv) : setSl (ctxOf G d_0 call) "size" s ρ = putSl 2 s ρ := by kernel_rfl
theorem c_0_size (call : Str → List Sl → CR) (d : PyData) (f : Bool) : ctName (ctxOf G d_0 call) "size" d f = ctB false d f := by kernel_rfl
theorem l_0_size (call : Str → List Sl → CR) (p : Pos) : lnOf (ctxOf G d_0 call) (.Name "size" p) = some (("size" : Str), 2) := by kernel_rfl
theorem rn_0_size (call : Str → List Sl → CR) (n : Nat) (p p2 : Pos) (ρ : PEnv) : stStep (evN (n + 1)) (ctxOf G d_0 call) (.Return (some (.Name "size" p)) p2) ρ = retN 2 ρ := by kernel_rfl
theorem o_0_size (call : Str → List Sl → CR) : slotOf (ctxOf G d_0 call) "size" = some 2 := by kernel_rfl
theorem il_0_size (call : Str → List Sl → CR) : (ctxOf G d_0 call).sc.names.lookup ("size" : Str) = some NameKind.local := by kernel_rfl
theorem cc_0 (call : Str → List Sl → CR) (f : Str) (as : List Sl) : (ctxOf G d_0 call).call f as = call f as := by kernel_rfl
theorem fn_0_len (call : Str → List Sl → CR) : (ctxOf G d_0 call).fns "len" = none := by kernel_rfl
theorem bt_0_len (call : Str → List Sl → CR) : (ctxOf G d_0 call).blt "len" = true := by kernel_rfl
theorem i1_0_len (call : Str → List Sl → CR) (E : Ev) (a : Expr) (p r : Pos) (ρ : PEnv) : iterP (ctxOf G d_0 call) E (.Call (.Name "len" p) [a] [] r) ρ = iterV E (.Call (.Name "len" p) [a] [] r) ρ := by kernel_rfl
theorem i2_0_len (call : Str → List Sl → CR) (E : Ev) (a b : Expr) (p r : Pos) (ρ : PEnv) : iterP (ctxOf G d_0 call) E (.Call (.Name "len" p) [a, b] [] r) ρ = iterV E (.Call (.Name "len" p) [a, b] [] r) ρ := by kernel_rfl
theorem b1_0_len (call : Str → List Sl → CR) (E : TW.Ctx → Ev) (a : Expr) (p r : Pos) (ρ : PEnv) : evStep E (ctxOf G d_0 call) (.Call (.Name "len" p) [a] [] r) ρ = if (!starred a) = true then (pkE (ctxOf G d_0 call) (E (ctxOf G d_0 call)) a ρ).bind fun d ρ' => ofO (bi1P "len" d) ρ' else .no := by kernel_rfl
theorem fn_0_range (call : Str → List Sl → CR) : (ctxOf G d_0 call).fns "range" = none := by kernel_rfl
theorem bt_0_range (call : Str → List Sl → CR) : (ctxOf G d_0 call).blt "range" = true := by kernel_rfl
theorem g1_0 (call : Str → List Sl → CR) (E : Ev) (a : Expr) (p r : Pos) (ρ : PEnv) : iterP (ctxOf G d_0 call) E (.Call (.Name "range" p) [a] [] r) ρ = if (!starred a) = true then (E.ev a ρ).bind fun v ρ' => rng1 v.1 ρ' else iterV E (.Call (.Name "range" p) [a] [] r) ρ := by kernel_rfl
theorem g2_0 (call : Str → List Sl → CR) (E : Ev) (a b : Expr) (p r : Pos) (ρ : PEnv) : iterP (ctxOf G d_0 call) E (.Call (.Name "range" p) [a, b] [] r) ρ = if ((!starred a) && !starred b) = true then (E.ev a ρ).bind fun v ρ1 => (E.ev b ρ1).bind fun u ρ2 => rng2 v.1 u.1 ρ2 else iterV E (.Call (.Name "range" p) [a, b] [] r) ρ := by kernel_rfl
def cmp_0 (ci : Nat → List Sl → CR) : {f : PEnv → SR // ∀ ρ, blk (evN FU (ctxOf G d_0 (cl ci))) (L2.defBody (top 1)) ρ = f ρ} := by
  apply Subtype.mk
  intro ρ
  simp only [L2.defBody, top, PySem.Challenge.pw_twicedial_k14_rows_in_least_form, List.getD_cons_succ, List.getD_cons_zero]
  simp only [FU, k_nil, k_one, k_cons2, q_st, q_ev, q_ts, u_pass, u_break, u_cont, u_doc, u_exprC, u_retN, u_set, u_tupT, u_tupN, u_tupC, u_tupS, q_name, q_int, q_str, q_bool, q_none, q_bin, q_not, q_neg, q_bool2, q_cmp, q_cmp2, q_tup, q_lst, q_dct, q_slc, q_subC, q_subN, q_subB, q_subU, q_subF, q_subS, q_subI, q_subT, it_N, it_B, it_S, it_T, it_L, it_C, it_I, it_Z, it_Y, it_M, it_O, q_meth, ti_nil, ti_one, kp_eq, tg_name, tg_tup, t_not, t_bool, t_cmp, t_cmp2, t_name, t_call, b_ok, b_no, s_ok, s_no, o_some, o_none, n_some, n_none, pk2, pk2m, pkE, sl3, cmp1, cmp2, noSet, noSlice, noComp, noSuper, okAsg, starred, items, dispP, isMut, tupS, swP, swNs, swNm, parP, pi_nil, pi_cons, slz_nil, slz_cons, hdS_c, nlS_n, sn_nil, sn_cons, unpk_eq, un1_t, hd1_c, nl1_n, sq_un1, tg2_q, iterV, callP_eq, args1, a2_nil, a2_some, a2_none, a2n_t, a2n_f, lend_b, show_b, given_b, cbk_b, List.nil_append, List.append_nil, List.cons_append, rd_blk, pk_blk, ln_blk, set_blk, call_blk, slB, isStoB, isLoc, isGlo, isLc, str_beq, str_eq, decide_str, String.reduceBEq, String.reduceEq, String.reduceNe, ownOf, List.filterMap_cons, List.filterMap_nil, List.map_cons, List.map_nil, isBlt, L2.blkC, List.mem_cons, List.not_mem_nil, or_false, false_or, List.getElem?_cons_succ, List.getElem?_cons_zero, or_true, true_or, if_true, if_false, ite_true, ite_false, Bool.and_true, Bool.true_and, Bool.and_false, Bool.false_and, Bool.or_true, Bool.or_false, Bool.true_or, Bool.false_or, Bool.not_true, Bool.not_false, List.lookup_cons, List.lookup_nil, beq_self_eq_true, decide_true, decide_false, Option.map_some, Option.map_none, Option.bind_some, Option.bind_none, Bool.false_eq_true, ne_eq, not_true, not_false_iff, List.length_cons, List.length_nil, List.any_cons, List.any_nil, List.all_cons, List.all_nil, Bool.true_eq_false, Bool.not_eq_true', bne, List.headD_cons, List.tail_cons, eq_self, sq_nx, sq_rt, sq_bk, sq_ct, sq_no, sq_s, sq_nxO, sq_os, List.head?_cons, Option.getD_some, PySem.Expr.pos, Nat.reduceBEq, Nat.reduceBNe, Nat.reduceEqDiff, Nat.reduceAdd, List.eraseDups, List.eraseDupsBy, List.eraseDupsBy.loop, List.reverse_cons, List.reverse_nil, foldedForSure, constantsAlone, List.reverseAux, List.reverse, Nat.zero_add, cx_some, cx_1, cx_2, inBlk_call, ln_C, ln_B, ln_U, ln_F, ln_S, ln_I, ln_T, ln_L, ln_O, ln_P, ln_D, ln_Q, b_assoc, s_assoc, b_ofO, s_ofO, ob_b, ob_s, ob_some, os_some, pkB, rdB, stB, w_len, w_int, w_tuple, w_list, w_str, w_abs, w_sum, w_max, w_min, w_max2, w_min2, w_gcd, w_iInt, w_iBool, w_iTuple, w_iStr, w_iList, w_join, bv_one, bv_cons, bt_one, bt_cons, u_ret1, u_ret2, u_ret3, u_ret4, u_ret5, u_ret6, u_ret7, u_ret8, u_ret9, u_ret10, u_ret11, u_ret12, partE_s, partE_n, nk_cl, nk_ll, u_raise, Q_for, Q_while, Q_if, Q_ife, Q_lc, lcQ_true, ok_cycle, ok_head, ok_len, ok_range, ok_size, nn_0, kd_0, x_0_head, r_0_head, p_0_head, m_0_head, s_0_head, c_0_head, l_0_head, rn_0_head, o_0_head, il_0_head, x_0_cycle, r_0_cycle, p_0_cycle, m_0_cycle, s_0_cycle, c_0_cycle, l_0_cycle, rn_0_cycle, o_0_cycle, il_0_cycle, x_0_size, r_0_size, p_0_size, m_0_size, s_0_size, c_0_size, l_0_size, rn_0_size, o_0_size, il_0_size, cc_0, fn_0_len, bt_0_len, i1_0_len, i2_0_len, b1_0_len, fn_0_range, bt_0_range, g1_0, g2_0]
  simp only [lit_2]
  exact rfl
theorem ok_row : okNm "row" = true := rfl
theorem nn_1 (call : Str → List Sl → CR) : (ctxOf G d_1 call).N = [("row" : Str)] := by kernel_rfl
theorem kd_1 (call : Str → List Sl → CR) : isFnK (ctxOf G d_1 call).sc = true := by kernel_rfl
theorem x_1_row (call : Str → List Sl → CR) : TW.ixN [("row" : Str)] "row" = some 0 := rfl
theorem r_1_row (call : Str → List Sl → CR) (ρ : PEnv) : rdName (ctxOf G d_1 call) "row" ρ = rdSl 0 ρ := by kernel_rfl
theorem p_1_row (call : Str → List Sl → CR) (ρ : PEnv) : pkName (ctxOf G d_1 call) "row" ρ = pkSl 0 ρ := by kernel_rfl
theorem m_1_row (call : Str → List Sl → CR) (ρ : PEnv) : mutSl (ctxOf G d_1 call) "row" ρ = mtSl 0 ρ := by kernel_rfl
theorem s_1_row (call : Str → List Sl → CR) (s : Sl) (ρ : PEnv) : setSl (ctxOf G d_1 call) "row" s ρ = putSl 0 s ρ := by kernel_rfl
theorem c_1_row (call : Str → List Sl → CR) (d : PyData) (f : Bool) : ctName (ctxOf G d_1 call) "row" d f = ctB false d f := by kernel_rfl
theorem l_1_row (call : Str → List Sl → CR) (p : Pos) : lnOf (ctxOf G d_1 call) (.Name "row" p) = some (("row" : Str), 0) := by kernel_rfl
theorem rn_1_row (call : Str → List Sl → CR) (n : Nat) (p p2 : Pos) (ρ : PEnv) : stStep (evN (n + 1)) (ctxOf G d_1 call) (.Return (some (.Name "row" p)) p2) ρ = retN 0 ρ := by kernel_rfl
theorem o_1_row (call : Str → List Sl → CR) : slotOf (ctxOf G d_1 call) "row" = some 0 := by kernel_rfl
theorem il_1_row (call : Str → List Sl → CR) : (ctxOf G d_1 call).sc.names.lookup ("row" : Str) = some NameKind.local := by kernel_rfl
theorem cc_1 (call : Str → List Sl → CR) (f : Str) (as : List Sl) : (ctxOf G d_1 call).call f as = call f as := by kernel_rfl
def cmp_1 (ci : Nat → List Sl → CR) : {f : PEnv → SR // ∀ ρ, blk (evN FU (ctxOf G d_1 (cl ci))) (L2.defBody (top 2)) ρ = f ρ} := by
  apply Subtype.mk
  intro ρ
  simp only [L2.defBody, top, PySem.Challenge.pw_twicedial_k14_rows_in_least_form, List.getD_cons_succ, List.getD_cons_zero]
  simp only [FU, k_nil, k_one, k_cons2, q_st, q_ev, q_ts, u_pass, u_break, u_cont, u_doc, u_exprC, u_retN, u_set, u_tupT, u_tupN, u_tupC, u_tupS, q_name, q_int, q_str, q_bool, q_none, q_bin, q_not, q_neg, q_bool2, q_cmp, q_cmp2, q_tup, q_lst, q_dct, q_slc, q_subC, q_subN, q_subB, q_subU, q_subF, q_subS, q_subI, q_subT, it_N, it_B, it_S, it_T, it_L, it_C, it_I, it_Z, it_Y, it_M, it_O, q_meth, ti_nil, ti_one, kp_eq, tg_name, tg_tup, t_not, t_bool, t_cmp, t_cmp2, t_name, t_call, b_ok, b_no, s_ok, s_no, o_some, o_none, n_some, n_none, pk2, pk2m, pkE, sl3, cmp1, cmp2, noSet, noSlice, noComp, noSuper, okAsg, starred, items, dispP, isMut, tupS, swP, swNs, swNm, parP, pi_nil, pi_cons, slz_nil, slz_cons, hdS_c, nlS_n, sn_nil, sn_cons, unpk_eq, un1_t, hd1_c, nl1_n, sq_un1, tg2_q, iterV, callP_eq, args1, a2_nil, a2_some, a2_none, a2n_t, a2n_f, lend_b, show_b, given_b, cbk_b, List.nil_append, List.append_nil, List.cons_append, rd_blk, pk_blk, ln_blk, set_blk, call_blk, slB, isStoB, isLoc, isGlo, isLc, str_beq, str_eq, decide_str, String.reduceBEq, String.reduceEq, String.reduceNe, ownOf, List.filterMap_cons, List.filterMap_nil, List.map_cons, List.map_nil, isBlt, L2.blkC, List.mem_cons, List.not_mem_nil, or_false, false_or, List.getElem?_cons_succ, List.getElem?_cons_zero, or_true, true_or, if_true, if_false, ite_true, ite_false, Bool.and_true, Bool.true_and, Bool.and_false, Bool.false_and, Bool.or_true, Bool.or_false, Bool.true_or, Bool.false_or, Bool.not_true, Bool.not_false, List.lookup_cons, List.lookup_nil, beq_self_eq_true, decide_true, decide_false, Option.map_some, Option.map_none, Option.bind_some, Option.bind_none, Bool.false_eq_true, ne_eq, not_true, not_false_iff, List.length_cons, List.length_nil, List.any_cons, List.any_nil, List.all_cons, List.all_nil, Bool.true_eq_false, Bool.not_eq_true', bne, List.headD_cons, List.tail_cons, eq_self, sq_nx, sq_rt, sq_bk, sq_ct, sq_no, sq_s, sq_nxO, sq_os, List.head?_cons, Option.getD_some, PySem.Expr.pos, Nat.reduceBEq, Nat.reduceBNe, Nat.reduceEqDiff, Nat.reduceAdd, List.eraseDups, List.eraseDupsBy, List.eraseDupsBy.loop, List.reverse_cons, List.reverse_nil, foldedForSure, constantsAlone, List.reverseAux, List.reverse, Nat.zero_add, cx_some, cx_1, cx_2, inBlk_call, ln_C, ln_B, ln_U, ln_F, ln_S, ln_I, ln_T, ln_L, ln_O, ln_P, ln_D, ln_Q, b_assoc, s_assoc, b_ofO, s_ofO, ob_b, ob_s, ob_some, os_some, pkB, rdB, stB, w_len, w_int, w_tuple, w_list, w_str, w_abs, w_sum, w_max, w_min, w_max2, w_min2, w_gcd, w_iInt, w_iBool, w_iTuple, w_iStr, w_iList, w_join, bv_one, bv_cons, bt_one, bt_cons, u_ret1, u_ret2, u_ret3, u_ret4, u_ret5, u_ret6, u_ret7, u_ret8, u_ret9, u_ret10, u_ret11, u_ret12, partE_s, partE_n, nk_cl, nk_ll, u_raise, Q_for, Q_while, Q_if, Q_ife, Q_lc, lcQ_true, ok_row, nn_1, kd_1, x_1_row, r_1_row, p_1_row, m_1_row, s_1_row, c_1_row, l_1_row, rn_1_row, o_1_row, il_1_row, cc_1]
  simp only [lit_2]
  exact rfl
theorem nn_2 (call : Str → List Sl → CR) : (ctxOf G d_2 call).N = [("row" : Str), ("head" : Str), ("cycle" : Str)] := by kernel_rfl
theorem kd_2 (call : Str → List Sl → CR) : isFnK (ctxOf G d_2 call).sc = true := by kernel_rfl
theorem x_2_row (call : Str → List Sl → CR) : TW.ixN [("row" : Str), ("head" : Str), ("cycle" : Str)] "row" = some 0 := rfl
theorem r_2_row (call : Str → List Sl → CR) (ρ : PEnv) : rdName (ctxOf G d_2 call) "row" ρ = rdSl 0 ρ := by kernel_rfl
theorem p_2_row (call : Str → List Sl → CR) (ρ : PEnv) : pkName (ctxOf G d_2 call) "row" ρ = pkSl 0 ρ := by kernel_rfl
theorem m_2_row (call : Str → List Sl → CR) (ρ : PEnv) : mutSl (ctxOf G d_2 call) "row" ρ = mtSl 0 ρ := by kernel_rfl
theorem s_2_row (call : Str → List Sl → CR) (s : Sl) (ρ : PEnv) : setSl (ctxOf G d_2 call) "row" s ρ = putSl 0 s ρ := by kernel_rfl
theorem c_2_row (call : Str → List Sl → CR) (d : PyData) (f : Bool) : ctName (ctxOf G d_2 call) "row" d f = ctB false d f := by kernel_rfl
theorem l_2_row (call : Str → List Sl → CR) (p : Pos) : lnOf (ctxOf G d_2 call) (.Name "row" p) = some (("row" : Str), 0) := by kernel_rfl
theorem rn_2_row (call : Str → List Sl → CR) (n : Nat) (p p2 : Pos) (ρ : PEnv) : stStep (evN (n + 1)) (ctxOf G d_2 call) (.Return (some (.Name "row" p)) p2) ρ = retN 0 ρ := by kernel_rfl
theorem o_2_row (call : Str → List Sl → CR) : slotOf (ctxOf G d_2 call) "row" = some 0 := by kernel_rfl
theorem il_2_row (call : Str → List Sl → CR) : (ctxOf G d_2 call).sc.names.lookup ("row" : Str) = some NameKind.local := by kernel_rfl
theorem x_2_head (call : Str → List Sl → CR) : TW.ixN [("row" : Str), ("head" : Str), ("cycle" : Str)] "head" = some 1 := rfl
theorem r_2_head (call : Str → List Sl → CR) (ρ : PEnv) : rdName (ctxOf G d_2 call) "head" ρ = rdSl 1 ρ := by kernel_rfl
theorem p_2_head (call : Str → List Sl → CR) (ρ : PEnv) : pkName (ctxOf G d_2 call) "head" ρ = pkSl 1 ρ := by kernel_rfl
theorem m_2_head (call : Str → List Sl → CR) (ρ : PEnv) : mutSl (ctxOf G d_2 call) "head" ρ = mtSl 1 ρ := by kernel_rfl
theorem s_2_head (call : Str → List Sl → CR) (s : Sl) (ρ : PEnv) : setSl (ctxOf G d_2 call) "head" s ρ = putSl 1 s ρ := by kernel_rfl
theorem c_2_head (call : Str → List Sl → CR) (d : PyData) (f : Bool) : ctName (ctxOf G d_2 call) "head" d f = ctB false d f := by kernel_rfl
theorem l_2_head (call : Str → List Sl → CR) (p : Pos) : lnOf (ctxOf G d_2 call) (.Name "head" p) = some (("head" : Str), 1) := by kernel_rfl
theorem rn_2_head (call : Str → List Sl → CR) (n : Nat) (p p2 : Pos) (ρ : PEnv) : stStep (evN (n + 1)) (ctxOf G d_2 call) (.Return (some (.Name "head" p)) p2) ρ = retN 1 ρ := by kernel_rfl
theorem o_2_head (call : Str → List Sl → CR) : slotOf (ctxOf G d_2 call) "head" = some 1 := by kernel_rfl
theorem il_2_head (call : Str → List Sl → CR) : (ctxOf G d_2 call).sc.names.lookup ("head" : Str) = some NameKind.local := by kernel_rfl
theorem x_2_cycle (call : Str → List Sl → CR) : TW.ixN [("row" : Str), ("head" : Str), ("cycle" : Str)] "cycle" = some 2 := rfl
theorem r_2_cycle (call : Str → List Sl → CR) (ρ : PEnv) : rdName (ctxOf G d_2 call) "cycle" ρ = rdSl 2 ρ := by kernel_rfl
theorem p_2_cycle (call : Str → List Sl → CR) (ρ : PEnv) : pkName (ctxOf G d_2 call) "cycle" ρ = pkSl 2 ρ := by kernel_rfl
theorem m_2_cycle (call : Str → List Sl → CR) (ρ : PEnv) : mutSl (ctxOf G d_2 call) "cycle" ρ = mtSl 2 ρ := by kernel_rfl
theorem s_2_cycle (call : Str → List Sl → CR) (s : Sl) (ρ : PEnv) : setSl (ctxOf G d_2 call) "cycle" s ρ = putSl 2 s ρ := by kernel_rfl
theorem c_2_cycle (call : Str → List Sl → CR) (d : PyData) (f : Bool) : ctName (ctxOf G d_2 call) "cycle" d f = ctB false d f := by kernel_rfl
theorem l_2_cycle (call : Str → List Sl → CR) (p : Pos) : lnOf (ctxOf G d_2 call) (.Name "cycle" p) = some (("cycle" : Str), 2) := by kernel_rfl
theorem rn_2_cycle (call : Str → List Sl → CR) (n : Nat) (p p2 : Pos) (ρ : PEnv) : stStep (evN (n + 1)) (ctxOf G d_2 call) (.Return (some (.Name "cycle" p)) p2) ρ = retN 2 ρ := by kernel_rfl
theorem o_2_cycle (call : Str → List Sl → CR) : slotOf (ctxOf G d_2 call) "cycle" = some 2 := by kernel_rfl
theorem il_2_cycle (call : Str → List Sl → CR) : (ctxOf G d_2 call).sc.names.lookup ("cycle" : Str) = some NameKind.local := by kernel_rfl
theorem cc_2 (call : Str → List Sl → CR) (f : Str) (as : List Sl) : (ctxOf G d_2 call).call f as = call f as := by kernel_rfl
def cmp_2 (ci : Nat → List Sl → CR) : {f : PEnv → SR // ∀ ρ, blk (evN FU (ctxOf G d_2 (cl ci))) (L2.defBody (top 3)) ρ = f ρ} := by
  apply Subtype.mk
  intro ρ
  simp only [L2.defBody, top, PySem.Challenge.pw_twicedial_k14_rows_in_least_form, List.getD_cons_succ, List.getD_cons_zero]
  simp only [FU, k_nil, k_one, k_cons2, q_st, q_ev, q_ts, u_pass, u_break, u_cont, u_doc, u_exprC, u_retN, u_set, u_tupT, u_tupN, u_tupC, u_tupS, q_name, q_int, q_str, q_bool, q_none, q_bin, q_not, q_neg, q_bool2, q_cmp, q_cmp2, q_tup, q_lst, q_dct, q_slc, q_subC, q_subN, q_subB, q_subU, q_subF, q_subS, q_subI, q_subT, it_N, it_B, it_S, it_T, it_L, it_C, it_I, it_Z, it_Y, it_M, it_O, q_meth, ti_nil, ti_one, kp_eq, tg_name, tg_tup, t_not, t_bool, t_cmp, t_cmp2, t_name, t_call, b_ok, b_no, s_ok, s_no, o_some, o_none, n_some, n_none, pk2, pk2m, pkE, sl3, cmp1, cmp2, noSet, noSlice, noComp, noSuper, okAsg, starred, items, dispP, isMut, tupS, swP, swNs, swNm, parP, pi_nil, pi_cons, slz_nil, slz_cons, hdS_c, nlS_n, sn_nil, sn_cons, unpk_eq, un1_t, hd1_c, nl1_n, sq_un1, tg2_q, iterV, callP_eq, args1, a2_nil, a2_some, a2_none, a2n_t, a2n_f, lend_b, show_b, given_b, cbk_b, List.nil_append, List.append_nil, List.cons_append, rd_blk, pk_blk, ln_blk, set_blk, call_blk, slB, isStoB, isLoc, isGlo, isLc, str_beq, str_eq, decide_str, String.reduceBEq, String.reduceEq, String.reduceNe, ownOf, List.filterMap_cons, List.filterMap_nil, List.map_cons, List.map_nil, isBlt, L2.blkC, List.mem_cons, List.not_mem_nil, or_false, false_or, List.getElem?_cons_succ, List.getElem?_cons_zero, or_true, true_or, if_true, if_false, ite_true, ite_false, Bool.and_true, Bool.true_and, Bool.and_false, Bool.false_and, Bool.or_true, Bool.or_false, Bool.true_or, Bool.false_or, Bool.not_true, Bool.not_false, List.lookup_cons, List.lookup_nil, beq_self_eq_true, decide_true, decide_false, Option.map_some, Option.map_none, Option.bind_some, Option.bind_none, Bool.false_eq_true, ne_eq, not_true, not_false_iff, List.length_cons, List.length_nil, List.any_cons, List.any_nil, List.all_cons, List.all_nil, Bool.true_eq_false, Bool.not_eq_true', bne, List.headD_cons, List.tail_cons, eq_self, sq_nx, sq_rt, sq_bk, sq_ct, sq_no, sq_s, sq_nxO, sq_os, List.head?_cons, Option.getD_some, PySem.Expr.pos, Nat.reduceBEq, Nat.reduceBNe, Nat.reduceEqDiff, Nat.reduceAdd, List.eraseDups, List.eraseDupsBy, List.eraseDupsBy.loop, List.reverse_cons, List.reverse_nil, foldedForSure, constantsAlone, List.reverseAux, List.reverse, Nat.zero_add, cx_some, cx_1, cx_2, inBlk_call, ln_C, ln_B, ln_U, ln_F, ln_S, ln_I, ln_T, ln_L, ln_O, ln_P, ln_D, ln_Q, b_assoc, s_assoc, b_ofO, s_ofO, ob_b, ob_s, ob_some, os_some, pkB, rdB, stB, w_len, w_int, w_tuple, w_list, w_str, w_abs, w_sum, w_max, w_min, w_max2, w_min2, w_gcd, w_iInt, w_iBool, w_iTuple, w_iStr, w_iList, w_join, bv_one, bv_cons, bt_one, bt_cons, u_ret1, u_ret2, u_ret3, u_ret4, u_ret5, u_ret6, u_ret7, u_ret8, u_ret9, u_ret10, u_ret11, u_ret12, partE_s, partE_n, nk_cl, nk_ll, u_raise, Q_for, Q_while, Q_if, Q_ife, Q_lc, lcQ_true, ok_cycle, ok_head, ok_row, nn_2, kd_2, x_2_row, r_2_row, p_2_row, m_2_row, s_2_row, c_2_row, l_2_row, rn_2_row, o_2_row, il_2_row, x_2_head, r_2_head, p_2_head, m_2_head, s_2_head, c_2_head, l_2_head, rn_2_head, o_2_head, il_2_head, x_2_cycle, r_2_cycle, p_2_cycle, m_2_cycle, s_2_cycle, c_2_cycle, l_2_cycle, rn_2_cycle, o_2_cycle, il_2_cycle, cc_2]
  simp only [lit_2]
  exact rfl
theorem ok_cell : okNm "cell" = true := rfl
theorem ok_cells : okNm "cells" = true := rfl
theorem ok_great : okNm "great" = true := rfl
theorem ok_int : okNm "int" = true := rfl
theorem ok_k : okNm "k" = true := rfl
theorem ok_script : okNm "script" = true := rfl
theorem ok_seed : okNm "seed" = true := rfl
theorem nn_3 (call : Str → List Sl → CR) : (ctxOf G d_3 call).N = [("script" : Str), ("k" : Str), ("cells" : Str), ("great" : Str), ("seed" : Str), ("cell" : Str)] := by kernel_rfl
theorem kd_3 (call : Str → List Sl → CR) : isFnK (ctxOf G d_3 call).sc = true := by kernel_rfl
theorem x_3_script (call : Str → List Sl → CR) : TW.ixN [("script" : Str), ("k" : Str), ("cells" : Str), ("great" : Str), ("seed" : Str), ("cell" : Str)] "script" = some 0 := rfl
theorem r_3_script (call : Str → List Sl → CR) (ρ : PEnv) : rdName (ctxOf G d_3 call) "script" ρ = rdSl 0 ρ := by kernel_rfl
theorem p_3_script (call : Str → List Sl → CR) (ρ : PEnv) : pkName (ctxOf G d_3 call) "script" ρ = pkSl 0 ρ := by kernel_rfl
theorem m_3_script (call : Str → List Sl → CR) (ρ : PEnv) : mutSl (ctxOf G d_3 call) "script" ρ = mtSl 0 ρ := by kernel_rfl
theorem s_3_script (call : Str → List Sl → CR) (s : Sl) (ρ : PEnv) : setSl (ctxOf G d_3 call) "script" s ρ = putSl 0 s ρ := by kernel_rfl
theorem c_3_script (call : Str → List Sl → CR) (d : PyData) (f : Bool) : ctName (ctxOf G d_3 call) "script" d f = ctB false d f := by kernel_rfl
theorem l_3_script (call : Str → List Sl → CR) (p : Pos) : lnOf (ctxOf G d_3 call) (.Name "script" p) = some (("script" : Str), 0) := by kernel_rfl
theorem rn_3_script (call : Str → List Sl → CR) (n : Nat) (p p2 : Pos) (ρ : PEnv) : stStep (evN (n + 1)) (ctxOf G d_3 call) (.Return (some (.Name "script" p)) p2) ρ = retN 0 ρ := by kernel_rfl
theorem o_3_script (call : Str → List Sl → CR) : slotOf (ctxOf G d_3 call) "script" = some 0 := by kernel_rfl
theorem il_3_script (call : Str → List Sl → CR) : (ctxOf G d_3 call).sc.names.lookup ("script" : Str) = some NameKind.local := by kernel_rfl
theorem x_3_k (call : Str → List Sl → CR) : TW.ixN [("script" : Str), ("k" : Str), ("cells" : Str), ("great" : Str), ("seed" : Str), ("cell" : Str)] "k" = some 1 := rfl
theorem r_3_k (call : Str → List Sl → CR) (ρ : PEnv) : rdName (ctxOf G d_3 call) "k" ρ = rdSl 1 ρ := by kernel_rfl
theorem p_3_k (call : Str → List Sl → CR) (ρ : PEnv) : pkName (ctxOf G d_3 call) "k" ρ = pkSl 1 ρ := by kernel_rfl
theorem m_3_k (call : Str → List Sl → CR) (ρ : PEnv) : mutSl (ctxOf G d_3 call) "k" ρ = mtSl 1 ρ := by kernel_rfl
theorem s_3_k (call : Str → List Sl → CR) (s : Sl) (ρ : PEnv) : setSl (ctxOf G d_3 call) "k" s ρ = putSl 1 s ρ := by kernel_rfl
theorem c_3_k (call : Str → List Sl → CR) (d : PyData) (f : Bool) : ctName (ctxOf G d_3 call) "k" d f = ctB false d f := by kernel_rfl
theorem l_3_k (call : Str → List Sl → CR) (p : Pos) : lnOf (ctxOf G d_3 call) (.Name "k" p) = some (("k" : Str), 1) := by kernel_rfl
theorem rn_3_k (call : Str → List Sl → CR) (n : Nat) (p p2 : Pos) (ρ : PEnv) : stStep (evN (n + 1)) (ctxOf G d_3 call) (.Return (some (.Name "k" p)) p2) ρ = retN 1 ρ := by kernel_rfl
theorem o_3_k (call : Str → List Sl → CR) : slotOf (ctxOf G d_3 call) "k" = some 1 := by kernel_rfl
theorem il_3_k (call : Str → List Sl → CR) : (ctxOf G d_3 call).sc.names.lookup ("k" : Str) = some NameKind.local := by kernel_rfl
theorem x_3_cells (call : Str → List Sl → CR) : TW.ixN [("script" : Str), ("k" : Str), ("cells" : Str), ("great" : Str), ("seed" : Str), ("cell" : Str)] "cells" = some 2 := rfl
theorem r_3_cells (call : Str → List Sl → CR) (ρ : PEnv) : rdName (ctxOf G d_3 call) "cells" ρ = rdSl 2 ρ := by kernel_rfl
theorem p_3_cells (call : Str → List Sl → CR) (ρ : PEnv) : pkName (ctxOf G d_3 call) "cells" ρ = pkSl 2 ρ := by kernel_rfl
theorem m_3_cells (call : Str → List Sl → CR) (ρ : PEnv) : mutSl (ctxOf G d_3 call) "cells" ρ = mtSl 2 ρ := by kernel_rfl
theorem s_3_cells (call : Str → List Sl → CR) (s : Sl) (ρ : PEnv) : setSl (ctxOf G d_3 call) "cells" s ρ = putSl 2 s ρ := by kernel_rfl
theorem c_3_cells (call : Str → List Sl → CR) (d : PyData) (f : Bool) : ctName (ctxOf G d_3 call) "cells" d f = ctB false d f := by kernel_rfl
theorem l_3_cells (call : Str → List Sl → CR) (p : Pos) : lnOf (ctxOf G d_3 call) (.Name "cells" p) = some (("cells" : Str), 2) := by kernel_rfl
theorem rn_3_cells (call : Str → List Sl → CR) (n : Nat) (p p2 : Pos) (ρ : PEnv) : stStep (evN (n + 1)) (ctxOf G d_3 call) (.Return (some (.Name "cells" p)) p2) ρ = retN 2 ρ := by kernel_rfl
theorem o_3_cells (call : Str → List Sl → CR) : slotOf (ctxOf G d_3 call) "cells" = some 2 := by kernel_rfl
theorem il_3_cells (call : Str → List Sl → CR) : (ctxOf G d_3 call).sc.names.lookup ("cells" : Str) = some NameKind.local := by kernel_rfl
theorem x_3_great (call : Str → List Sl → CR) : TW.ixN [("script" : Str), ("k" : Str), ("cells" : Str), ("great" : Str), ("seed" : Str), ("cell" : Str)] "great" = some 3 := rfl
theorem r_3_great (call : Str → List Sl → CR) (ρ : PEnv) : rdName (ctxOf G d_3 call) "great" ρ = rdSl 3 ρ := by kernel_rfl
theorem p_3_great (call : Str → List Sl → CR) (ρ : PEnv) : pkName (ctxOf G d_3 call) "great" ρ = pkSl 3 ρ := by kernel_rfl
theorem m_3_great (call : Str → List Sl → CR) (ρ : PEnv) : mutSl (ctxOf G d_3 call) "great" ρ = mtSl 3 ρ := by kernel_rfl
theorem s_3_great (call : Str → List Sl → CR) (s : Sl) (ρ : PEnv) : setSl (ctxOf G d_3 call) "great" s ρ = putSl 3 s ρ := by kernel_rfl
theorem c_3_great (call : Str → List Sl → CR) (d : PyData) (f : Bool) : ctName (ctxOf G d_3 call) "great" d f = ctB false d f := by kernel_rfl
theorem l_3_great (call : Str → List Sl → CR) (p : Pos) : lnOf (ctxOf G d_3 call) (.Name "great" p) = some (("great" : Str), 3) := by kernel_rfl
theorem rn_3_great (call : Str → List Sl → CR) (n : Nat) (p p2 : Pos) (ρ : PEnv) : stStep (evN (n + 1)) (ctxOf G d_3 call) (.Return (some (.Name "great" p)) p2) ρ = retN 3 ρ := by kernel_rfl
theorem o_3_great (call : Str → List Sl → CR) : slotOf (ctxOf G d_3 call) "great" = some 3 := by kernel_rfl
theorem il_3_great (call : Str → List Sl → CR) : (ctxOf G d_3 call).sc.names.lookup ("great" : Str) = some NameKind.local := by kernel_rfl
theorem x_3_seed (call : Str → List Sl → CR) : TW.ixN [("script" : Str), ("k" : Str), ("cells" : Str), ("great" : Str), ("seed" : Str), ("cell" : Str)] "seed" = some 4 := rfl
theorem r_3_seed (call : Str → List Sl → CR) (ρ : PEnv) : rdName (ctxOf G d_3 call) "seed" ρ = rdSl 4 ρ := by kernel_rfl
theorem p_3_seed (call : Str → List Sl → CR) (ρ : PEnv) : pkName (ctxOf G d_3 call) "seed" ρ = pkSl 4 ρ := by kernel_rfl
theorem m_3_seed (call : Str → List Sl → CR) (ρ : PEnv) : mutSl (ctxOf G d_3 call) "seed" ρ = mtSl 4 ρ := by kernel_rfl
theorem s_3_seed (call : Str → List Sl → CR) (s : Sl) (ρ : PEnv) : setSl (ctxOf G d_3 call) "seed" s ρ = putSl 4 s ρ := by kernel_rfl
theorem c_3_seed (call : Str → List Sl → CR) (d : PyData) (f : Bool) : ctName (ctxOf G d_3 call) "seed" d f = ctB false d f := by kernel_rfl
theorem l_3_seed (call : Str → List Sl → CR) (p : Pos) : lnOf (ctxOf G d_3 call) (.Name "seed" p) = some (("seed" : Str), 4) := by kernel_rfl
theorem rn_3_seed (call : Str → List Sl → CR) (n : Nat) (p p2 : Pos) (ρ : PEnv) : stStep (evN (n + 1)) (ctxOf G d_3 call) (.Return (some (.Name "seed" p)) p2) ρ = retN 4 ρ := by kernel_rfl
theorem o_3_seed (call : Str → List Sl → CR) : slotOf (ctxOf G d_3 call) "seed" = some 4 := by kernel_rfl
theorem il_3_seed (call : Str → List Sl → CR) : (ctxOf G d_3 call).sc.names.lookup ("seed" : Str) = some NameKind.local := by kernel_rfl
theorem x_3_cell (call : Str → List Sl → CR) : TW.ixN [("script" : Str), ("k" : Str), ("cells" : Str), ("great" : Str), ("seed" : Str), ("cell" : Str)] "cell" = some 5 := rfl
theorem r_3_cell (call : Str → List Sl → CR) (ρ : PEnv) : rdName (ctxOf G d_3 call) "cell" ρ = rdSl 5 ρ := by kernel_rfl
theorem p_3_cell (call : Str → List Sl → CR) (ρ : PEnv) : pkName (ctxOf G d_3 call) "cell" ρ = pkSl 5 ρ := by kernel_rfl
theorem m_3_cell (call : Str → List Sl → CR) (ρ : PEnv) : mutSl (ctxOf G d_3 call) "cell" ρ = mtSl 5 ρ := by kernel_rfl
theorem s_3_cell (call : Str → List Sl → CR) (s : Sl) (ρ : PEnv) : setSl (ctxOf G d_3 call) "cell" s ρ = putSl 5 s ρ := by kernel_rfl
theorem c_3_cell (call : Str → List Sl → CR) (d : PyData) (f : Bool) : ctName (ctxOf G d_3 call) "cell" d f = ctB false d f := by kernel_rfl
theorem l_3_cell (call : Str → List Sl → CR) (p : Pos) : lnOf (ctxOf G d_3 call) (.Name "cell" p) = some (("cell" : Str), 5) := by kernel_rfl
theorem rn_3_cell (call : Str → List Sl → CR) (n : Nat) (p p2 : Pos) (ρ : PEnv) : stStep (evN (n + 1)) (ctxOf G d_3 call) (.Return (some (.Name "cell" p)) p2) ρ = retN 5 ρ := by kernel_rfl
theorem o_3_cell (call : Str → List Sl → CR) : slotOf (ctxOf G d_3 call) "cell" = some 5 := by kernel_rfl
theorem il_3_cell (call : Str → List Sl → CR) : (ctxOf G d_3 call).sc.names.lookup ("cell" : Str) = some NameKind.local := by kernel_rfl
theorem x_3_dot0 (call : Str → List Sl → CR) : TW.ixN [("script" : Str), ("k" : Str), ("cells" : Str), ("great" : Str), ("seed" : Str), ("cell" : Str)] ".0" = none := rfl
theorem cc_3 (call : Str → List Sl → CR) (f : Str) (as : List Sl) : (ctxOf G d_3 call).call f as = call f as := by kernel_rfl
theorem fn_3_int (call : Str → List Sl → CR) : (ctxOf G d_3 call).fns "int" = none := by kernel_rfl
theorem bt_3_int (call : Str → List Sl → CR) : (ctxOf G d_3 call).blt "int" = true := by kernel_rfl
theorem i1_3_int (call : Str → List Sl → CR) (E : Ev) (a : Expr) (p r : Pos) (ρ : PEnv) : iterP (ctxOf G d_3 call) E (.Call (.Name "int" p) [a] [] r) ρ = iterV E (.Call (.Name "int" p) [a] [] r) ρ := by kernel_rfl
theorem i2_3_int (call : Str → List Sl → CR) (E : Ev) (a b : Expr) (p r : Pos) (ρ : PEnv) : iterP (ctxOf G d_3 call) E (.Call (.Name "int" p) [a, b] [] r) ρ = iterV E (.Call (.Name "int" p) [a, b] [] r) ρ := by kernel_rfl
theorem b1_3_int (call : Str → List Sl → CR) (E : TW.Ctx → Ev) (a : Expr) (p r : Pos) (ρ : PEnv) : evStep E (ctxOf G d_3 call) (.Call (.Name "int" p) [a] [] r) ρ = if (!starred a) = true then (pkE (ctxOf G d_3 call) (E (ctxOf G d_3 call)) a ρ).bind fun d ρ' => ofO (bi1P "int" d) ρ' else .no := by kernel_rfl
def cmp_3 (ci : Nat → List Sl → CR) : {f : PEnv → SR // ∀ ρ, blk (evN FU (ctxOf G d_3 (cl ci))) (L2.defBody (top 5)) ρ = f ρ} := by
  apply Subtype.mk
  intro ρ
  simp only [L2.defBody, top, PySem.Challenge.pw_twicedial_k14_rows_in_least_form, List.getD_cons_succ, List.getD_cons_zero]
  simp only [FU, k_nil, k_one, k_cons2, q_st, q_ev, q_ts, u_pass, u_break, u_cont, u_doc, u_exprC, u_retN, u_set, u_tupT, u_tupN, u_tupC, u_tupS, q_name, q_int, q_str, q_bool, q_none, q_bin, q_not, q_neg, q_bool2, q_cmp, q_cmp2, q_tup, q_lst, q_dct, q_slc, q_subC, q_subN, q_subB, q_subU, q_subF, q_subS, q_subI, q_subT, it_N, it_B, it_S, it_T, it_L, it_C, it_I, it_Z, it_Y, it_M, it_O, q_meth, ti_nil, ti_one, kp_eq, tg_name, tg_tup, t_not, t_bool, t_cmp, t_cmp2, t_name, t_call, b_ok, b_no, s_ok, s_no, o_some, o_none, n_some, n_none, pk2, pk2m, pkE, sl3, cmp1, cmp2, noSet, noSlice, noComp, noSuper, okAsg, starred, items, dispP, isMut, tupS, swP, swNs, swNm, parP, pi_nil, pi_cons, slz_nil, slz_cons, hdS_c, nlS_n, sn_nil, sn_cons, unpk_eq, un1_t, hd1_c, nl1_n, sq_un1, tg2_q, iterV, callP_eq, args1, a2_nil, a2_some, a2_none, a2n_t, a2n_f, lend_b, show_b, given_b, cbk_b, List.nil_append, List.append_nil, List.cons_append, rd_blk, pk_blk, ln_blk, set_blk, call_blk, slB, isStoB, isLoc, isGlo, isLc, str_beq, str_eq, decide_str, String.reduceBEq, String.reduceEq, String.reduceNe, ownOf, List.filterMap_cons, List.filterMap_nil, List.map_cons, List.map_nil, isBlt, L2.blkC, List.mem_cons, List.not_mem_nil, or_false, false_or, List.getElem?_cons_succ, List.getElem?_cons_zero, or_true, true_or, if_true, if_false, ite_true, ite_false, Bool.and_true, Bool.true_and, Bool.and_false, Bool.false_and, Bool.or_true, Bool.or_false, Bool.true_or, Bool.false_or, Bool.not_true, Bool.not_false, List.lookup_cons, List.lookup_nil, beq_self_eq_true, decide_true, decide_false, Option.map_some, Option.map_none, Option.bind_some, Option.bind_none, Bool.false_eq_true, ne_eq, not_true, not_false_iff, List.length_cons, List.length_nil, List.any_cons, List.any_nil, List.all_cons, List.all_nil, Bool.true_eq_false, Bool.not_eq_true', bne, List.headD_cons, List.tail_cons, eq_self, sq_nx, sq_rt, sq_bk, sq_ct, sq_no, sq_s, sq_nxO, sq_os, List.head?_cons, Option.getD_some, PySem.Expr.pos, Nat.reduceBEq, Nat.reduceBNe, Nat.reduceEqDiff, Nat.reduceAdd, List.eraseDups, List.eraseDupsBy, List.eraseDupsBy.loop, List.reverse_cons, List.reverse_nil, foldedForSure, constantsAlone, List.reverseAux, List.reverse, Nat.zero_add, cx_some, cx_1, cx_2, inBlk_call, ln_C, ln_B, ln_U, ln_F, ln_S, ln_I, ln_T, ln_L, ln_O, ln_P, ln_D, ln_Q, b_assoc, s_assoc, b_ofO, s_ofO, ob_b, ob_s, ob_some, os_some, pkB, rdB, stB, w_len, w_int, w_tuple, w_list, w_str, w_abs, w_sum, w_max, w_min, w_max2, w_min2, w_gcd, w_iInt, w_iBool, w_iTuple, w_iStr, w_iList, w_join, bv_one, bv_cons, bt_one, bt_cons, u_ret1, u_ret2, u_ret3, u_ret4, u_ret5, u_ret6, u_ret7, u_ret8, u_ret9, u_ret10, u_ret11, u_ret12, partE_s, partE_n, nk_cl, nk_ll, u_raise, Q_for, Q_while, Q_if, Q_ife, Q_lc, lcQ_true, ok_cell, ok_cells, ok_great, ok_int, ok_k, ok_script, ok_seed, nn_3, kd_3, x_3_script, r_3_script, p_3_script, m_3_script, s_3_script, c_3_script, l_3_script, rn_3_script, o_3_script, il_3_script, x_3_k, r_3_k, p_3_k, m_3_k, s_3_k, c_3_k, l_3_k, rn_3_k, o_3_k, il_3_k, x_3_cells, r_3_cells, p_3_cells, m_3_cells, s_3_cells, c_3_cells, l_3_cells, rn_3_cells, o_3_cells, il_3_cells, x_3_great, r_3_great, p_3_great, m_3_great, s_3_great, c_3_great, l_3_great, rn_3_great, o_3_great, il_3_great, x_3_seed, r_3_seed, p_3_seed, m_3_seed, s_3_seed, c_3_seed, l_3_seed, rn_3_seed, o_3_seed, il_3_seed, x_3_cell, r_3_cell, p_3_cell, m_3_cell, s_3_cell, c_3_cell, l_3_cell, rn_3_cell, o_3_cell, il_3_cell, x_3_dot0, cc_3, fn_3_int, bt_3_int, i1_3_int, i2_3_int, b1_3_int]
  simp only [lit_5, lit_3, lit_4, lit_6]
  exact rfl
theorem ok_below : okNm "below" = true := rfl
theorem ok_blend : okNm "blend" = true := rfl
theorem ok_extra : okNm "extra" = true := rfl
theorem ok_found : okNm "found" = true := rfl
theorem ok_m : okNm "m" = true := rfl
theorem ok_spot : okNm "spot" = true := rfl
theorem nn_4 (call : Str → List Sl → CR) : (ctxOf G d_4 call).N = [("m" : Str), ("below" : Str), ("spot" : Str), ("cell" : Str), ("blend" : Str), ("found" : Str), ("cells" : Str), ("extra" : Str)] := by kernel_rfl
theorem kd_4 (call : Str → List Sl → CR) : isFnK (ctxOf G d_4 call).sc = true := by kernel_rfl
theorem x_4_m (call : Str → List Sl → CR) : TW.ixN [("m" : Str), ("below" : Str), ("spot" : Str), ("cell" : Str), ("blend" : Str), ("found" : Str), ("cells" : Str), ("extra" : Str)] "m" = some 0 := rfl
theorem r_4_m (call : Str → List Sl → CR) (ρ : PEnv) : rdName (ctxOf G d_4 call) "m" ρ = rdSl 0 ρ := by kernel_rfl
theorem p_4_m (call : Str → List Sl → CR) (ρ : PEnv) : pkName (ctxOf G d_4 call) "m" ρ = pkSl 0 ρ := by kernel_rfl
theorem m_4_m (call : Str → List Sl → CR) (ρ : PEnv) : mutSl (ctxOf G d_4 call) "m" ρ = mtSl 0 ρ := by kernel_rfl
theorem s_4_m (call : Str → List Sl → CR) (s : Sl) (ρ : PEnv) : setSl (ctxOf G d_4 call) "m" s ρ = putSl 0 s ρ := by kernel_rfl
theorem c_4_m (call : Str → List Sl → CR) (d : PyData) (f : Bool) : ctName (ctxOf G d_4 call) "m" d f = ctB true d f := by kernel_rfl
theorem l_4_m (call : Str → List Sl → CR) (p : Pos) : lnOf (ctxOf G d_4 call) (.Name "m" p) = some (("m" : Str), 0) := by kernel_rfl
theorem rn_4_m (call : Str → List Sl → CR) (n : Nat) (p p2 : Pos) (ρ : PEnv) : stStep (evN (n + 1)) (ctxOf G d_4 call) (.Return (some (.Name "m" p)) p2) ρ = retN 0 ρ := by kernel_rfl
theorem ap_4_m (call : Str → List Sl → CR) (E : Ev) (a : Expr) (ρ : PEnv) : mutP (ctxOf G d_4 call) E "m" "append" [a] ρ = if starred a then .no else apS 0 ρ fun ρ => (kpE E a ρ) := ap_eq (fun _ => rfl)
theorem as_4_m (call : Str → List Sl → CR) (E : TW.Ctx → Ev) (i e : Expr) (p p2 p3 : Pos) (ρ : PEnv) : stStep E (ctxOf G d_4 call) (.Assign [.Subscript (.Name "m" p) i p2] e p3) ρ = if noSlice i && noComp e then (kpE (E (ctxOf G d_4 call)) e ρ).toS fun v ρ1 => sgS 0 ρ1 fun ρ1 => (kpE (E (ctxOf G d_4 call)) i ρ1).toS fun k ρ2 => suS 0 k v ρ2 else .no := asg_eq (fun _ => rfl)
theorem o_4_m (call : Str → List Sl → CR) : slotOf (ctxOf G d_4 call) "m" = some 0 := by kernel_rfl
theorem il_4_m (call : Str → List Sl → CR) : (ctxOf G d_4 call).sc.names.lookup ("m" : Str) = some NameKind.local := by kernel_rfl
theorem x_4_below (call : Str → List Sl → CR) : TW.ixN [("m" : Str), ("below" : Str), ("spot" : Str), ("cell" : Str), ("blend" : Str), ("found" : Str), ("cells" : Str), ("extra" : Str)] "below" = some 1 := rfl
theorem r_4_below (call : Str → List Sl → CR) (ρ : PEnv) : rdName (ctxOf G d_4 call) "below" ρ = rdSl 1 ρ := by kernel_rfl
theorem p_4_below (call : Str → List Sl → CR) (ρ : PEnv) : pkName (ctxOf G d_4 call) "below" ρ = pkSl 1 ρ := by kernel_rfl
theorem m_4_below (call : Str → List Sl → CR) (ρ : PEnv) : mutSl (ctxOf G d_4 call) "below" ρ = mtSl 1 ρ := by kernel_rfl
theorem s_4_below (call : Str → List Sl → CR) (s : Sl) (ρ : PEnv) : setSl (ctxOf G d_4 call) "below" s ρ = putSl 1 s ρ := by kernel_rfl
theorem c_4_below (call : Str → List Sl → CR) (d : PyData) (f : Bool) : ctName (ctxOf G d_4 call) "below" d f = ctB false d f := by kernel_rfl
theorem l_4_below (call : Str → List Sl → CR) (p : Pos) : lnOf (ctxOf G d_4 call) (.Name "below" p) = some (("below" : Str), 1) := by kernel_rfl
theorem rn_4_below (call : Str → List Sl → CR) (n : Nat) (p p2 : Pos) (ρ : PEnv) : stStep (evN (n + 1)) (ctxOf G d_4 call) (.Return (some (.Name "below" p)) p2) ρ = retN 1 ρ := by kernel_rfl
theorem o_4_below (call : Str → List Sl → CR) : slotOf (ctxOf G d_4 call) "below" = some 1 := by kernel_rfl
theorem il_4_below (call : Str → List Sl → CR) : (ctxOf G d_4 call).sc.names.lookup ("below" : Str) = some NameKind.local := by kernel_rfl
theorem x_4_spot (call : Str → List Sl → CR) : TW.ixN [("m" : Str), ("below" : Str), ("spot" : Str), ("cell" : Str), ("blend" : Str), ("found" : Str), ("cells" : Str), ("extra" : Str)] "spot" = some 2 := rfl
theorem r_4_spot (call : Str → List Sl → CR) (ρ : PEnv) : rdName (ctxOf G d_4 call) "spot" ρ = rdSl 2 ρ := by kernel_rfl
theorem p_4_spot (call : Str → List Sl → CR) (ρ : PEnv) : pkName (ctxOf G d_4 call) "spot" ρ = pkSl 2 ρ := by kernel_rfl
theorem m_4_spot (call : Str → List Sl → CR) (ρ : PEnv) : mutSl (ctxOf G d_4 call) "spot" ρ = mtSl 2 ρ := by kernel_rfl
theorem s_4_spot (call : Str → List Sl → CR) (s : Sl) (ρ : PEnv) : setSl (ctxOf G d_4 call) "spot" s ρ = putSl 2 s ρ := by kernel_rfl
theorem c_4_spot (call : Str → List Sl → CR) (d : PyData) (f : Bool) : ctName (ctxOf G d_4 call) "spot" d f = ctB false d f := by kernel_rfl
theorem l_4_spot (call : Str → List Sl → CR) (p : Pos) : lnOf (ctxOf G d_4 call) (.Name "spot" p) = some (("spot" : Str), 2) := by kernel_rfl
theorem rn_4_spot (call : Str → List Sl → CR) (n : Nat) (p p2 : Pos) (ρ : PEnv) : stStep (evN (n + 1)) (ctxOf G d_4 call) (.Return (some (.Name "spot" p)) p2) ρ = retN 2 ρ := by kernel_rfl
theorem o_4_spot (call : Str → List Sl → CR) : slotOf (ctxOf G d_4 call) "spot" = some 2 := by kernel_rfl
theorem il_4_spot (call : Str → List Sl → CR) : (ctxOf G d_4 call).sc.names.lookup ("spot" : Str) = some NameKind.local := by kernel_rfl
theorem x_4_cell (call : Str → List Sl → CR) : TW.ixN [("m" : Str), ("below" : Str), ("spot" : Str), ("cell" : Str), ("blend" : Str), ("found" : Str), ("cells" : Str), ("extra" : Str)] "cell" = some 3 := rfl
theorem r_4_cell (call : Str → List Sl → CR) (ρ : PEnv) : rdName (ctxOf G d_4 call) "cell" ρ = rdSl 3 ρ := by kernel_rfl
theorem p_4_cell (call : Str → List Sl → CR) (ρ : PEnv) : pkName (ctxOf G d_4 call) "cell" ρ = pkSl 3 ρ := by kernel_rfl
theorem m_4_cell (call : Str → List Sl → CR) (ρ : PEnv) : mutSl (ctxOf G d_4 call) "cell" ρ = mtSl 3 ρ := by kernel_rfl
theorem s_4_cell (call : Str → List Sl → CR) (s : Sl) (ρ : PEnv) : setSl (ctxOf G d_4 call) "cell" s ρ = putSl 3 s ρ := by kernel_rfl
theorem c_4_cell (call : Str → List Sl → CR) (d : PyData) (f : Bool) : ctName (ctxOf G d_4 call) "cell" d f = ctB false d f := by kernel_rfl
theorem l_4_cell (call : Str → List Sl → CR) (p : Pos) : lnOf (ctxOf G d_4 call) (.Name "cell" p) = some (("cell" : Str), 3) := by kernel_rfl
theorem rn_4_cell (call : Str → List Sl → CR) (n : Nat) (p p2 : Pos) (ρ : PEnv) : stStep (evN (n + 1)) (ctxOf G d_4 call) (.Return (some (.Name "cell" p)) p2) ρ = retN 3 ρ := by kernel_rfl
theorem o_4_cell (call : Str → List Sl → CR) : slotOf (ctxOf G d_4 call) "cell" = some 3 := by kernel_rfl
theorem il_4_cell (call : Str → List Sl → CR) : (ctxOf G d_4 call).sc.names.lookup ("cell" : Str) = some NameKind.local := by kernel_rfl
theorem x_4_blend (call : Str → List Sl → CR) : TW.ixN [("m" : Str), ("below" : Str), ("spot" : Str), ("cell" : Str), ("blend" : Str), ("found" : Str), ("cells" : Str), ("extra" : Str)] "blend" = some 4 := rfl
theorem r_4_blend (call : Str → List Sl → CR) (ρ : PEnv) : rdName (ctxOf G d_4 call) "blend" ρ = rdSl 4 ρ := by kernel_rfl
theorem p_4_blend (call : Str → List Sl → CR) (ρ : PEnv) : pkName (ctxOf G d_4 call) "blend" ρ = pkSl 4 ρ := by kernel_rfl
theorem m_4_blend (call : Str → List Sl → CR) (ρ : PEnv) : mutSl (ctxOf G d_4 call) "blend" ρ = mtSl 4 ρ := by kernel_rfl
theorem s_4_blend (call : Str → List Sl → CR) (s : Sl) (ρ : PEnv) : setSl (ctxOf G d_4 call) "blend" s ρ = putSl 4 s ρ := by kernel_rfl
theorem c_4_blend (call : Str → List Sl → CR) (d : PyData) (f : Bool) : ctName (ctxOf G d_4 call) "blend" d f = ctB false d f := by kernel_rfl
theorem l_4_blend (call : Str → List Sl → CR) (p : Pos) : lnOf (ctxOf G d_4 call) (.Name "blend" p) = some (("blend" : Str), 4) := by kernel_rfl
theorem rn_4_blend (call : Str → List Sl → CR) (n : Nat) (p p2 : Pos) (ρ : PEnv) : stStep (evN (n + 1)) (ctxOf G d_4 call) (.Return (some (.Name "blend" p)) p2) ρ = retN 4 ρ := by kernel_rfl
theorem o_4_blend (call : Str → List Sl → CR) : slotOf (ctxOf G d_4 call) "blend" = some 4 := by kernel_rfl
theorem il_4_blend (call : Str → List Sl → CR) : (ctxOf G d_4 call).sc.names.lookup ("blend" : Str) = some NameKind.local := by kernel_rfl
theorem x_4_found (call : Str → List Sl → CR) : TW.ixN [("m" : Str), ("below" : Str), ("spot" : Str), ("cell" : Str), ("blend" : Str), ("found" : Str), ("cells" : Str), ("extra" : Str)] "found" = some 5 := rfl
theorem r_4_found (call : Str → List Sl → CR) (ρ : PEnv) : rdName (ctxOf G d_4 call) "found" ρ = rdSl 5 ρ := by kernel_rfl
theorem p_4_found (call : Str → List Sl → CR) (ρ : PEnv) : pkName (ctxOf G d_4 call) "found" ρ = pkSl 5 ρ := by kernel_rfl
theorem m_4_found (call : Str → List Sl → CR) (ρ : PEnv) : mutSl (ctxOf G d_4 call) "found" ρ = mtSl 5 ρ := by kernel_rfl
theorem s_4_found (call : Str → List Sl → CR) (s : Sl) (ρ : PEnv) : setSl (ctxOf G d_4 call) "found" s ρ = putSl 5 s ρ := by kernel_rfl
theorem c_4_found (call : Str → List Sl → CR) (d : PyData) (f : Bool) : ctName (ctxOf G d_4 call) "found" d f = ctB false d f := by kernel_rfl
theorem l_4_found (call : Str → List Sl → CR) (p : Pos) : lnOf (ctxOf G d_4 call) (.Name "found" p) = some (("found" : Str), 5) := by kernel_rfl
theorem rn_4_found (call : Str → List Sl → CR) (n : Nat) (p p2 : Pos) (ρ : PEnv) : stStep (evN (n + 1)) (ctxOf G d_4 call) (.Return (some (.Name "found" p)) p2) ρ = retN 5 ρ := by kernel_rfl
theorem o_4_found (call : Str → List Sl → CR) : slotOf (ctxOf G d_4 call) "found" = some 5 := by kernel_rfl
theorem il_4_found (call : Str → List Sl → CR) : (ctxOf G d_4 call).sc.names.lookup ("found" : Str) = some NameKind.local := by kernel_rfl
theorem x_4_cells (call : Str → List Sl → CR) : TW.ixN [("m" : Str), ("below" : Str), ("spot" : Str), ("cell" : Str), ("blend" : Str), ("found" : Str), ("cells" : Str), ("extra" : Str)] "cells" = some 6 := rfl
theorem r_4_cells (call : Str → List Sl → CR) (ρ : PEnv) : rdName (ctxOf G d_4 call) "cells" ρ = rdSl 6 ρ := by kernel_rfl
theorem p_4_cells (call : Str → List Sl → CR) (ρ : PEnv) : pkName (ctxOf G d_4 call) "cells" ρ = pkSl 6 ρ := by kernel_rfl
theorem m_4_cells (call : Str → List Sl → CR) (ρ : PEnv) : mutSl (ctxOf G d_4 call) "cells" ρ = mtSl 6 ρ := by kernel_rfl
theorem s_4_cells (call : Str → List Sl → CR) (s : Sl) (ρ : PEnv) : setSl (ctxOf G d_4 call) "cells" s ρ = putSl 6 s ρ := by kernel_rfl
theorem c_4_cells (call : Str → List Sl → CR) (d : PyData) (f : Bool) : ctName (ctxOf G d_4 call) "cells" d f = ctB false d f := by kernel_rfl
theorem l_4_cells (call : Str → List Sl → CR) (p : Pos) : lnOf (ctxOf G d_4 call) (.Name "cells" p) = some (("cells" : Str), 6) := by kernel_rfl
theorem rn_4_cells (call : Str → List Sl → CR) (n : Nat) (p p2 : Pos) (ρ : PEnv) : stStep (evN (n + 1)) (ctxOf G d_4 call) (.Return (some (.Name "cells" p)) p2) ρ = retN 6 ρ := by kernel_rfl
theorem o_4_cells (call : Str → List Sl → CR) : slotOf (ctxOf G d_4 call) "cells" = some 6 := by kernel_rfl
theorem il_4_cells (call : Str → List Sl → CR) : (ctxOf G d_4 call).sc.names.lookup ("cells" : Str) = some NameKind.local := by kernel_rfl
theorem x_4_extra (call : Str → List Sl → CR) : TW.ixN [("m" : Str), ("below" : Str), ("spot" : Str), ("cell" : Str), ("blend" : Str), ("found" : Str), ("cells" : Str), ("extra" : Str)] "extra" = some 7 := rfl
theorem r_4_extra (call : Str → List Sl → CR) (ρ : PEnv) : rdName (ctxOf G d_4 call) "extra" ρ = rdSl 7 ρ := by kernel_rfl
theorem p_4_extra (call : Str → List Sl → CR) (ρ : PEnv) : pkName (ctxOf G d_4 call) "extra" ρ = pkSl 7 ρ := by kernel_rfl
theorem m_4_extra (call : Str → List Sl → CR) (ρ : PEnv) : mutSl (ctxOf G d_4 call) "extra" ρ = mtSl 7 ρ := by kernel_rfl
theorem s_4_extra (call : Str → List Sl → CR) (s : Sl) (ρ : PEnv) : setSl (ctxOf G d_4 call) "extra" s ρ = putSl 7 s ρ := by kernel_rfl
theorem c_4_extra (call : Str → List Sl → CR) (d : PyData) (f : Bool) : ctName (ctxOf G d_4 call) "extra" d f = ctB false d f := by kernel_rfl
theorem l_4_extra (call : Str → List Sl → CR) (p : Pos) : lnOf (ctxOf G d_4 call) (.Name "extra" p) = some (("extra" : Str), 7) := by kernel_rfl
theorem rn_4_extra (call : Str → List Sl → CR) (n : Nat) (p p2 : Pos) (ρ : PEnv) : stStep (evN (n + 1)) (ctxOf G d_4 call) (.Return (some (.Name "extra" p)) p2) ρ = retN 7 ρ := by kernel_rfl
theorem o_4_extra (call : Str → List Sl → CR) : slotOf (ctxOf G d_4 call) "extra" = some 7 := by kernel_rfl
theorem il_4_extra (call : Str → List Sl → CR) : (ctxOf G d_4 call).sc.names.lookup ("extra" : Str) = some NameKind.local := by kernel_rfl
theorem cc_4 (call : Str → List Sl → CR) (f : Str) (as : List Sl) : (ctxOf G d_4 call).call f as = call f as := by kernel_rfl
theorem fn_4_int (call : Str → List Sl → CR) : (ctxOf G d_4 call).fns "int" = none := by kernel_rfl
theorem bt_4_int (call : Str → List Sl → CR) : (ctxOf G d_4 call).blt "int" = true := by kernel_rfl
theorem i1_4_int (call : Str → List Sl → CR) (E : Ev) (a : Expr) (p r : Pos) (ρ : PEnv) : iterP (ctxOf G d_4 call) E (.Call (.Name "int" p) [a] [] r) ρ = iterV E (.Call (.Name "int" p) [a] [] r) ρ := by kernel_rfl
theorem i2_4_int (call : Str → List Sl → CR) (E : Ev) (a b : Expr) (p r : Pos) (ρ : PEnv) : iterP (ctxOf G d_4 call) E (.Call (.Name "int" p) [a, b] [] r) ρ = iterV E (.Call (.Name "int" p) [a, b] [] r) ρ := by kernel_rfl
theorem b1_4_int (call : Str → List Sl → CR) (E : TW.Ctx → Ev) (a : Expr) (p r : Pos) (ρ : PEnv) : evStep E (ctxOf G d_4 call) (.Call (.Name "int" p) [a] [] r) ρ = if (!starred a) = true then (pkE (ctxOf G d_4 call) (E (ctxOf G d_4 call)) a ρ).bind fun d ρ' => ofO (bi1P "int" d) ρ' else .no := by kernel_rfl
theorem fn_4_len (call : Str → List Sl → CR) : (ctxOf G d_4 call).fns "len" = none := by kernel_rfl
theorem bt_4_len (call : Str → List Sl → CR) : (ctxOf G d_4 call).blt "len" = true := by kernel_rfl
theorem i1_4_len (call : Str → List Sl → CR) (E : Ev) (a : Expr) (p r : Pos) (ρ : PEnv) : iterP (ctxOf G d_4 call) E (.Call (.Name "len" p) [a] [] r) ρ = iterV E (.Call (.Name "len" p) [a] [] r) ρ := by kernel_rfl
theorem i2_4_len (call : Str → List Sl → CR) (E : Ev) (a b : Expr) (p r : Pos) (ρ : PEnv) : iterP (ctxOf G d_4 call) E (.Call (.Name "len" p) [a, b] [] r) ρ = iterV E (.Call (.Name "len" p) [a, b] [] r) ρ := by kernel_rfl
theorem b1_4_len (call : Str → List Sl → CR) (E : TW.Ctx → Ev) (a : Expr) (p r : Pos) (ρ : PEnv) : evStep E (ctxOf G d_4 call) (.Call (.Name "len" p) [a] [] r) ρ = if (!starred a) = true then (pkE (ctxOf G d_4 call) (E (ctxOf G d_4 call)) a ρ).bind fun d ρ' => ofO (bi1P "len" d) ρ' else .no := by kernel_rfl
def cmp_4 (ci : Nat → List Sl → CR) : {f : PEnv → SR // ∀ ρ, blk (evN FU (ctxOf G d_4 (cl ci))) (L2.defBody (top 6)) ρ = f ρ} := by
  apply Subtype.mk
  intro ρ
  simp only [L2.defBody, top, PySem.Challenge.pw_twicedial_k14_rows_in_least_form, List.getD_cons_succ, List.getD_cons_zero]
  simp only [FU, k_nil, k_one, k_cons2, q_st, q_ev, q_ts, u_pass, u_break, u_cont, u_doc, u_exprC, u_retN, u_set, u_tupT, u_tupN, u_tupC, u_tupS, q_name, q_int, q_str, q_bool, q_none, q_bin, q_not, q_neg, q_bool2, q_cmp, q_cmp2, q_tup, q_lst, q_dct, q_slc, q_subC, q_subN, q_subB, q_subU, q_subF, q_subS, q_subI, q_subT, it_N, it_B, it_S, it_T, it_L, it_C, it_I, it_Z, it_Y, it_M, it_O, q_meth, ti_nil, ti_one, kp_eq, tg_name, tg_tup, t_not, t_bool, t_cmp, t_cmp2, t_name, t_call, b_ok, b_no, s_ok, s_no, o_some, o_none, n_some, n_none, pk2, pk2m, pkE, sl3, cmp1, cmp2, noSet, noSlice, noComp, noSuper, okAsg, starred, items, dispP, isMut, tupS, swP, swNs, swNm, parP, pi_nil, pi_cons, slz_nil, slz_cons, hdS_c, nlS_n, sn_nil, sn_cons, unpk_eq, un1_t, hd1_c, nl1_n, sq_un1, tg2_q, iterV, callP_eq, args1, a2_nil, a2_some, a2_none, a2n_t, a2n_f, lend_b, show_b, given_b, cbk_b, List.nil_append, List.append_nil, List.cons_append, rd_blk, pk_blk, ln_blk, set_blk, call_blk, slB, isStoB, isLoc, isGlo, isLc, str_beq, str_eq, decide_str, String.reduceBEq, String.reduceEq, String.reduceNe, ownOf, List.filterMap_cons, List.filterMap_nil, List.map_cons, List.map_nil, isBlt, L2.blkC, List.mem_cons, List.not_mem_nil, or_false, false_or, List.getElem?_cons_succ, List.getElem?_cons_zero, or_true, true_or, if_true, if_false, ite_true, ite_false, Bool.and_true, Bool.true_and, Bool.and_false, Bool.false_and, Bool.or_true, Bool.or_false, Bool.true_or, Bool.false_or, Bool.not_true, Bool.not_false, List.lookup_cons, List.lookup_nil, beq_self_eq_true, decide_true, decide_false, Option.map_some, Option.map_none, Option.bind_some, Option.bind_none, Bool.false_eq_true, ne_eq, not_true, not_false_iff, List.length_cons, List.length_nil, List.any_cons, List.any_nil, List.all_cons, List.all_nil, Bool.true_eq_false, Bool.not_eq_true', bne, List.headD_cons, List.tail_cons, eq_self, sq_nx, sq_rt, sq_bk, sq_ct, sq_no, sq_s, sq_nxO, sq_os, List.head?_cons, Option.getD_some, PySem.Expr.pos, Nat.reduceBEq, Nat.reduceBNe, Nat.reduceEqDiff, Nat.reduceAdd, List.eraseDups, List.eraseDupsBy, List.eraseDupsBy.loop, List.reverse_cons, List.reverse_nil, foldedForSure, constantsAlone, List.reverseAux, List.reverse, Nat.zero_add, cx_some, cx_1, cx_2, inBlk_call, ln_C, ln_B, ln_U, ln_F, ln_S, ln_I, ln_T, ln_L, ln_O, ln_P, ln_D, ln_Q, b_assoc, s_assoc, b_ofO, s_ofO, ob_b, ob_s, ob_some, os_some, pkB, rdB, stB, w_len, w_int, w_tuple, w_list, w_str, w_abs, w_sum, w_max, w_min, w_max2, w_min2, w_gcd, w_iInt, w_iBool, w_iTuple, w_iStr, w_iList, w_join, bv_one, bv_cons, bt_one, bt_cons, u_ret1, u_ret2, u_ret3, u_ret4, u_ret5, u_ret6, u_ret7, u_ret8, u_ret9, u_ret10, u_ret11, u_ret12, partE_s, partE_n, nk_cl, nk_ll, u_raise, Q_for, Q_while, Q_if, Q_ife, Q_lc, lcQ_true, ok_below, ok_blend, ok_cell, ok_cells, ok_extra, ok_found, ok_int, ok_len, ok_m, ok_spot, nn_4, kd_4, x_4_m, r_4_m, p_4_m, m_4_m, s_4_m, c_4_m, l_4_m, rn_4_m, ap_4_m, as_4_m, o_4_m, il_4_m, x_4_below, r_4_below, p_4_below, m_4_below, s_4_below, c_4_below, l_4_below, rn_4_below, o_4_below, il_4_below, x_4_spot, r_4_spot, p_4_spot, m_4_spot, s_4_spot, c_4_spot, l_4_spot, rn_4_spot, o_4_spot, il_4_spot, x_4_cell, r_4_cell, p_4_cell, m_4_cell, s_4_cell, c_4_cell, l_4_cell, rn_4_cell, o_4_cell, il_4_cell, x_4_blend, r_4_blend, p_4_blend, m_4_blend, s_4_blend, c_4_blend, l_4_blend, rn_4_blend, o_4_blend, il_4_blend, x_4_found, r_4_found, p_4_found, m_4_found, s_4_found, c_4_found, l_4_found, rn_4_found, o_4_found, il_4_found, x_4_cells, r_4_cells, p_4_cells, m_4_cells, s_4_cells, c_4_cells, l_4_cells, rn_4_cells, o_4_cells, il_4_cells, x_4_extra, r_4_extra, p_4_extra, m_4_extra, s_4_extra, c_4_extra, l_4_extra, rn_4_extra, o_4_extra, il_4_extra, cc_4, fn_4_int, bt_4_int, i1_4_int, i2_4_int, b1_4_int, fn_4_len, bt_4_len, i1_4_len, i2_4_len, b1_4_len]
  simp only [lit_5, lit_3, lit_4, lit_6]
  exact rfl
theorem ok__law_draw : okNm "_law_draw" = true := rfl
theorem ok_some : okNm "some" = true := rfl
theorem nn_5 (call : Str → List Sl → CR) : (ctxOf G d_5 call).N = [("m" : Str), ("some" : Str)] := by kernel_rfl
theorem kd_5 (call : Str → List Sl → CR) : isFnK (ctxOf G d_5 call).sc = true := by kernel_rfl
theorem x_5_m (call : Str → List Sl → CR) : TW.ixN [("m" : Str), ("some" : Str)] "m" = some 0 := rfl
theorem r_5_m (call : Str → List Sl → CR) (ρ : PEnv) : rdName (ctxOf G d_5 call) "m" ρ = rdSl 0 ρ := by kernel_rfl
theorem p_5_m (call : Str → List Sl → CR) (ρ : PEnv) : pkName (ctxOf G d_5 call) "m" ρ = pkSl 0 ρ := by kernel_rfl
theorem m_5_m (call : Str → List Sl → CR) (ρ : PEnv) : mutSl (ctxOf G d_5 call) "m" ρ = mtSl 0 ρ := by kernel_rfl
theorem s_5_m (call : Str → List Sl → CR) (s : Sl) (ρ : PEnv) : setSl (ctxOf G d_5 call) "m" s ρ = putSl 0 s ρ := by kernel_rfl
theorem c_5_m (call : Str → List Sl → CR) (d : PyData) (f : Bool) : ctName (ctxOf G d_5 call) "m" d f = ctB true d f := by kernel_rfl
theorem l_5_m (call : Str → List Sl → CR) (p : Pos) : lnOf (ctxOf G d_5 call) (.Name "m" p) = some (("m" : Str), 0) := by kernel_rfl
theorem rn_5_m (call : Str → List Sl → CR) (n : Nat) (p p2 : Pos) (ρ : PEnv) : stStep (evN (n + 1)) (ctxOf G d_5 call) (.Return (some (.Name "m" p)) p2) ρ = retN 0 ρ := by kernel_rfl
theorem ap_5_m (call : Str → List Sl → CR) (E : Ev) (a : Expr) (ρ : PEnv) : mutP (ctxOf G d_5 call) E "m" "append" [a] ρ = if starred a then .no else apS 0 ρ fun ρ => (kpE E a ρ) := ap_eq (fun _ => rfl)
theorem as_5_m (call : Str → List Sl → CR) (E : TW.Ctx → Ev) (i e : Expr) (p p2 p3 : Pos) (ρ : PEnv) : stStep E (ctxOf G d_5 call) (.Assign [.Subscript (.Name "m" p) i p2] e p3) ρ = if noSlice i && noComp e then (kpE (E (ctxOf G d_5 call)) e ρ).toS fun v ρ1 => sgS 0 ρ1 fun ρ1 => (kpE (E (ctxOf G d_5 call)) i ρ1).toS fun k ρ2 => suS 0 k v ρ2 else .no := asg_eq (fun _ => rfl)
theorem o_5_m (call : Str → List Sl → CR) : slotOf (ctxOf G d_5 call) "m" = some 0 := by kernel_rfl
theorem il_5_m (call : Str → List Sl → CR) : (ctxOf G d_5 call).sc.names.lookup ("m" : Str) = some NameKind.local := by kernel_rfl
theorem x_5_some (call : Str → List Sl → CR) : TW.ixN [("m" : Str), ("some" : Str)] "some" = some 1 := rfl
theorem r_5_some (call : Str → List Sl → CR) (ρ : PEnv) : rdName (ctxOf G d_5 call) "some" ρ = rdSl 1 ρ := by kernel_rfl
theorem p_5_some (call : Str → List Sl → CR) (ρ : PEnv) : pkName (ctxOf G d_5 call) "some" ρ = pkSl 1 ρ := by kernel_rfl
theorem m_5_some (call : Str → List Sl → CR) (ρ : PEnv) : mutSl (ctxOf G d_5 call) "some" ρ = mtSl 1 ρ := by kernel_rfl
theorem s_5_some (call : Str → List Sl → CR) (s : Sl) (ρ : PEnv) : setSl (ctxOf G d_5 call) "some" s ρ = putSl 1 s ρ := by kernel_rfl
theorem c_5_some (call : Str → List Sl → CR) (d : PyData) (f : Bool) : ctName (ctxOf G d_5 call) "some" d f = ctB false d f := by kernel_rfl
theorem l_5_some (call : Str → List Sl → CR) (p : Pos) : lnOf (ctxOf G d_5 call) (.Name "some" p) = some (("some" : Str), 1) := by kernel_rfl
theorem rn_5_some (call : Str → List Sl → CR) (n : Nat) (p p2 : Pos) (ρ : PEnv) : stStep (evN (n + 1)) (ctxOf G d_5 call) (.Return (some (.Name "some" p)) p2) ρ = retN 1 ρ := by kernel_rfl
theorem o_5_some (call : Str → List Sl → CR) : slotOf (ctxOf G d_5 call) "some" = some 1 := by kernel_rfl
theorem il_5_some (call : Str → List Sl → CR) : (ctxOf G d_5 call).sc.names.lookup ("some" : Str) = some NameKind.local := by kernel_rfl
theorem cc_5 (call : Str → List Sl → CR) (f : Str) (as : List Sl) : (ctxOf G d_5 call).call f as = call f as := by kernel_rfl
theorem f_5__law_draw (call : Str → List Sl → CR) (E : TW.Ctx → Ev) (es : List Expr) (p r : Pos) (ρ : PEnv) : evStep E (ctxOf G d_5 call) (.Call (.Name "_law_draw" p) es [] r) ρ = callP (ctxOf G d_5 call) (E (ctxOf G d_5 call)) "_law_draw" [true, false] es ρ := by kernel_rfl
theorem fn_5__law_draw (call : Str → List Sl → CR) : (ctxOf G d_5 call).fns "_law_draw" = some [true, false] := by kernel_rfl
theorem i1_5__law_draw (call : Str → List Sl → CR) (E : Ev) (a : Expr) (p r : Pos) (ρ : PEnv) : iterP (ctxOf G d_5 call) E (.Call (.Name "_law_draw" p) [a] [] r) ρ = iterV E (.Call (.Name "_law_draw" p) [a] [] r) ρ := by kernel_rfl
theorem i2_5__law_draw (call : Str → List Sl → CR) (E : Ev) (a b : Expr) (p r : Pos) (ρ : PEnv) : iterP (ctxOf G d_5 call) E (.Call (.Name "_law_draw" p) [a, b] [] r) ρ = iterV E (.Call (.Name "_law_draw" p) [a, b] [] r) ρ := by kernel_rfl
theorem fn_5_len (call : Str → List Sl → CR) : (ctxOf G d_5 call).fns "len" = none := by kernel_rfl
theorem bt_5_len (call : Str → List Sl → CR) : (ctxOf G d_5 call).blt "len" = true := by kernel_rfl
theorem i1_5_len (call : Str → List Sl → CR) (E : Ev) (a : Expr) (p r : Pos) (ρ : PEnv) : iterP (ctxOf G d_5 call) E (.Call (.Name "len" p) [a] [] r) ρ = iterV E (.Call (.Name "len" p) [a] [] r) ρ := by kernel_rfl
theorem i2_5_len (call : Str → List Sl → CR) (E : Ev) (a b : Expr) (p r : Pos) (ρ : PEnv) : iterP (ctxOf G d_5 call) E (.Call (.Name "len" p) [a, b] [] r) ρ = iterV E (.Call (.Name "len" p) [a, b] [] r) ρ := by kernel_rfl
theorem b1_5_len (call : Str → List Sl → CR) (E : TW.Ctx → Ev) (a : Expr) (p r : Pos) (ρ : PEnv) : evStep E (ctxOf G d_5 call) (.Call (.Name "len" p) [a] [] r) ρ = if (!starred a) = true then (pkE (ctxOf G d_5 call) (E (ctxOf G d_5 call)) a ρ).bind fun d ρ' => ofO (bi1P "len" d) ρ' else .no := by kernel_rfl
def cmp_5 (ci : Nat → List Sl → CR) : {f : PEnv → SR // ∀ ρ, blk (evN FU (ctxOf G d_5 (cl ci))) (L2.defBody (top 7)) ρ = f ρ} := by
  apply Subtype.mk
  intro ρ
  simp only [L2.defBody, top, PySem.Challenge.pw_twicedial_k14_rows_in_least_form, List.getD_cons_succ, List.getD_cons_zero]
  simp only [FU, k_nil, k_one, k_cons2, q_st, q_ev, q_ts, u_pass, u_break, u_cont, u_doc, u_exprC, u_retN, u_set, u_tupT, u_tupN, u_tupC, u_tupS, q_name, q_int, q_str, q_bool, q_none, q_bin, q_not, q_neg, q_bool2, q_cmp, q_cmp2, q_tup, q_lst, q_dct, q_slc, q_subC, q_subN, q_subB, q_subU, q_subF, q_subS, q_subI, q_subT, it_N, it_B, it_S, it_T, it_L, it_C, it_I, it_Z, it_Y, it_M, it_O, q_meth, ti_nil, ti_one, kp_eq, tg_name, tg_tup, t_not, t_bool, t_cmp, t_cmp2, t_name, t_call, b_ok, b_no, s_ok, s_no, o_some, o_none, n_some, n_none, pk2, pk2m, pkE, sl3, cmp1, cmp2, noSet, noSlice, noComp, noSuper, okAsg, starred, items, dispP, isMut, tupS, swP, swNs, swNm, parP, pi_nil, pi_cons, slz_nil, slz_cons, hdS_c, nlS_n, sn_nil, sn_cons, unpk_eq, un1_t, hd1_c, nl1_n, sq_un1, tg2_q, iterV, callP_eq, args1, a2_nil, a2_some, a2_none, a2n_t, a2n_f, lend_b, show_b, given_b, cbk_b, List.nil_append, List.append_nil, List.cons_append, rd_blk, pk_blk, ln_blk, set_blk, call_blk, slB, isStoB, isLoc, isGlo, isLc, str_beq, str_eq, decide_str, String.reduceBEq, String.reduceEq, String.reduceNe, ownOf, List.filterMap_cons, List.filterMap_nil, List.map_cons, List.map_nil, isBlt, L2.blkC, List.mem_cons, List.not_mem_nil, or_false, false_or, List.getElem?_cons_succ, List.getElem?_cons_zero, or_true, true_or, if_true, if_false, ite_true, ite_false, Bool.and_true, Bool.true_and, Bool.and_false, Bool.false_and, Bool.or_true, Bool.or_false, Bool.true_or, Bool.false_or, Bool.not_true, Bool.not_false, List.lookup_cons, List.lookup_nil, beq_self_eq_true, decide_true, decide_false, Option.map_some, Option.map_none, Option.bind_some, Option.bind_none, Bool.false_eq_true, ne_eq, not_true, not_false_iff, List.length_cons, List.length_nil, List.any_cons, List.any_nil, List.all_cons, List.all_nil, Bool.true_eq_false, Bool.not_eq_true', bne, List.headD_cons, List.tail_cons, eq_self, sq_nx, sq_rt, sq_bk, sq_ct, sq_no, sq_s, sq_nxO, sq_os, List.head?_cons, Option.getD_some, PySem.Expr.pos, Nat.reduceBEq, Nat.reduceBNe, Nat.reduceEqDiff, Nat.reduceAdd, List.eraseDups, List.eraseDupsBy, List.eraseDupsBy.loop, List.reverse_cons, List.reverse_nil, foldedForSure, constantsAlone, List.reverseAux, List.reverse, Nat.zero_add, cx_some, cx_1, cx_2, inBlk_call, ln_C, ln_B, ln_U, ln_F, ln_S, ln_I, ln_T, ln_L, ln_O, ln_P, ln_D, ln_Q, b_assoc, s_assoc, b_ofO, s_ofO, ob_b, ob_s, ob_some, os_some, pkB, rdB, stB, w_len, w_int, w_tuple, w_list, w_str, w_abs, w_sum, w_max, w_min, w_max2, w_min2, w_gcd, w_iInt, w_iBool, w_iTuple, w_iStr, w_iList, w_join, bv_one, bv_cons, bt_one, bt_cons, u_ret1, u_ret2, u_ret3, u_ret4, u_ret5, u_ret6, u_ret7, u_ret8, u_ret9, u_ret10, u_ret11, u_ret12, partE_s, partE_n, nk_cl, nk_ll, u_raise, Q_for, Q_while, Q_if, Q_ife, Q_lc, lcQ_true, ok__law_draw, ok_len, ok_m, ok_some, nn_5, kd_5, x_5_m, r_5_m, p_5_m, m_5_m, s_5_m, c_5_m, l_5_m, rn_5_m, ap_5_m, as_5_m, o_5_m, il_5_m, x_5_some, r_5_some, p_5_some, m_5_some, s_5_some, c_5_some, l_5_some, rn_5_some, o_5_some, il_5_some, cc_5, f_5__law_draw, fn_5__law_draw, i1_5__law_draw, i2_5__law_draw, fn_5_len, bt_5_len, i1_5_len, i2_5_len, b1_5_len, cl_4]
  exact rfl
theorem nn_6 (call : Str → List Sl → CR) : (ctxOf G d_6 call).N = [("row" : Str), ("k" : Str)] := by kernel_rfl
theorem kd_6 (call : Str → List Sl → CR) : isFnK (ctxOf G d_6 call).sc = true := by kernel_rfl
theorem x_6_row (call : Str → List Sl → CR) : TW.ixN [("row" : Str), ("k" : Str)] "row" = some 0 := rfl
theorem r_6_row (call : Str → List Sl → CR) (ρ : PEnv) : rdName (ctxOf G d_6 call) "row" ρ = rdSl 0 ρ := by kernel_rfl
theorem p_6_row (call : Str → List Sl → CR) (ρ : PEnv) : pkName (ctxOf G d_6 call) "row" ρ = pkSl 0 ρ := by kernel_rfl
theorem m_6_row (call : Str → List Sl → CR) (ρ : PEnv) : mutSl (ctxOf G d_6 call) "row" ρ = mtSl 0 ρ := by kernel_rfl
theorem s_6_row (call : Str → List Sl → CR) (s : Sl) (ρ : PEnv) : setSl (ctxOf G d_6 call) "row" s ρ = putSl 0 s ρ := by kernel_rfl
theorem c_6_row (call : Str → List Sl → CR) (d : PyData) (f : Bool) : ctName (ctxOf G d_6 call) "row" d f = ctB false d f := by kernel_rfl
theorem l_6_row (call : Str → List Sl → CR) (p : Pos) : lnOf (ctxOf G d_6 call) (.Name "row" p) = some (("row" : Str), 0) := by kernel_rfl
theorem rn_6_row (call : Str → List Sl → CR) (n : Nat) (p p2 : Pos) (ρ : PEnv) : stStep (evN (n + 1)) (ctxOf G d_6 call) (.Return (some (.Name "row" p)) p2) ρ = retN 0 ρ := by kernel_rfl
theorem o_6_row (call : Str → List Sl → CR) : slotOf (ctxOf G d_6 call) "row" = some 0 := by kernel_rfl
theorem il_6_row (call : Str → List Sl → CR) : (ctxOf G d_6 call).sc.names.lookup ("row" : Str) = some NameKind.local := by kernel_rfl
theorem x_6_k (call : Str → List Sl → CR) : TW.ixN [("row" : Str), ("k" : Str)] "k" = some 1 := rfl
theorem r_6_k (call : Str → List Sl → CR) (ρ : PEnv) : rdName (ctxOf G d_6 call) "k" ρ = rdSl 1 ρ := by kernel_rfl
theorem p_6_k (call : Str → List Sl → CR) (ρ : PEnv) : pkName (ctxOf G d_6 call) "k" ρ = pkSl 1 ρ := by kernel_rfl
theorem m_6_k (call : Str → List Sl → CR) (ρ : PEnv) : mutSl (ctxOf G d_6 call) "k" ρ = mtSl 1 ρ := by kernel_rfl
theorem s_6_k (call : Str → List Sl → CR) (s : Sl) (ρ : PEnv) : setSl (ctxOf G d_6 call) "k" s ρ = putSl 1 s ρ := by kernel_rfl
theorem c_6_k (call : Str → List Sl → CR) (d : PyData) (f : Bool) : ctName (ctxOf G d_6 call) "k" d f = ctB false d f := by kernel_rfl
theorem l_6_k (call : Str → List Sl → CR) (p : Pos) : lnOf (ctxOf G d_6 call) (.Name "k" p) = some (("k" : Str), 1) := by kernel_rfl
theorem rn_6_k (call : Str → List Sl → CR) (n : Nat) (p p2 : Pos) (ρ : PEnv) : stStep (evN (n + 1)) (ctxOf G d_6 call) (.Return (some (.Name "k" p)) p2) ρ = retN 1 ρ := by kernel_rfl
theorem o_6_k (call : Str → List Sl → CR) : slotOf (ctxOf G d_6 call) "k" = some 1 := by kernel_rfl
theorem il_6_k (call : Str → List Sl → CR) : (ctxOf G d_6 call).sc.names.lookup ("k" : Str) = some NameKind.local := by kernel_rfl
theorem cc_6 (call : Str → List Sl → CR) (f : Str) (as : List Sl) : (ctxOf G d_6 call).call f as = call f as := by kernel_rfl
theorem fn_6_int (call : Str → List Sl → CR) : (ctxOf G d_6 call).fns "int" = none := by kernel_rfl
theorem bt_6_int (call : Str → List Sl → CR) : (ctxOf G d_6 call).blt "int" = true := by kernel_rfl
theorem i1_6_int (call : Str → List Sl → CR) (E : Ev) (a : Expr) (p r : Pos) (ρ : PEnv) : iterP (ctxOf G d_6 call) E (.Call (.Name "int" p) [a] [] r) ρ = iterV E (.Call (.Name "int" p) [a] [] r) ρ := by kernel_rfl
theorem i2_6_int (call : Str → List Sl → CR) (E : Ev) (a b : Expr) (p r : Pos) (ρ : PEnv) : iterP (ctxOf G d_6 call) E (.Call (.Name "int" p) [a, b] [] r) ρ = iterV E (.Call (.Name "int" p) [a, b] [] r) ρ := by kernel_rfl
theorem b1_6_int (call : Str → List Sl → CR) (E : TW.Ctx → Ev) (a : Expr) (p r : Pos) (ρ : PEnv) : evStep E (ctxOf G d_6 call) (.Call (.Name "int" p) [a] [] r) ρ = if (!starred a) = true then (pkE (ctxOf G d_6 call) (E (ctxOf G d_6 call)) a ρ).bind fun d ρ' => ofO (bi1P "int" d) ρ' else .no := by kernel_rfl
theorem fn_6_len (call : Str → List Sl → CR) : (ctxOf G d_6 call).fns "len" = none := by kernel_rfl
theorem bt_6_len (call : Str → List Sl → CR) : (ctxOf G d_6 call).blt "len" = true := by kernel_rfl
theorem i1_6_len (call : Str → List Sl → CR) (E : Ev) (a : Expr) (p r : Pos) (ρ : PEnv) : iterP (ctxOf G d_6 call) E (.Call (.Name "len" p) [a] [] r) ρ = iterV E (.Call (.Name "len" p) [a] [] r) ρ := by kernel_rfl
theorem i2_6_len (call : Str → List Sl → CR) (E : Ev) (a b : Expr) (p r : Pos) (ρ : PEnv) : iterP (ctxOf G d_6 call) E (.Call (.Name "len" p) [a, b] [] r) ρ = iterV E (.Call (.Name "len" p) [a, b] [] r) ρ := by kernel_rfl
theorem b1_6_len (call : Str → List Sl → CR) (E : TW.Ctx → Ev) (a : Expr) (p r : Pos) (ρ : PEnv) : evStep E (ctxOf G d_6 call) (.Call (.Name "len" p) [a] [] r) ρ = if (!starred a) = true then (pkE (ctxOf G d_6 call) (E (ctxOf G d_6 call)) a ρ).bind fun d ρ' => ofO (bi1P "len" d) ρ' else .no := by kernel_rfl
def cmp_6 (ci : Nat → List Sl → CR) : {f : PEnv → SR // ∀ ρ, blk (evN FU (ctxOf G d_6 (cl ci))) (L2.defBody (top 8)) ρ = f ρ} := by
  apply Subtype.mk
  intro ρ
  simp only [L2.defBody, top, PySem.Challenge.pw_twicedial_k14_rows_in_least_form, List.getD_cons_succ, List.getD_cons_zero]
  simp only [FU, k_nil, k_one, k_cons2, q_st, q_ev, q_ts, u_pass, u_break, u_cont, u_doc, u_exprC, u_retN, u_set, u_tupT, u_tupN, u_tupC, u_tupS, q_name, q_int, q_str, q_bool, q_none, q_bin, q_not, q_neg, q_bool2, q_cmp, q_cmp2, q_tup, q_lst, q_dct, q_slc, q_subC, q_subN, q_subB, q_subU, q_subF, q_subS, q_subI, q_subT, it_N, it_B, it_S, it_T, it_L, it_C, it_I, it_Z, it_Y, it_M, it_O, q_meth, ti_nil, ti_one, kp_eq, tg_name, tg_tup, t_not, t_bool, t_cmp, t_cmp2, t_name, t_call, b_ok, b_no, s_ok, s_no, o_some, o_none, n_some, n_none, pk2, pk2m, pkE, sl3, cmp1, cmp2, noSet, noSlice, noComp, noSuper, okAsg, starred, items, dispP, isMut, tupS, swP, swNs, swNm, parP, pi_nil, pi_cons, slz_nil, slz_cons, hdS_c, nlS_n, sn_nil, sn_cons, unpk_eq, un1_t, hd1_c, nl1_n, sq_un1, tg2_q, iterV, callP_eq, args1, a2_nil, a2_some, a2_none, a2n_t, a2n_f, lend_b, show_b, given_b, cbk_b, List.nil_append, List.append_nil, List.cons_append, rd_blk, pk_blk, ln_blk, set_blk, call_blk, slB, isStoB, isLoc, isGlo, isLc, str_beq, str_eq, decide_str, String.reduceBEq, String.reduceEq, String.reduceNe, ownOf, List.filterMap_cons, List.filterMap_nil, List.map_cons, List.map_nil, isBlt, L2.blkC, List.mem_cons, List.not_mem_nil, or_false, false_or, List.getElem?_cons_succ, List.getElem?_cons_zero, or_true, true_or, if_true, if_false, ite_true, ite_false, Bool.and_true, Bool.true_and, Bool.and_false, Bool.false_and, Bool.or_true, Bool.or_false, Bool.true_or, Bool.false_or, Bool.not_true, Bool.not_false, List.lookup_cons, List.lookup_nil, beq_self_eq_true, decide_true, decide_false, Option.map_some, Option.map_none, Option.bind_some, Option.bind_none, Bool.false_eq_true, ne_eq, not_true, not_false_iff, List.length_cons, List.length_nil, List.any_cons, List.any_nil, List.all_cons, List.all_nil, Bool.true_eq_false, Bool.not_eq_true', bne, List.headD_cons, List.tail_cons, eq_self, sq_nx, sq_rt, sq_bk, sq_ct, sq_no, sq_s, sq_nxO, sq_os, List.head?_cons, Option.getD_some, PySem.Expr.pos, Nat.reduceBEq, Nat.reduceBNe, Nat.reduceEqDiff, Nat.reduceAdd, List.eraseDups, List.eraseDupsBy, List.eraseDupsBy.loop, List.reverse_cons, List.reverse_nil, foldedForSure, constantsAlone, List.reverseAux, List.reverse, Nat.zero_add, cx_some, cx_1, cx_2, inBlk_call, ln_C, ln_B, ln_U, ln_F, ln_S, ln_I, ln_T, ln_L, ln_O, ln_P, ln_D, ln_Q, b_assoc, s_assoc, b_ofO, s_ofO, ob_b, ob_s, ob_some, os_some, pkB, rdB, stB, w_len, w_int, w_tuple, w_list, w_str, w_abs, w_sum, w_max, w_min, w_max2, w_min2, w_gcd, w_iInt, w_iBool, w_iTuple, w_iStr, w_iList, w_join, bv_one, bv_cons, bt_one, bt_cons, u_ret1, u_ret2, u_ret3, u_ret4, u_ret5, u_ret6, u_ret7, u_ret8, u_ret9, u_ret10, u_ret11, u_ret12, partE_s, partE_n, nk_cl, nk_ll, u_raise, Q_for, Q_while, Q_if, Q_ife, Q_lc, lcQ_true, ok_int, ok_k, ok_len, ok_row, nn_6, kd_6, x_6_row, r_6_row, p_6_row, m_6_row, s_6_row, c_6_row, l_6_row, rn_6_row, o_6_row, il_6_row, x_6_k, r_6_k, p_6_k, m_6_k, s_6_k, c_6_k, l_6_k, rn_6_k, o_6_k, il_6_k, cc_6, fn_6_int, bt_6_int, i1_6_int, i2_6_int, b1_6_int, fn_6_len, bt_6_len, i1_6_len, i2_6_len, b1_6_len]
  exact rfl
theorem nn_7 (call : Str → List Sl → CR) : (ctxOf G d_7 call).N = [("head" : Str), ("cycle" : Str), ("size" : Str), ("k" : Str)] := by kernel_rfl
theorem kd_7 (call : Str → List Sl → CR) : isFnK (ctxOf G d_7 call).sc = true := by kernel_rfl
theorem x_7_head (call : Str → List Sl → CR) : TW.ixN [("head" : Str), ("cycle" : Str), ("size" : Str), ("k" : Str)] "head" = some 0 := rfl
theorem r_7_head (call : Str → List Sl → CR) (ρ : PEnv) : rdName (ctxOf G d_7 call) "head" ρ = rdSl 0 ρ := by kernel_rfl
theorem p_7_head (call : Str → List Sl → CR) (ρ : PEnv) : pkName (ctxOf G d_7 call) "head" ρ = pkSl 0 ρ := by kernel_rfl
theorem m_7_head (call : Str → List Sl → CR) (ρ : PEnv) : mutSl (ctxOf G d_7 call) "head" ρ = mtSl 0 ρ := by kernel_rfl
theorem s_7_head (call : Str → List Sl → CR) (s : Sl) (ρ : PEnv) : setSl (ctxOf G d_7 call) "head" s ρ = putSl 0 s ρ := by kernel_rfl
theorem c_7_head (call : Str → List Sl → CR) (d : PyData) (f : Bool) : ctName (ctxOf G d_7 call) "head" d f = ctB false d f := by kernel_rfl
theorem l_7_head (call : Str → List Sl → CR) (p : Pos) : lnOf (ctxOf G d_7 call) (.Name "head" p) = some (("head" : Str), 0) := by kernel_rfl
theorem rn_7_head (call : Str → List Sl → CR) (n : Nat) (p p2 : Pos) (ρ : PEnv) : stStep (evN (n + 1)) (ctxOf G d_7 call) (.Return (some (.Name "head" p)) p2) ρ = retN 0 ρ := by kernel_rfl
theorem o_7_head (call : Str → List Sl → CR) : slotOf (ctxOf G d_7 call) "head" = some 0 := by kernel_rfl
theorem il_7_head (call : Str → List Sl → CR) : (ctxOf G d_7 call).sc.names.lookup ("head" : Str) = some NameKind.local := by kernel_rfl
theorem x_7_cycle (call : Str → List Sl → CR) : TW.ixN [("head" : Str), ("cycle" : Str), ("size" : Str), ("k" : Str)] "cycle" = some 1 := rfl
theorem r_7_cycle (call : Str → List Sl → CR) (ρ : PEnv) : rdName (ctxOf G d_7 call) "cycle" ρ = rdSl 1 ρ := by kernel_rfl
theorem p_7_cycle (call : Str → List Sl → CR) (ρ : PEnv) : pkName (ctxOf G d_7 call) "cycle" ρ = pkSl 1 ρ := by kernel_rfl
theorem m_7_cycle (call : Str → List Sl → CR) (ρ : PEnv) : mutSl (ctxOf G d_7 call) "cycle" ρ = mtSl 1 ρ := by kernel_rfl
theorem s_7_cycle (call : Str → List Sl → CR) (s : Sl) (ρ : PEnv) : setSl (ctxOf G d_7 call) "cycle" s ρ = putSl 1 s ρ := by kernel_rfl
theorem c_7_cycle (call : Str → List Sl → CR) (d : PyData) (f : Bool) : ctName (ctxOf G d_7 call) "cycle" d f = ctB false d f := by kernel_rfl
theorem l_7_cycle (call : Str → List Sl → CR) (p : Pos) : lnOf (ctxOf G d_7 call) (.Name "cycle" p) = some (("cycle" : Str), 1) := by kernel_rfl
theorem rn_7_cycle (call : Str → List Sl → CR) (n : Nat) (p p2 : Pos) (ρ : PEnv) : stStep (evN (n + 1)) (ctxOf G d_7 call) (.Return (some (.Name "cycle" p)) p2) ρ = retN 1 ρ := by kernel_rfl
theorem o_7_cycle (call : Str → List Sl → CR) : slotOf (ctxOf G d_7 call) "cycle" = some 1 := by kernel_rfl
theorem il_7_cycle (call : Str → List Sl → CR) : (ctxOf G d_7 call).sc.names.lookup ("cycle" : Str) = some NameKind.local := by kernel_rfl
theorem x_7_size (call : Str → List Sl → CR) : TW.ixN [("head" : Str), ("cycle" : Str), ("size" : Str), ("k" : Str)] "size" = some 2 := rfl
theorem r_7_size (call : Str → List Sl → CR) (ρ : PEnv) : rdName (ctxOf G d_7 call) "size" ρ = rdSl 2 ρ := by kernel_rfl
theorem p_7_size (call : Str → List Sl → CR) (ρ : PEnv) : pkName (ctxOf G d_7 call) "size" ρ = pkSl 2 ρ := by kernel_rfl
theorem m_7_size (call : Str → List Sl → CR) (ρ : PEnv) : mutSl (ctxOf G d_7 call) "size" ρ = mtSl 2 ρ := by kernel_rfl
theorem s_7_size (call : Str → List Sl → CR) (s : Sl) (ρ : PEnv) : setSl (ctxOf G d_7 call) "size" s ρ = putSl 2 s ρ := by kernel_rfl
theorem c_7_size (call : Str → List Sl → CR) (d : PyData) (f : Bool) : ctName (ctxOf G d_7 call) "size" d f = ctB false d f := by kernel_rfl
theorem l_7_size (call : Str → List Sl → CR) (p : Pos) : lnOf (ctxOf G d_7 call) (.Name "size" p) = some (("size" : Str), 2) := by kernel_rfl
theorem rn_7_size (call : Str → List Sl → CR) (n : Nat) (p p2 : Pos) (ρ : PEnv) : stStep (evN (n + 1)) (ctxOf G d_7 call) (.Return (some (.Name "size" p)) p2) ρ = retN 2 ρ := by kernel_rfl
theorem o_7_size (call : Str → List Sl → CR) : slotOf (ctxOf G d_7 call) "size" = some 2 := by kernel_rfl
theorem il_7_size (call : Str → List Sl → CR) : (ctxOf G d_7 call).sc.names.lookup ("size" : Str) = some NameKind.local := by kernel_rfl
theorem x_7_k (call : Str → List Sl → CR) : TW.ixN [("head" : Str), ("cycle" : Str), ("size" : Str), ("k" : Str)] "k" = some 3 := rfl
theorem r_7_k (call : Str → List Sl → CR) (ρ : PEnv) : rdName (ctxOf G d_7 call) "k" ρ = rdSl 3 ρ := by kernel_rfl
theorem p_7_k (call : Str → List Sl → CR) (ρ : PEnv) : pkName (ctxOf G d_7 call) "k" ρ = pkSl 3 ρ := by kernel_rfl
theorem m_7_k (call : Str → List Sl → CR) (ρ : PEnv) : mutSl (ctxOf G d_7 call) "k" ρ = mtSl 3 ρ := by kernel_rfl
theorem s_7_k (call : Str → List Sl → CR) (s : Sl) (ρ : PEnv) : setSl (ctxOf G d_7 call) "k" s ρ = putSl 3 s ρ := by kernel_rfl
theorem c_7_k (call : Str → List Sl → CR) (d : PyData) (f : Bool) : ctName (ctxOf G d_7 call) "k" d f = ctB false d f := by kernel_rfl
theorem l_7_k (call : Str → List Sl → CR) (p : Pos) : lnOf (ctxOf G d_7 call) (.Name "k" p) = some (("k" : Str), 3) := by kernel_rfl
theorem rn_7_k (call : Str → List Sl → CR) (n : Nat) (p p2 : Pos) (ρ : PEnv) : stStep (evN (n + 1)) (ctxOf G d_7 call) (.Return (some (.Name "k" p)) p2) ρ = retN 3 ρ := by kernel_rfl
theorem o_7_k (call : Str → List Sl → CR) : slotOf (ctxOf G d_7 call) "k" = some 3 := by kernel_rfl
theorem il_7_k (call : Str → List Sl → CR) : (ctxOf G d_7 call).sc.names.lookup ("k" : Str) = some NameKind.local := by kernel_rfl
theorem cc_7 (call : Str → List Sl → CR) (f : Str) (as : List Sl) : (ctxOf G d_7 call).call f as = call f as := by kernel_rfl
theorem fn_7_int (call : Str → List Sl → CR) : (ctxOf G d_7 call).fns "int" = none := by kernel_rfl
theorem bt_7_int (call : Str → List Sl → CR) : (ctxOf G d_7 call).blt "int" = true := by kernel_rfl
theorem i1_7_int (call : Str → List Sl → CR) (E : Ev) (a : Expr) (p r : Pos) (ρ : PEnv) : iterP (ctxOf G d_7 call) E (.Call (.Name "int" p) [a] [] r) ρ = iterV E (.Call (.Name "int" p) [a] [] r) ρ := by kernel_rfl
theorem i2_7_int (call : Str → List Sl → CR) (E : Ev) (a b : Expr) (p r : Pos) (ρ : PEnv) : iterP (ctxOf G d_7 call) E (.Call (.Name "int" p) [a, b] [] r) ρ = iterV E (.Call (.Name "int" p) [a, b] [] r) ρ := by kernel_rfl
theorem b1_7_int (call : Str → List Sl → CR) (E : TW.Ctx → Ev) (a : Expr) (p r : Pos) (ρ : PEnv) : evStep E (ctxOf G d_7 call) (.Call (.Name "int" p) [a] [] r) ρ = if (!starred a) = true then (pkE (ctxOf G d_7 call) (E (ctxOf G d_7 call)) a ρ).bind fun d ρ' => ofO (bi1P "int" d) ρ' else .no := by kernel_rfl
theorem fn_7_len (call : Str → List Sl → CR) : (ctxOf G d_7 call).fns "len" = none := by kernel_rfl
theorem bt_7_len (call : Str → List Sl → CR) : (ctxOf G d_7 call).blt "len" = true := by kernel_rfl
theorem i1_7_len (call : Str → List Sl → CR) (E : Ev) (a : Expr) (p r : Pos) (ρ : PEnv) : iterP (ctxOf G d_7 call) E (.Call (.Name "len" p) [a] [] r) ρ = iterV E (.Call (.Name "len" p) [a] [] r) ρ := by kernel_rfl
theorem i2_7_len (call : Str → List Sl → CR) (E : Ev) (a b : Expr) (p r : Pos) (ρ : PEnv) : iterP (ctxOf G d_7 call) E (.Call (.Name "len" p) [a, b] [] r) ρ = iterV E (.Call (.Name "len" p) [a, b] [] r) ρ := by kernel_rfl
theorem b1_7_len (call : Str → List Sl → CR) (E : TW.Ctx → Ev) (a : Expr) (p r : Pos) (ρ : PEnv) : evStep E (ctxOf G d_7 call) (.Call (.Name "len" p) [a] [] r) ρ = if (!starred a) = true then (pkE (ctxOf G d_7 call) (E (ctxOf G d_7 call)) a ρ).bind fun d ρ' => ofO (bi1P "len" d) ρ' else .no := by kernel_rfl
theorem fn_7_range (call : Str → List Sl → CR) : (ctxOf G d_7 call).fns "range" = none := by kernel_rfl
theorem bt_7_range (call : Str → List Sl → CR) : (ctxOf G d_7 call).blt "range" = true := by kernel_rfl
theorem g1_7 (call : Str → List Sl → CR) (E : Ev) (a : Expr) (p r : Pos) (ρ : PEnv) : iterP (ctxOf G d_7 call) E (.Call (.Name "range" p) [a] [] r) ρ = if (!starred a) = true then (E.ev a ρ).bind fun v ρ' => rng1 v.1 ρ' else iterV E (.Call (.Name "range" p) [a] [] r) ρ := by kernel_rfl
theorem g2_7 (call : Str → List Sl → CR) (E : Ev) (a b : Expr) (p r : Pos) (ρ : PEnv) : iterP (ctxOf G d_7 call) E (.Call (.Name "range" p) [a, b] [] r) ρ = if ((!starred a) && !starred b) = true then (E.ev a ρ).bind fun v ρ1 => (E.ev b ρ1).bind fun u ρ2 => rng2 v.1 u.1 ρ2 else iterV E (.Call (.Name "range" p) [a, b] [] r) ρ := by kernel_rfl
def cmp_7 (ci : Nat → List Sl → CR) : {f : PEnv → SR // ∀ ρ, blk (evN FU (ctxOf G d_7 (cl ci))) (L2.defBody (top 9)) ρ = f ρ} := by
  apply Subtype.mk
  intro ρ
  simp only [L2.defBody, top, PySem.Challenge.pw_twicedial_k14_rows_in_least_form, List.getD_cons_succ, List.getD_cons_zero]
  simp only [FU, k_nil, k_one, k_cons2, q_st, q_ev, q_ts, u_pass, u_break, u_cont, u_doc, u_exprC, u_retN, u_set, u_tupT, u_tupN, u_tupC, u_tupS, q_name, q_int, q_str, q_bool, q_none, q_bin, q_not, q_neg, q_bool2, q_cmp, q_cmp2, q_tup, q_lst, q_dct, q_slc, q_subC, q_subN, q_subB, q_subU, q_subF, q_subS, q_subI, q_subT, it_N, it_B, it_S, it_T, it_L, it_C, it_I, it_Z, it_Y, it_M, it_O, q_meth, ti_nil, ti_one, kp_eq, tg_name, tg_tup, t_not, t_bool, t_cmp, t_cmp2, t_name, t_call, b_ok, b_no, s_ok, s_no, o_some, o_none, n_some, n_none, pk2, pk2m, pkE, sl3, cmp1, cmp2, noSet, noSlice, noComp, noSuper, okAsg, starred, items, dispP, isMut, tupS, swP, swNs, swNm, parP, pi_nil, pi_cons, slz_nil, slz_cons, hdS_c, nlS_n, sn_nil, sn_cons, unpk_eq, un1_t, hd1_c, nl1_n, sq_un1, tg2_q, iterV, callP_eq, args1, a2_nil, a2_some, a2_none, a2n_t, a2n_f, lend_b, show_b, given_b, cbk_b, List.nil_append, List.append_nil, List.cons_append, rd_blk, pk_blk, ln_blk, set_blk, call_blk, slB, isStoB, isLoc, isGlo, isLc, str_beq, str_eq, decide_str, String.reduceBEq, String.reduceEq, String.reduceNe, ownOf, List.filterMap_cons, List.filterMap_nil, List.map_cons, List.map_nil, isBlt, L2.blkC, List.mem_cons, List.not_mem_nil, or_false, false_or, List.getElem?_cons_succ, List.getElem?_cons_zero, or_true, true_or, if_true, if_false, ite_true, ite_false, Bool.and_true, Bool.true_and, Bool.and_false, Bool.false_and, Bool.or_true, Bool.or_false, Bool.true_or, Bool.false_or, Bool.not_true, Bool.not_false, List.lookup_cons, List.lookup_nil, beq_self_eq_true, decide_true, decide_false, Option.map_some, Option.map_none, Option.bind_some, Option.bind_none, Bool.false_eq_true, ne_eq, not_true, not_false_iff, List.length_cons, List.length_nil, List.any_cons, List.any_nil, List.all_cons, List.all_nil, Bool.true_eq_false, Bool.not_eq_true', bne, List.headD_cons, List.tail_cons, eq_self, sq_nx, sq_rt, sq_bk, sq_ct, sq_no, sq_s, sq_nxO, sq_os, List.head?_cons, Option.getD_some, PySem.Expr.pos, Nat.reduceBEq, Nat.reduceBNe, Nat.reduceEqDiff, Nat.reduceAdd, List.eraseDups, List.eraseDupsBy, List.eraseDupsBy.loop, List.reverse_cons, List.reverse_nil, foldedForSure, constantsAlone, List.reverseAux, List.reverse, Nat.zero_add, cx_some, cx_1, cx_2, inBlk_call, ln_C, ln_B, ln_U, ln_F, ln_S, ln_I, ln_T, ln_L, ln_O, ln_P, ln_D, ln_Q, b_assoc, s_assoc, b_ofO, s_ofO, ob_b, ob_s, ob_some, os_some, pkB, rdB, stB, w_len, w_int, w_tuple, w_list, w_str, w_abs, w_sum, w_max, w_min, w_max2, w_min2, w_gcd, w_iInt, w_iBool, w_iTuple, w_iStr, w_iList, w_join, bv_one, bv_cons, bt_one, bt_cons, u_ret1, u_ret2, u_ret3, u_ret4, u_ret5, u_ret6, u_ret7, u_ret8, u_ret9, u_ret10, u_ret11, u_ret12, partE_s, partE_n, nk_cl, nk_ll, u_raise, Q_for, Q_while, Q_if, Q_ife, Q_lc, lcQ_true, ok_cycle, ok_head, ok_int, ok_k, ok_len, ok_range, ok_size, nn_7, kd_7, x_7_head, r_7_head, p_7_head, m_7_head, s_7_head, c_7_head, l_7_head, rn_7_head, o_7_head, il_7_head, x_7_cycle, r_7_cycle, p_7_cycle, m_7_cycle, s_7_cycle, c_7_cycle, l_7_cycle, rn_7_cycle, o_7_cycle, il_7_cycle, x_7_size, r_7_size, p_7_size, m_7_size, s_7_size, c_7_size, l_7_size, rn_7_size, o_7_size, il_7_size, x_7_k, r_7_k, p_7_k, m_7_k, s_7_k, c_7_k, l_7_k, rn_7_k, o_7_k, il_7_k, cc_7, fn_7_int, bt_7_int, i1_7_int, i2_7_int, b1_7_int, fn_7_len, bt_7_len, i1_7_len, i2_7_len, b1_7_len, fn_7_range, bt_7_range, g1_7, g2_7]
  simp only [lit_2]
  exact rfl
theorem ok_isinstance : okNm "isinstance" = true := rfl
theorem ok_str : okNm "str" = true := rfl
theorem ok_tuple : okNm "tuple" = true := rfl
theorem nn_8 (call : Str → List Sl → CR) : (ctxOf G d_8 call).N = [("row" : Str), ("size" : Str), ("head" : Str), ("cycle" : Str)] := by kernel_rfl
theorem kd_8 (call : Str → List Sl → CR) : isFnK (ctxOf G d_8 call).sc = true := by kernel_rfl
theorem x_8_row (call : Str → List Sl → CR) : TW.ixN [("row" : Str), ("size" : Str), ("head" : Str), ("cycle" : Str)] "row" = some 0 := rfl
theorem r_8_row (call : Str → List Sl → CR) (ρ : PEnv) : rdName (ctxOf G d_8 call) "row" ρ = rdSl 0 ρ := by kernel_rfl
theorem p_8_row (call : Str → List Sl → CR) (ρ : PEnv) : pkName (ctxOf G d_8 call) "row" ρ = pkSl 0 ρ := by kernel_rfl
theorem m_8_row (call : Str → List Sl → CR) (ρ : PEnv) : mutSl (ctxOf G d_8 call) "row" ρ = mtSl 0 ρ := by kernel_rfl
theorem s_8_row (call : Str → List Sl → CR) (s : Sl) (ρ : PEnv) : setSl (ctxOf G d_8 call) "row" s ρ = putSl 0 s ρ := by kernel_rfl
theorem c_8_row (call : Str → List Sl → CR) (d : PyData) (f : Bool) : ctName (ctxOf G d_8 call) "row" d f = ctB false d f := by kernel_rfl
theorem l_8_row (call : Str → List Sl → CR) (p : Pos) : lnOf (ctxOf G d_8 call) (.Name "row" p) = some (("row" : Str), 0) := by kernel_rfl
theorem rn_8_row (call : Str → List Sl → CR) (n : Nat) (p p2 : Pos) (ρ : PEnv) : stStep (evN (n + 1)) (ctxOf G d_8 call) (.Return (some (.Name "row" p)) p2) ρ = retN 0 ρ := by kernel_rfl
theorem o_8_row (call : Str → List Sl → CR) : slotOf (ctxOf G d_8 call) "row" = some 0 := by kernel_rfl
theorem il_8_row (call : Str → List Sl → CR) : (ctxOf G d_8 call).sc.names.lookup ("row" : Str) = some NameKind.local := by kernel_rfl
theorem x_8_size (call : Str → List Sl → CR) : TW.ixN [("row" : Str), ("size" : Str), ("head" : Str), ("cycle" : Str)] "size" = some 1 := rfl
theorem r_8_size (call : Str → List Sl → CR) (ρ : PEnv) : rdName (ctxOf G d_8 call) "size" ρ = rdSl 1 ρ := by kernel_rfl
theorem p_8_size (call : Str → List Sl → CR) (ρ : PEnv) : pkName (ctxOf G d_8 call) "size" ρ = pkSl 1 ρ := by kernel_rfl
theorem m_8_size (call : Str → List Sl → CR) (ρ : PEnv) : mutSl (ctxOf G d_8 call) "size" ρ = mtSl 1 ρ := by kernel_rfl
theorem s_8_size (call : Str → List Sl → CR) (s : Sl) (ρ : PEnv) : setSl (ctxOf G d_8 call) "size" s ρ = putSl 1 s ρ := by kernel_rfl
theorem c_8_size (call : Str → List Sl → CR) (d : PyData) (f : Bool) : ctName (ctxOf G d_8 call) "size" d f = ctB false d f := by kernel_rfl
theorem l_8_size (call : Str → List Sl → CR) (p : Pos) : lnOf (ctxOf G d_8 call) (.Name "size" p) = some (("size" : Str), 1) := by kernel_rfl
theorem rn_8_size (call : Str → List Sl → CR) (n : Nat) (p p2 : Pos) (ρ : PEnv) : stStep (evN (n + 1)) (ctxOf G d_8 call) (.Return (some (.Name "size" p)) p2) ρ = retN 1 ρ := by kernel_rfl
theorem o_8_size (call : Str → List Sl → CR) : slotOf (ctxOf G d_8 call) "size" = some 1 := by kernel_rfl
theorem il_8_size (call : Str → List Sl → CR) : (ctxOf G d_8 call).sc.names.lookup ("size" : Str) = some NameKind.local := by kernel_rfl
theorem x_8_head (call : Str → List Sl → CR) : TW.ixN [("row" : Str), ("size" : Str), ("head" : Str), ("cycle" : Str)] "head" = some 2 := rfl
theorem r_8_head (call : Str → List Sl → CR) (ρ : PEnv) : rdName (ctxOf G d_8 call) "head" ρ = rdSl 2 ρ := by kernel_rfl
theorem p_8_head (call : Str → List Sl → CR) (ρ : PEnv) : pkName (ctxOf G d_8 call) "head" ρ = pkSl 2 ρ := by kernel_rfl
theorem m_8_head (call : Str → List Sl → CR) (ρ : PEnv) : mutSl (ctxOf G d_8 call) "head" ρ = mtSl 2 ρ := by kernel_rfl
theorem s_8_head (call : Str → List Sl → CR) (s : Sl) (ρ : PEnv) : setSl (ctxOf G d_8 call) "head" s ρ = putSl 2 s ρ := by kernel_rfl
theorem c_8_head (call : Str → List Sl → CR) (d : PyData) (f : Bool) : ctName (ctxOf G d_8 call) "head" d f = ctB false d f := by kernel_rfl
theorem l_8_head (call : Str → List Sl → CR) (p : Pos) : lnOf (ctxOf G d_8 call) (.Name "head" p) = some (("head" : Str), 2) := by kernel_rfl
theorem rn_8_head (call : Str → List Sl → CR) (n : Nat) (p p2 : Pos) (ρ : PEnv) : stStep (evN (n + 1)) (ctxOf G d_8 call) (.Return (some (.Name "head" p)) p2) ρ = retN 2 ρ := by kernel_rfl
theorem o_8_head (call : Str → List Sl → CR) : slotOf (ctxOf G d_8 call) "head" = some 2 := by kernel_rfl
theorem il_8_head (call : Str → List Sl → CR) : (ctxOf G d_8 call).sc.names.lookup ("head" : Str) = some NameKind.local := by kernel_rfl
theorem x_8_cycle (call : Str → List Sl → CR) : TW.ixN [("row" : Str), ("size" : Str), ("head" : Str), ("cycle" : Str)] "cycle" = some 3 := rfl
theorem r_8_cycle (call : Str → List Sl → CR) (ρ : PEnv) : rdName (ctxOf G d_8 call) "cycle" ρ = rdSl 3 ρ := by kernel_rfl
theorem p_8_cycle (call : Str → List Sl → CR) (ρ : PEnv) : pkName (ctxOf G d_8 call) "cycle" ρ = pkSl 3 ρ := by kernel_rfl
theorem m_8_cycle (call : Str → List Sl → CR) (ρ : PEnv) : mutSl (ctxOf G d_8 call) "cycle" ρ = mtSl 3 ρ := by kernel_rfl
theorem s_8_cycle (call : Str → List Sl → CR) (s : Sl) (ρ : PEnv) : setSl (ctxOf G d_8 call) "cycle" s ρ = putSl 3 s ρ := by kernel_rfl
theorem c_8_cycle (call : Str → List Sl → CR) (d : PyData) (f : Bool) : ctName (ctxOf G d_8 call) "cycle" d f = ctB false d f := by kernel_rfl
theorem l_8_cycle (call : Str → List Sl → CR) (p : Pos) : lnOf (ctxOf G d_8 call) (.Name "cycle" p) = some (("cycle" : Str), 3) := by kernel_rfl
theorem rn_8_cycle (call : Str → List Sl → CR) (n : Nat) (p p2 : Pos) (ρ : PEnv) : stStep (evN (n + 1)) (ctxOf G d_8 call) (.Return (some (.Name "cycle" p)) p2) ρ = retN 3 ρ := by kernel_rfl
theorem o_8_cycle (call : Str → List Sl → CR) : slotOf (ctxOf G d_8 call) "cycle" = some 3 := by kernel_rfl
theorem il_8_cycle (call : Str → List Sl → CR) : (ctxOf G d_8 call).sc.names.lookup ("cycle" : Str) = some NameKind.local := by kernel_rfl
theorem cc_8 (call : Str → List Sl → CR) (f : Str) (as : List Sl) : (ctxOf G d_8 call).call f as = call f as := by kernel_rfl
theorem fn_8_int (call : Str → List Sl → CR) : (ctxOf G d_8 call).fns "int" = none := by kernel_rfl
theorem bt_8_int (call : Str → List Sl → CR) : (ctxOf G d_8 call).blt "int" = true := by kernel_rfl
theorem i1_8_int (call : Str → List Sl → CR) (E : Ev) (a : Expr) (p r : Pos) (ρ : PEnv) : iterP (ctxOf G d_8 call) E (.Call (.Name "int" p) [a] [] r) ρ = iterV E (.Call (.Name "int" p) [a] [] r) ρ := by kernel_rfl
theorem i2_8_int (call : Str → List Sl → CR) (E : Ev) (a b : Expr) (p r : Pos) (ρ : PEnv) : iterP (ctxOf G d_8 call) E (.Call (.Name "int" p) [a, b] [] r) ρ = iterV E (.Call (.Name "int" p) [a, b] [] r) ρ := by kernel_rfl
theorem b1_8_int (call : Str → List Sl → CR) (E : TW.Ctx → Ev) (a : Expr) (p r : Pos) (ρ : PEnv) : evStep E (ctxOf G d_8 call) (.Call (.Name "int" p) [a] [] r) ρ = if (!starred a) = true then (pkE (ctxOf G d_8 call) (E (ctxOf G d_8 call)) a ρ).bind fun d ρ' => ofO (bi1P "int" d) ρ' else .no := by kernel_rfl
theorem fn_8_isinstance (call : Str → List Sl → CR) : (ctxOf G d_8 call).fns "isinstance" = none := by kernel_rfl
theorem bt_8_isinstance (call : Str → List Sl → CR) : (ctxOf G d_8 call).blt "isinstance" = true := by kernel_rfl
theorem i1_8_isinstance (call : Str → List Sl → CR) (E : Ev) (a : Expr) (p r : Pos) (ρ : PEnv) : iterP (ctxOf G d_8 call) E (.Call (.Name "isinstance" p) [a] [] r) ρ = iterV E (.Call (.Name "isinstance" p) [a] [] r) ρ := by kernel_rfl
theorem i2_8_isinstance (call : Str → List Sl → CR) (E : Ev) (a b : Expr) (p r : Pos) (ρ : PEnv) : iterP (ctxOf G d_8 call) E (.Call (.Name "isinstance" p) [a, b] [] r) ρ = iterV E (.Call (.Name "isinstance" p) [a, b] [] r) ρ := by kernel_rfl
theorem is_8_int (call : Str → List Sl → CR) (E : TW.Ctx → Ev) (a : Expr) (p r s : Pos) (ρ : PEnv) : evStep E (ctxOf G d_8 call) (.Call (.Name "isinstance" p) [a, .Name "int" s] [] r) ρ = if (starred a || false) = true then .no else (pkE (ctxOf G d_8 call) (E (ctxOf G d_8 call)) a ρ).bind fun d ρ' => (ofO (isiP d "int") ρ').bind fun k ρ'' => .ok (.bool k, false) ρ'' := by kernel_rfl
theorem is_8_tuple (call : Str → List Sl → CR) (E : TW.Ctx → Ev) (a : Expr) (p r s : Pos) (ρ : PEnv) : evStep E (ctxOf G d_8 call) (.Call (.Name "isinstance" p) [a, .Name "tuple" s] [] r) ρ = if (starred a || false) = true then .no else (pkE (ctxOf G d_8 call) (E (ctxOf G d_8 call)) a ρ).bind fun d ρ' => (ofO (isiP d "tuple") ρ').bind fun k ρ'' => .ok (.bool k, false) ρ'' := by kernel_rfl
theorem is_8_str (call : Str → List Sl → CR) (E : TW.Ctx → Ev) (a : Expr) (p r s : Pos) (ρ : PEnv) : evStep E (ctxOf G d_8 call) (.Call (.Name "isinstance" p) [a, .Name "str" s] [] r) ρ = if (starred a || false) = true then .no else (pkE (ctxOf G d_8 call) (E (ctxOf G d_8 call)) a ρ).bind fun d ρ' => (ofO (isiP d "str") ρ').bind fun k ρ'' => .ok (.bool k, false) ρ'' := by kernel_rfl
theorem fn_8_len (call : Str → List Sl → CR) : (ctxOf G d_8 call).fns "len" = none := by kernel_rfl
theorem bt_8_len (call : Str → List Sl → CR) : (ctxOf G d_8 call).blt "len" = true := by kernel_rfl
theorem i1_8_len (call : Str → List Sl → CR) (E : Ev) (a : Expr) (p r : Pos) (ρ : PEnv) : iterP (ctxOf G d_8 call) E (.Call (.Name "len" p) [a] [] r) ρ = iterV E (.Call (.Name "len" p) [a] [] r) ρ := by kernel_rfl
theorem i2_8_len (call : Str → List Sl → CR) (E : Ev) (a b : Expr) (p r : Pos) (ρ : PEnv) : iterP (ctxOf G d_8 call) E (.Call (.Name "len" p) [a, b] [] r) ρ = iterV E (.Call (.Name "len" p) [a, b] [] r) ρ := by kernel_rfl
theorem b1_8_len (call : Str → List Sl → CR) (E : TW.Ctx → Ev) (a : Expr) (p r : Pos) (ρ : PEnv) : evStep E (ctxOf G d_8 call) (.Call (.Name "len" p) [a] [] r) ρ = if (!starred a) = true then (pkE (ctxOf G d_8 call) (E (ctxOf G d_8 call)) a ρ).bind fun d ρ' => ofO (bi1P "len" d) ρ' else .no := by kernel_rfl
theorem fn_8_range (call : Str → List Sl → CR) : (ctxOf G d_8 call).fns "range" = none := by kernel_rfl
theorem bt_8_range (call : Str → List Sl → CR) : (ctxOf G d_8 call).blt "range" = true := by kernel_rfl
theorem g1_8 (call : Str → List Sl → CR) (E : Ev) (a : Expr) (p r : Pos) (ρ : PEnv) : iterP (ctxOf G d_8 call) E (.Call (.Name "range" p) [a] [] r) ρ = if (!starred a) = true then (E.ev a ρ).bind fun v ρ' => rng1 v.1 ρ' else iterV E (.Call (.Name "range" p) [a] [] r) ρ := by kernel_rfl
theorem g2_8 (call : Str → List Sl → CR) (E : Ev) (a b : Expr) (p r : Pos) (ρ : PEnv) : iterP (ctxOf G d_8 call) E (.Call (.Name "range" p) [a, b] [] r) ρ = if ((!starred a) && !starred b) = true then (E.ev a ρ).bind fun v ρ1 => (E.ev b ρ1).bind fun u ρ2 => rng2 v.1 u.1 ρ2 else iterV E (.Call (.Name "range" p) [a, b] [] r) ρ := by kernel_rfl
def cmp_8 (ci : Nat → List Sl → CR) : {f : PEnv → SR // ∀ ρ, blk (evN FU (ctxOf G d_8 (cl ci))) (L2.defBody (top 10)) ρ = f ρ} := by
  apply Subtype.mk
  intro ρ
  simp only [L2.defBody, top, PySem.Challenge.pw_twicedial_k14_rows_in_least_form, List.getD_cons_succ, List.getD_cons_zero]
  simp only [FU, k_nil, k_one, k_cons2, q_st, q_ev, q_ts, u_pass, u_break, u_cont, u_doc, u_exprC, u_retN, u_set, u_tupT, u_tupN, u_tupC, u_tupS, q_name, q_int, q_str, q_bool, q_none, q_bin, q_not, q_neg, q_bool2, q_cmp, q_cmp2, q_tup, q_lst, q_dct, q_slc, q_subC, q_subN, q_subB, q_subU, q_subF, q_subS, q_subI, q_subT, it_N, it_B, it_S, it_T, it_L, it_C, it_I, it_Z, it_Y, it_M, it_O, q_meth, ti_nil, ti_one, kp_eq, tg_name, tg_tup, t_not, t_bool, t_cmp, t_cmp2, t_name, t_call, b_ok, b_no, s_ok, s_no, o_some, o_none, n_some, n_none, pk2, pk2m, pkE, sl3, cmp1, cmp2, noSet, noSlice, noComp, noSuper, okAsg, starred, items, dispP, isMut, tupS, swP, swNs, swNm, parP, pi_nil, pi_cons, slz_nil, slz_cons, hdS_c, nlS_n, sn_nil, sn_cons, unpk_eq, un1_t, hd1_c, nl1_n, sq_un1, tg2_q, iterV, callP_eq, args1, a2_nil, a2_some, a2_none, a2n_t, a2n_f, lend_b, show_b, given_b, cbk_b, List.nil_append, List.append_nil, List.cons_append, rd_blk, pk_blk, ln_blk, set_blk, call_blk, slB, isStoB, isLoc, isGlo, isLc, str_beq, str_eq, decide_str, String.reduceBEq, String.reduceEq, String.reduceNe, ownOf, List.filterMap_cons, List.filterMap_nil, List.map_cons, List.map_nil, isBlt, L2.blkC, List.mem_cons, List.not_mem_nil, or_false, false_or, List.getElem?_cons_succ, List.getElem?_cons_zero, or_true, true_or, if_true, if_false, ite_true, ite_false, Bool.and_true, Bool.true_and, Bool.and_false, Bool.false_and, Bool.or_true, Bool.or_false, Bool.true_or, Bool.false_or, Bool.not_true, Bool.not_false, List.lookup_cons, List.lookup_nil, beq_self_eq_true, decide_true, decide_false, Option.map_some, Option.map_none, Option.bind_some, Option.bind_none, Bool.false_eq_true, ne_eq, not_true, not_false_iff, List.length_cons, List.length_nil, List.any_cons, List.any_nil, List.all_cons, List.all_nil, Bool.true_eq_false, Bool.not_eq_true', bne, List.headD_cons, List.tail_cons, eq_self, sq_nx, sq_rt, sq_bk, sq_ct, sq_no, sq_s, sq_nxO, sq_os, List.head?_cons, Option.getD_some, PySem.Expr.pos, Nat.reduceBEq, Nat.reduceBNe, Nat.reduceEqDiff, Nat.reduceAdd, List.eraseDups, List.eraseDupsBy, List.eraseDupsBy.loop, List.reverse_cons, List.reverse_nil, foldedForSure, constantsAlone, List.reverseAux, List.reverse, Nat.zero_add, cx_some, cx_1, cx_2, inBlk_call, ln_C, ln_B, ln_U, ln_F, ln_S, ln_I, ln_T, ln_L, ln_O, ln_P, ln_D, ln_Q, b_assoc, s_assoc, b_ofO, s_ofO, ob_b, ob_s, ob_some, os_some, pkB, rdB, stB, w_len, w_int, w_tuple, w_list, w_str, w_abs, w_sum, w_max, w_min, w_max2, w_min2, w_gcd, w_iInt, w_iBool, w_iTuple, w_iStr, w_iList, w_join, bv_one, bv_cons, bt_one, bt_cons, u_ret1, u_ret2, u_ret3, u_ret4, u_ret5, u_ret6, u_ret7, u_ret8, u_ret9, u_ret10, u_ret11, u_ret12, partE_s, partE_n, nk_cl, nk_ll, u_raise, Q_for, Q_while, Q_if, Q_ife, Q_lc, lcQ_true, ok_cycle, ok_head, ok_int, ok_isinstance, ok_len, ok_range, ok_row, ok_size, ok_str, ok_tuple, nn_8, kd_8, x_8_row, r_8_row, p_8_row, m_8_row, s_8_row, c_8_row, l_8_row, rn_8_row, o_8_row, il_8_row, x_8_size, r_8_size, p_8_size, m_8_size, s_8_size, c_8_size, l_8_size, rn_8_size, o_8_size, il_8_size, x_8_head, r_8_head, p_8_head, m_8_head, s_8_head, c_8_head, l_8_head, rn_8_head, o_8_head, il_8_head, x_8_cycle, r_8_cycle, p_8_cycle, m_8_cycle, s_8_cycle, c_8_cycle, l_8_cycle, rn_8_cycle, o_8_cycle, il_8_cycle, cc_8, fn_8_int, bt_8_int, i1_8_int, i2_8_int, b1_8_int, fn_8_isinstance, bt_8_isinstance, i1_8_isinstance, i2_8_isinstance, is_8_int, is_8_tuple, is_8_str, fn_8_len, bt_8_len, i1_8_len, i2_8_len, b1_8_len, fn_8_range, bt_8_range, g1_8, g2_8]
  simp only [lit_2]
  exact rfl
theorem ok__law_of : okNm "_law_of" = true := rfl
theorem nn_9 (call : Str → List Sl → CR) : (ctxOf G d_9 call).N = [("m" : Str), ("size" : Str), ("k" : Str)] := by kernel_rfl
theorem kd_9 (call : Str → List Sl → CR) : isFnK (ctxOf G d_9 call).sc = true := by kernel_rfl
theorem x_9_m (call : Str → List Sl → CR) : TW.ixN [("m" : Str), ("size" : Str), ("k" : Str)] "m" = some 0 := rfl
theorem r_9_m (call : Str → List Sl → CR) (ρ : PEnv) : rdName (ctxOf G d_9 call) "m" ρ = rdSl 0 ρ := by kernel_rfl
theorem p_9_m (call : Str → List Sl → CR) (ρ : PEnv) : pkName (ctxOf G d_9 call) "m" ρ = pkSl 0 ρ := by kernel_rfl
theorem m_9_m (call : Str → List Sl → CR) (ρ : PEnv) : mutSl (ctxOf G d_9 call) "m" ρ = mtSl 0 ρ := by kernel_rfl
theorem s_9_m (call : Str → List Sl → CR) (s : Sl) (ρ : PEnv) : setSl (ctxOf G d_9 call) "m" s ρ = putSl 0 s ρ := by kernel_rfl
theorem c_9_m (call : Str → List Sl → CR) (d : PyData) (f : Bool) : ctName (ctxOf G d_9 call) "m" d f = ctB true d f := by kernel_rfl
theorem l_9_m (call : Str → List Sl → CR) (p : Pos) : lnOf (ctxOf G d_9 call) (.Name "m" p) = some (("m" : Str), 0) := by kernel_rfl
theorem rn_9_m (call : Str → List Sl → CR) (n : Nat) (p p2 : Pos) (ρ : PEnv) : stStep (evN (n + 1)) (ctxOf G d_9 call) (.Return (some (.Name "m" p)) p2) ρ = retN 0 ρ := by kernel_rfl
theorem ap_9_m (call : Str → List Sl → CR) (E : Ev) (a : Expr) (ρ : PEnv) : mutP (ctxOf G d_9 call) E "m" "append" [a] ρ = if starred a then .no else apS 0 ρ fun ρ => (kpE E a ρ) := ap_eq (fun _ => rfl)
theorem as_9_m (call : Str → List Sl → CR) (E : TW.Ctx → Ev) (i e : Expr) (p p2 p3 : Pos) (ρ : PEnv) : stStep E (ctxOf G d_9 call) (.Assign [.Subscript (.Name "m" p) i p2] e p3) ρ = if noSlice i && noComp e then (kpE (E (ctxOf G d_9 call)) e ρ).toS fun v ρ1 => sgS 0 ρ1 fun ρ1 => (kpE (E (ctxOf G d_9 call)) i ρ1).toS fun k ρ2 => suS 0 k v ρ2 else .no := asg_eq (fun _ => rfl)
theorem o_9_m (call : Str → List Sl → CR) : slotOf (ctxOf G d_9 call) "m" = some 0 := by kernel_rfl
theorem il_9_m (call : Str → List Sl → CR) : (ctxOf G d_9 call).sc.names.lookup ("m" : Str) = some NameKind.cell := by kernel_rfl
theorem x_9_size (call : Str → List Sl → CR) : TW.ixN [("m" : Str), ("size" : Str), ("k" : Str)] "size" = some 1 := rfl
theorem r_9_size (call : Str → List Sl → CR) (ρ : PEnv) : rdName (ctxOf G d_9 call) "size" ρ = rdSl 1 ρ := by kernel_rfl
theorem p_9_size (call : Str → List Sl → CR) (ρ : PEnv) : pkName (ctxOf G d_9 call) "size" ρ = pkSl 1 ρ := by kernel_rfl
theorem m_9_size (call : Str → List Sl → CR) (ρ : PEnv) : mutSl (ctxOf G d_9 call) "size" ρ = mtSl 1 ρ := by kernel_rfl
theorem s_9_size (call : Str → List Sl → CR) (s : Sl) (ρ : PEnv) : setSl (ctxOf G d_9 call) "size" s ρ = putSl 1 s ρ := by kernel_rfl
theorem c_9_size (call : Str → List Sl → CR) (d : PyData) (f : Bool) : ctName (ctxOf G d_9 call) "size" d f = ctB false d f := by kernel_rfl
theorem l_9_size (call : Str → List Sl → CR) (p : Pos) : lnOf (ctxOf G d_9 call) (.Name "size" p) = some (("size" : Str), 1) := by kernel_rfl
theorem rn_9_size (call : Str → List Sl → CR) (n : Nat) (p p2 : Pos) (ρ : PEnv) : stStep (evN (n + 1)) (ctxOf G d_9 call) (.Return (some (.Name "size" p)) p2) ρ = retN 1 ρ := by kernel_rfl
theorem o_9_size (call : Str → List Sl → CR) : slotOf (ctxOf G d_9 call) "size" = some 1 := by kernel_rfl
theorem il_9_size (call : Str → List Sl → CR) : (ctxOf G d_9 call).sc.names.lookup ("size" : Str) = some NameKind.local := by kernel_rfl
theorem x_9_k (call : Str → List Sl → CR) : TW.ixN [("m" : Str), ("size" : Str), ("k" : Str)] "k" = some 2 := rfl
theorem x_9_dot0 (call : Str → List Sl → CR) : TW.ixN [("m" : Str), ("size" : Str), ("k" : Str)] ".0" = none := rfl
theorem cc_9 (call : Str → List Sl → CR) (f : Str) (as : List Sl) : (ctxOf G d_9 call).call f as = call f as := by kernel_rfl
theorem fn_9__law_of (call : Str → List Sl → CR) : (ctxOf G d_9 call).fns "_law_of" = some [true, false] := by kernel_rfl
theorem fn_9_range (call : Str → List Sl → CR) : (ctxOf G d_9 call).fns "range" = none := by kernel_rfl
theorem bt_9_range (call : Str → List Sl → CR) : (ctxOf G d_9 call).blt "range" = true := by kernel_rfl
theorem g1_9 (call : Str → List Sl → CR) (E : Ev) (a : Expr) (p r : Pos) (ρ : PEnv) : iterP (ctxOf G d_9 call) E (.Call (.Name "range" p) [a] [] r) ρ = if (!starred a) = true then (E.ev a ρ).bind fun v ρ' => rng1 v.1 ρ' else iterV E (.Call (.Name "range" p) [a] [] r) ρ := by kernel_rfl
theorem g2_9 (call : Str → List Sl → CR) (E : Ev) (a b : Expr) (p r : Pos) (ρ : PEnv) : iterP (ctxOf G d_9 call) E (.Call (.Name "range" p) [a, b] [] r) ρ = if ((!starred a) && !starred b) = true then (E.ev a ρ).bind fun v ρ1 => (E.ev b ρ1).bind fun u ρ2 => rng2 v.1 u.1 ρ2 else iterV E (.Call (.Name "range" p) [a, b] [] r) ρ := by kernel_rfl
def cmp_9 (ci : Nat → List Sl → CR) : {f : PEnv → SR // ∀ ρ, blk (evN FU (ctxOf G d_9 (cl ci))) (L2.defBody (top 11)) ρ = f ρ} := by
  apply Subtype.mk
  intro ρ
  simp only [L2.defBody, top, PySem.Challenge.pw_twicedial_k14_rows_in_least_form, List.getD_cons_succ, List.getD_cons_zero]
  simp only [FU, k_nil, k_one, k_cons2, q_st, q_ev, q_ts, u_pass, u_break, u_cont, u_doc, u_exprC, u_retN, u_set, u_tupT, u_tupN, u_tupC, u_tupS, q_name, q_int, q_str, q_bool, q_none, q_bin, q_not, q_neg, q_bool2, q_cmp, q_cmp2, q_tup, q_lst, q_dct, q_slc, q_subC, q_subN, q_subB, q_subU, q_subF, q_subS, q_subI, q_subT, it_N, it_B, it_S, it_T, it_L, it_C, it_I, it_Z, it_Y, it_M, it_O, q_meth, ti_nil, ti_one, kp_eq, tg_name, tg_tup, t_not, t_bool, t_cmp, t_cmp2, t_name, t_call, b_ok, b_no, s_ok, s_no, o_some, o_none, n_some, n_none, pk2, pk2m, pkE, sl3, cmp1, cmp2, noSet, noSlice, noComp, noSuper, okAsg, starred, items, dispP, isMut, tupS, swP, swNs, swNm, parP, pi_nil, pi_cons, slz_nil, slz_cons, hdS_c, nlS_n, sn_nil, sn_cons, unpk_eq, un1_t, hd1_c, nl1_n, sq_un1, tg2_q, iterV, callP_eq, args1, a2_nil, a2_some, a2_none, a2n_t, a2n_f, lend_b, show_b, given_b, cbk_b, List.nil_append, List.append_nil, List.cons_append, rd_blk, pk_blk, ln_blk, set_blk, call_blk, slB, isStoB, isLoc, isGlo, isLc, str_beq, str_eq, decide_str, String.reduceBEq, String.reduceEq, String.reduceNe, ownOf, List.filterMap_cons, List.filterMap_nil, List.map_cons, List.map_nil, isBlt, L2.blkC, List.mem_cons, List.not_mem_nil, or_false, false_or, List.getElem?_cons_succ, List.getElem?_cons_zero, or_true, true_or, if_true, if_false, ite_true, ite_false, Bool.and_true, Bool.true_and, Bool.and_false, Bool.false_and, Bool.or_true, Bool.or_false, Bool.true_or, Bool.false_or, Bool.not_true, Bool.not_false, List.lookup_cons, List.lookup_nil, beq_self_eq_true, decide_true, decide_false, Option.map_some, Option.map_none, Option.bind_some, Option.bind_none, Bool.false_eq_true, ne_eq, not_true, not_false_iff, List.length_cons, List.length_nil, List.any_cons, List.any_nil, List.all_cons, List.all_nil, Bool.true_eq_false, Bool.not_eq_true', bne, List.headD_cons, List.tail_cons, eq_self, sq_nx, sq_rt, sq_bk, sq_ct, sq_no, sq_s, sq_nxO, sq_os, List.head?_cons, Option.getD_some, PySem.Expr.pos, Nat.reduceBEq, Nat.reduceBNe, Nat.reduceEqDiff, Nat.reduceAdd, List.eraseDups, List.eraseDupsBy, List.eraseDupsBy.loop, List.reverse_cons, List.reverse_nil, foldedForSure, constantsAlone, List.reverseAux, List.reverse, Nat.zero_add, cx_some, cx_1, cx_2, inBlk_call, ln_C, ln_B, ln_U, ln_F, ln_S, ln_I, ln_T, ln_L, ln_O, ln_P, ln_D, ln_Q, b_assoc, s_assoc, b_ofO, s_ofO, ob_b, ob_s, ob_some, os_some, pkB, rdB, stB, w_len, w_int, w_tuple, w_list, w_str, w_abs, w_sum, w_max, w_min, w_max2, w_min2, w_gcd, w_iInt, w_iBool, w_iTuple, w_iStr, w_iList, w_join, bv_one, bv_cons, bt_one, bt_cons, u_ret1, u_ret2, u_ret3, u_ret4, u_ret5, u_ret6, u_ret7, u_ret8, u_ret9, u_ret10, u_ret11, u_ret12, partE_s, partE_n, nk_cl, nk_ll, u_raise, Q_for, Q_while, Q_if, Q_ife, Q_lc, lcQ_true, ok__law_of, ok_k, ok_m, ok_range, ok_size, nn_9, kd_9, x_9_m, r_9_m, p_9_m, m_9_m, s_9_m, c_9_m, l_9_m, rn_9_m, ap_9_m, as_9_m, o_9_m, il_9_m, x_9_size, r_9_size, p_9_size, m_9_size, s_9_size, c_9_size, l_9_size, rn_9_size, o_9_size, il_9_size, x_9_k, x_9_dot0, cc_9, fn_9__law_of, fn_9_range, bt_9_range, g1_9, g2_9, cl_5]
  simp only [lit_2, lit_9, lit_7, lit_8]
  exact rfl
theorem ok_at : okNm "at" = true := rfl
theorem ok_both : okNm "both" = true := rfl
theorem ok_spare : okNm "spare" = true := rfl
theorem nn_10 (call : Str → List Sl → CR) : (ctxOf G d_10 call).N = [("m" : Str), ("head" : Str), ("cycle" : Str), ("spare" : Str), ("k" : Str), ("both" : Str), ("at" : Str)] := by kernel_rfl
theorem kd_10 (call : Str → List Sl → CR) : isFnK (ctxOf G d_10 call).sc = true := by kernel_rfl
theorem x_10_m (call : Str → List Sl → CR) : TW.ixN [("m" : Str), ("head" : Str), ("cycle" : Str), ("spare" : Str), ("k" : Str), ("both" : Str), ("at" : Str)] "m" = some 0 := rfl
theorem r_10_m (call : Str → List Sl → CR) (ρ : PEnv) : rdName (ctxOf G d_10 call) "m" ρ = rdSl 0 ρ := by kernel_rfl
theorem p_10_m (call : Str → List Sl → CR) (ρ : PEnv) : pkName (ctxOf G d_10 call) "m" ρ = pkSl 0 ρ := by kernel_rfl
theorem m_10_m (call : Str → List Sl → CR) (ρ : PEnv) : mutSl (ctxOf G d_10 call) "m" ρ = mtSl 0 ρ := by kernel_rfl
theorem s_10_m (call : Str → List Sl → CR) (s : Sl) (ρ : PEnv) : setSl (ctxOf G d_10 call) "m" s ρ = putSl 0 s ρ := by kernel_rfl
theorem c_10_m (call : Str → List Sl → CR) (d : PyData) (f : Bool) : ctName (ctxOf G d_10 call) "m" d f = ctB true d f := by kernel_rfl
theorem l_10_m (call : Str → List Sl → CR) (p : Pos) : lnOf (ctxOf G d_10 call) (.Name "m" p) = some (("m" : Str), 0) := by kernel_rfl
theorem rn_10_m (call : Str → List Sl → CR) (n : Nat) (p p2 : Pos) (ρ : PEnv) : stStep (evN (n + 1)) (ctxOf G d_10 call) (.Return (some (.Name "m" p)) p2) ρ = retN 0 ρ := by kernel_rfl
theorem ap_10_m (call : Str → List Sl → CR) (E : Ev) (a : Expr) (ρ : PEnv) : mutP (ctxOf G d_10 call) E "m" "append" [a] ρ = if starred a then .no else apS 0 ρ fun ρ => (kpE E a ρ) := ap_eq (fun _ => rfl)
theorem as_10_m (call : Str → List Sl → CR) (E : TW.Ctx → Ev) (i e : Expr) (p p2 p3 : Pos) (ρ : PEnv) : stStep E (ctxOf G d_10 call) (.Assign [.Subscript (.Name "m" p) i p2] e p3) ρ = if noSlice i && noComp e then (kpE (E (ctxOf G d_10 call)) e ρ).toS fun v ρ1 => sgS 0 ρ1 fun ρ1 => (kpE (E (ctxOf G d_10 call)) i ρ1).toS fun k ρ2 => suS 0 k v ρ2 else .no := asg_eq (fun _ => rfl)
theorem o_10_m (call : Str → List Sl → CR) : slotOf (ctxOf G d_10 call) "m" = some 0 := by kernel_rfl
theorem il_10_m (call : Str → List Sl → CR) : (ctxOf G d_10 call).sc.names.lookup ("m" : Str) = some NameKind.local := by kernel_rfl
theorem x_10_head (call : Str → List Sl → CR) : TW.ixN [("m" : Str), ("head" : Str), ("cycle" : Str), ("spare" : Str), ("k" : Str), ("both" : Str), ("at" : Str)] "head" = some 1 := rfl
theorem r_10_head (call : Str → List Sl → CR) (ρ : PEnv) : rdName (ctxOf G d_10 call) "head" ρ = rdSl 1 ρ := by kernel_rfl
theorem p_10_head (call : Str → List Sl → CR) (ρ : PEnv) : pkName (ctxOf G d_10 call) "head" ρ = pkSl 1 ρ := by kernel_rfl
theorem m_10_head (call : Str → List Sl → CR) (ρ : PEnv) : mutSl (ctxOf G d_10 call) "head" ρ = mtSl 1 ρ := by kernel_rfl
theorem s_10_head (call : Str → List Sl → CR) (s : Sl) (ρ : PEnv) : setSl (ctxOf G d_10 call) "head" s ρ = putSl 1 s ρ := by kernel_rfl
theorem c_10_head (call : Str → List Sl → CR) (d : PyData) (f : Bool) : ctName (ctxOf G d_10 call) "head" d f = ctB false d f := by kernel_rfl
theorem l_10_head (call : Str → List Sl → CR) (p : Pos) : lnOf (ctxOf G d_10 call) (.Name "head" p) = some (("head" : Str), 1) := by kernel_rfl
theorem rn_10_head (call : Str → List Sl → CR) (n : Nat) (p p2 : Pos) (ρ : PEnv) : stStep (evN (n + 1)) (ctxOf G d_10 call) (.Return (some (.Name "head" p)) p2) ρ = retN 1 ρ := by kernel_rfl
theorem o_10_head (call : Str → List Sl → CR) : slotOf (ctxOf G d_10 call) "head" = some 1 := by kernel_rfl
theorem il_10_head (call : Str → List Sl → CR) : (ctxOf G d_10 call).sc.names.lookup ("head" : Str) = some NameKind.local := by kernel_rfl
theorem x_10_cycle (call : Str → List Sl → CR) : TW.ixN [("m" : Str), ("head" : Str), ("cycle" : Str), ("spare" : Str), ("k" : Str), ("both" : Str), ("at" : Str)] "cycle" = some 2 := rfl
theorem r_10_cycle (call : Str → List Sl → CR) (ρ : PEnv) : rdName (ctxOf G d_10 call) "cycle" ρ = rdSl 2 ρ := by kernel_rfl
theorem p_10_cycle (call : Str → List Sl → CR) (ρ : PEnv) : pkName (ctxOf G d_10 call) "cycle" ρ = pkSl 2 ρ := by kernel_rfl
theorem m_10_cycle (call : Str → List Sl → CR) (ρ : PEnv) : mutSl (ctxOf G d_10 call) "cycle" ρ = mtSl 2 ρ := by kernel_rfl
theorem s_10_cycle (call : Str → List Sl → CR) (s : Sl) (ρ : PEnv) : setSl (ctxOf G d_10 call) "cycle" s ρ = putSl 2 s ρ := by kernel_rfl
theorem c_10_cycle (call : Str → List Sl → CR) (d : PyData) (f : Bool) : ctName (ctxOf G d_10 call) "cycle" d f = ctB false d f := by kernel_rfl
theorem l_10_cycle (call : Str → List Sl → CR) (p : Pos) : lnOf (ctxOf G d_10 call) (.Name "cycle" p) = some (("cycle" : Str), 2) := by kernel_rfl
theorem rn_10_cycle (call : Str → List Sl → CR) (n : Nat) (p p2 : Pos) (ρ : PEnv) : stStep (evN (n + 1)) (ctxOf G d_10 call) (.Return (some (.Name "cycle" p)) p2) ρ = retN 2 ρ := by kernel_rfl
theorem o_10_cycle (call : Str → List Sl → CR) : slotOf (ctxOf G d_10 call) "cycle" = some 2 := by kernel_rfl
theorem il_10_cycle (call : Str → List Sl → CR) : (ctxOf G d_10 call).sc.names.lookup ("cycle" : Str) = some NameKind.local := by kernel_rfl
theorem x_10_spare (call : Str → List Sl → CR) : TW.ixN [("m" : Str), ("head" : Str), ("cycle" : Str), ("spare" : Str), ("k" : Str), ("both" : Str), ("at" : Str)] "spare" = some 3 := rfl
theorem r_10_spare (call : Str → List Sl → CR) (ρ : PEnv) : rdName (ctxOf G d_10 call) "spare" ρ = rdSl 3 ρ := by kernel_rfl
theorem p_10_spare (call : Str → List Sl → CR) (ρ : PEnv) : pkName (ctxOf G d_10 call) "spare" ρ = pkSl 3 ρ := by kernel_rfl
theorem m_10_spare (call : Str → List Sl → CR) (ρ : PEnv) : mutSl (ctxOf G d_10 call) "spare" ρ = mtSl 3 ρ := by kernel_rfl
theorem s_10_spare (call : Str → List Sl → CR) (s : Sl) (ρ : PEnv) : setSl (ctxOf G d_10 call) "spare" s ρ = putSl 3 s ρ := by kernel_rfl
theorem c_10_spare (call : Str → List Sl → CR) (d : PyData) (f : Bool) : ctName (ctxOf G d_10 call) "spare" d f = ctB false d f := by kernel_rfl
theorem l_10_spare (call : Str → List Sl → CR) (p : Pos) : lnOf (ctxOf G d_10 call) (.Name "spare" p) = some (("spare" : Str), 3) := by kernel_rfl
theorem rn_10_spare (call : Str → List Sl → CR) (n : Nat) (p p2 : Pos) (ρ : PEnv) : stStep (evN (n + 1)) (ctxOf G d_10 call) (.Return (some (.Name "spare" p)) p2) ρ = retN 3 ρ := by kernel_rfl
theorem o_10_spare (call : Str → List Sl → CR) : slotOf (ctxOf G d_10 call) "spare" = some 3 := by kernel_rfl
theorem il_10_spare (call : Str → List Sl → CR) : (ctxOf G d_10 call).sc.names.lookup ("spare" : Str) = some NameKind.local := by kernel_rfl
theorem x_10_k (call : Str → List Sl → CR) : TW.ixN [("m" : Str), ("head" : Str), ("cycle" : Str), ("spare" : Str), ("k" : Str), ("both" : Str), ("at" : Str)] "k" = some 4 := rfl
theorem r_10_k (call : Str → List Sl → CR) (ρ : PEnv) : rdName (ctxOf G d_10 call) "k" ρ = rdSl 4 ρ := by kernel_rfl
theorem p_10_k (call : Str → List Sl → CR) (ρ : PEnv) : pkName (ctxOf G d_10 call) "k" ρ = pkSl 4 ρ := by kernel_rfl
theorem m_10_k (call : Str → List Sl → CR) (ρ : PEnv) : mutSl (ctxOf G d_10 call) "k" ρ = mtSl 4 ρ := by kernel_rfl
theorem s_10_k (call : Str → List Sl → CR) (s : Sl) (ρ : PEnv) : setSl (ctxOf G d_10 call) "k" s ρ = putSl 4 s ρ := by kernel_rfl
theorem c_10_k (call : Str → List Sl → CR) (d : PyData) (f : Bool) : ctName (ctxOf G d_10 call) "k" d f = ctB false d f := by kernel_rfl
theorem l_10_k (call : Str → List Sl → CR) (p : Pos) : lnOf (ctxOf G d_10 call) (.Name "k" p) = some (("k" : Str), 4) := by kernel_rfl
theorem rn_10_k (call : Str → List Sl → CR) (n : Nat) (p p2 : Pos) (ρ : PEnv) : stStep (evN (n + 1)) (ctxOf G d_10 call) (.Return (some (.Name "k" p)) p2) ρ = retN 4 ρ := by kernel_rfl
theorem o_10_k (call : Str → List Sl → CR) : slotOf (ctxOf G d_10 call) "k" = some 4 := by kernel_rfl
theorem il_10_k (call : Str → List Sl → CR) : (ctxOf G d_10 call).sc.names.lookup ("k" : Str) = some NameKind.local := by kernel_rfl
theorem x_10_both (call : Str → List Sl → CR) : TW.ixN [("m" : Str), ("head" : Str), ("cycle" : Str), ("spare" : Str), ("k" : Str), ("both" : Str), ("at" : Str)] "both" = some 5 := rfl
theorem r_10_both (call : Str → List Sl → CR) (ρ : PEnv) : rdName (ctxOf G d_10 call) "both" ρ = rdSl 5 ρ := by kernel_rfl
theorem p_10_both (call : Str → List Sl → CR) (ρ : PEnv) : pkName (ctxOf G d_10 call) "both" ρ = pkSl 5 ρ := by kernel_rfl
theorem m_10_both (call : Str → List Sl → CR) (ρ : PEnv) : mutSl (ctxOf G d_10 call) "both" ρ = mtSl 5 ρ := by kernel_rfl
theorem s_10_both (call : Str → List Sl → CR) (s : Sl) (ρ : PEnv) : setSl (ctxOf G d_10 call) "both" s ρ = putSl 5 s ρ := by kernel_rfl
theorem c_10_both (call : Str → List Sl → CR) (d : PyData) (f : Bool) : ctName (ctxOf G d_10 call) "both" d f = ctB false d f := by kernel_rfl
theorem l_10_both (call : Str → List Sl → CR) (p : Pos) : lnOf (ctxOf G d_10 call) (.Name "both" p) = some (("both" : Str), 5) := by kernel_rfl
theorem rn_10_both (call : Str → List Sl → CR) (n : Nat) (p p2 : Pos) (ρ : PEnv) : stStep (evN (n + 1)) (ctxOf G d_10 call) (.Return (some (.Name "both" p)) p2) ρ = retN 5 ρ := by kernel_rfl
theorem o_10_both (call : Str → List Sl → CR) : slotOf (ctxOf G d_10 call) "both" = some 5 := by kernel_rfl
theorem il_10_both (call : Str → List Sl → CR) : (ctxOf G d_10 call).sc.names.lookup ("both" : Str) = some NameKind.local := by kernel_rfl
theorem x_10_at (call : Str → List Sl → CR) : TW.ixN [("m" : Str), ("head" : Str), ("cycle" : Str), ("spare" : Str), ("k" : Str), ("both" : Str), ("at" : Str)] "at" = some 6 := rfl
theorem r_10_at (call : Str → List Sl → CR) (ρ : PEnv) : rdName (ctxOf G d_10 call) "at" ρ = rdSl 6 ρ := by kernel_rfl
theorem p_10_at (call : Str → List Sl → CR) (ρ : PEnv) : pkName (ctxOf G d_10 call) "at" ρ = pkSl 6 ρ := by kernel_rfl
theorem m_10_at (call : Str → List Sl → CR) (ρ : PEnv) : mutSl (ctxOf G d_10 call) "at" ρ = mtSl 6 ρ := by kernel_rfl
theorem s_10_at (call : Str → List Sl → CR) (s : Sl) (ρ : PEnv) : setSl (ctxOf G d_10 call) "at" s ρ = putSl 6 s ρ := by kernel_rfl
theorem c_10_at (call : Str → List Sl → CR) (d : PyData) (f : Bool) : ctName (ctxOf G d_10 call) "at" d f = ctB false d f := by kernel_rfl
theorem l_10_at (call : Str → List Sl → CR) (p : Pos) : lnOf (ctxOf G d_10 call) (.Name "at" p) = some (("at" : Str), 6) := by kernel_rfl
theorem rn_10_at (call : Str → List Sl → CR) (n : Nat) (p p2 : Pos) (ρ : PEnv) : stStep (evN (n + 1)) (ctxOf G d_10 call) (.Return (some (.Name "at" p)) p2) ρ = retN 6 ρ := by kernel_rfl
theorem o_10_at (call : Str → List Sl → CR) : slotOf (ctxOf G d_10 call) "at" = some 6 := by kernel_rfl
theorem il_10_at (call : Str → List Sl → CR) : (ctxOf G d_10 call).sc.names.lookup ("at" : Str) = some NameKind.local := by kernel_rfl
theorem cc_10 (call : Str → List Sl → CR) (f : Str) (as : List Sl) : (ctxOf G d_10 call).call f as = call f as := by kernel_rfl
theorem f_10__law_draw (call : Str → List Sl → CR) (E : TW.Ctx → Ev) (es : List Expr) (p r : Pos) (ρ : PEnv) : evStep E (ctxOf G d_10 call) (.Call (.Name "_law_draw" p) es [] r) ρ = callP (ctxOf G d_10 call) (E (ctxOf G d_10 call)) "_law_draw" [true, false] es ρ := by kernel_rfl
theorem fn_10__law_draw (call : Str → List Sl → CR) : (ctxOf G d_10 call).fns "_law_draw" = some [true, false] := by kernel_rfl
theorem i1_10__law_draw (call : Str → List Sl → CR) (E : Ev) (a : Expr) (p r : Pos) (ρ : PEnv) : iterP (ctxOf G d_10 call) E (.Call (.Name "_law_draw" p) [a] [] r) ρ = iterV E (.Call (.Name "_law_draw" p) [a] [] r) ρ := by kernel_rfl
theorem i2_10__law_draw (call : Str → List Sl → CR) (E : Ev) (a b : Expr) (p r : Pos) (ρ : PEnv) : iterP (ctxOf G d_10 call) E (.Call (.Name "_law_draw" p) [a, b] [] r) ρ = iterV E (.Call (.Name "_law_draw" p) [a, b] [] r) ρ := by kernel_rfl
theorem f_10__law_of (call : Str → List Sl → CR) (E : TW.Ctx → Ev) (es : List Expr) (p r : Pos) (ρ : PEnv) : evStep E (ctxOf G d_10 call) (.Call (.Name "_law_of" p) es [] r) ρ = callP (ctxOf G d_10 call) (E (ctxOf G d_10 call)) "_law_of" [true, false] es ρ := by kernel_rfl
theorem fn_10__law_of (call : Str → List Sl → CR) : (ctxOf G d_10 call).fns "_law_of" = some [true, false] := by kernel_rfl
theorem i1_10__law_of (call : Str → List Sl → CR) (E : Ev) (a : Expr) (p r : Pos) (ρ : PEnv) : iterP (ctxOf G d_10 call) E (.Call (.Name "_law_of" p) [a] [] r) ρ = iterV E (.Call (.Name "_law_of" p) [a] [] r) ρ := by kernel_rfl
theorem i2_10__law_of (call : Str → List Sl → CR) (E : Ev) (a b : Expr) (p r : Pos) (ρ : PEnv) : iterP (ctxOf G d_10 call) E (.Call (.Name "_law_of" p) [a, b] [] r) ρ = iterV E (.Call (.Name "_law_of" p) [a, b] [] r) ρ := by kernel_rfl
theorem fn_10_len (call : Str → List Sl → CR) : (ctxOf G d_10 call).fns "len" = none := by kernel_rfl
theorem bt_10_len (call : Str → List Sl → CR) : (ctxOf G d_10 call).blt "len" = true := by kernel_rfl
theorem i1_10_len (call : Str → List Sl → CR) (E : Ev) (a : Expr) (p r : Pos) (ρ : PEnv) : iterP (ctxOf G d_10 call) E (.Call (.Name "len" p) [a] [] r) ρ = iterV E (.Call (.Name "len" p) [a] [] r) ρ := by kernel_rfl
theorem i2_10_len (call : Str → List Sl → CR) (E : Ev) (a b : Expr) (p r : Pos) (ρ : PEnv) : iterP (ctxOf G d_10 call) E (.Call (.Name "len" p) [a, b] [] r) ρ = iterV E (.Call (.Name "len" p) [a, b] [] r) ρ := by kernel_rfl
theorem b1_10_len (call : Str → List Sl → CR) (E : TW.Ctx → Ev) (a : Expr) (p r : Pos) (ρ : PEnv) : evStep E (ctxOf G d_10 call) (.Call (.Name "len" p) [a] [] r) ρ = if (!starred a) = true then (pkE (ctxOf G d_10 call) (E (ctxOf G d_10 call)) a ρ).bind fun d ρ' => ofO (bi1P "len" d) ρ' else .no := by kernel_rfl
theorem fn_10_range (call : Str → List Sl → CR) : (ctxOf G d_10 call).fns "range" = none := by kernel_rfl
theorem bt_10_range (call : Str → List Sl → CR) : (ctxOf G d_10 call).blt "range" = true := by kernel_rfl
theorem g1_10 (call : Str → List Sl → CR) (E : Ev) (a : Expr) (p r : Pos) (ρ : PEnv) : iterP (ctxOf G d_10 call) E (.Call (.Name "range" p) [a] [] r) ρ = if (!starred a) = true then (E.ev a ρ).bind fun v ρ' => rng1 v.1 ρ' else iterV E (.Call (.Name "range" p) [a] [] r) ρ := by kernel_rfl
theorem g2_10 (call : Str → List Sl → CR) (E : Ev) (a b : Expr) (p r : Pos) (ρ : PEnv) : iterP (ctxOf G d_10 call) E (.Call (.Name "range" p) [a, b] [] r) ρ = if ((!starred a) && !starred b) = true then (E.ev a ρ).bind fun v ρ1 => (E.ev b ρ1).bind fun u ρ2 => rng2 v.1 u.1 ρ2 else iterV E (.Call (.Name "range" p) [a, b] [] r) ρ := by kernel_rfl
def cmp_10 (ci : Nat → List Sl → CR) : {f : PEnv → SR // ∀ ρ, blk (evN FU (ctxOf G d_10 (cl ci))) (L2.defBody (top 12)) ρ = f ρ} := by
  apply Subtype.mk
  intro ρ
  simp only [L2.defBody, top, PySem.Challenge.pw_twicedial_k14_rows_in_least_form, List.getD_cons_succ, List.getD_cons_zero]
  simp only [FU, k_nil, k_one, k_cons2, q_st, q_ev, q_ts, u_pass, u_break, u_cont, u_doc, u_exprC, u_retN, u_set, u_tupT, u_tupN, u_tupC, u_tupS, q_name, q_int, q_str, q_bool, q_none, q_bin, q_not, q_neg, q_bool2, q_cmp, q_cmp2, q_tup, q_lst, q_dct, q_slc, q_subC, q_subN, q_subB, q_subU, q_subF, q_subS, q_subI, q_subT, it_N, it_B, it_S, it_T, it_L, it_C, it_I, it_Z, it_Y, it_M, it_O, q_meth, ti_nil, ti_one, kp_eq, tg_name, tg_tup, t_not, t_bool, t_cmp, t_cmp2, t_name, t_call, b_ok, b_no, s_ok, s_no, o_some, o_none, n_some, n_none, pk2, pk2m, pkE, sl3, cmp1, cmp2, noSet, noSlice, noComp, noSuper, okAsg, starred, items, dispP, isMut, tupS, swP, swNs, swNm, parP, pi_nil, pi_cons, slz_nil, slz_cons, hdS_c, nlS_n, sn_nil, sn_cons, unpk_eq, un1_t, hd1_c, nl1_n, sq_un1, tg2_q, iterV, callP_eq, args1, a2_nil, a2_some, a2_none, a2n_t, a2n_f, lend_b, show_b, given_b, cbk_b, List.nil_append, List.append_nil, List.cons_append, rd_blk, pk_blk, ln_blk, set_blk, call_blk, slB, isStoB, isLoc, isGlo, isLc, str_beq, str_eq, decide_str, String.reduceBEq, String.reduceEq, String.reduceNe, ownOf, List.filterMap_cons, List.filterMap_nil, List.map_cons, List.map_nil, isBlt, L2.blkC, List.mem_cons, List.not_mem_nil, or_false, false_or, List.getElem?_cons_succ, List.getElem?_cons_zero, or_true, true_or, if_true, if_false, ite_true, ite_false, Bool.and_true, Bool.true_and, Bool.and_false, Bool.false_and, Bool.or_true, Bool.or_false, Bool.true_or, Bool.false_or, Bool.not_true, Bool.not_false, List.lookup_cons, List.lookup_nil, beq_self_eq_true, decide_true, decide_false, Option.map_some, Option.map_none, Option.bind_some, Option.bind_none, Bool.false_eq_true, ne_eq, not_true, not_false_iff, List.length_cons, List.length_nil, List.any_cons, List.any_nil, List.all_cons, List.all_nil, Bool.true_eq_false, Bool.not_eq_true', bne, List.headD_cons, List.tail_cons, eq_self, sq_nx, sq_rt, sq_bk, sq_ct, sq_no, sq_s, sq_nxO, sq_os, List.head?_cons, Option.getD_some, PySem.Expr.pos, Nat.reduceBEq, Nat.reduceBNe, Nat.reduceEqDiff, Nat.reduceAdd, List.eraseDups, List.eraseDupsBy, List.eraseDupsBy.loop, List.reverse_cons, List.reverse_nil, foldedForSure, constantsAlone, List.reverseAux, List.reverse, Nat.zero_add, cx_some, cx_1, cx_2, inBlk_call, ln_C, ln_B, ln_U, ln_F, ln_S, ln_I, ln_T, ln_L, ln_O, ln_P, ln_D, ln_Q, b_assoc, s_assoc, b_ofO, s_ofO, ob_b, ob_s, ob_some, os_some, pkB, rdB, stB, w_len, w_int, w_tuple, w_list, w_str, w_abs, w_sum, w_max, w_min, w_max2, w_min2, w_gcd, w_iInt, w_iBool, w_iTuple, w_iStr, w_iList, w_join, bv_one, bv_cons, bt_one, bt_cons, u_ret1, u_ret2, u_ret3, u_ret4, u_ret5, u_ret6, u_ret7, u_ret8, u_ret9, u_ret10, u_ret11, u_ret12, partE_s, partE_n, nk_cl, nk_ll, u_raise, Q_for, Q_while, Q_if, Q_ife, Q_lc, lcQ_true, ok__law_draw, ok__law_of, ok_at, ok_both, ok_cycle, ok_head, ok_k, ok_len, ok_m, ok_range, ok_spare, nn_10, kd_10, x_10_m, r_10_m, p_10_m, m_10_m, s_10_m, c_10_m, l_10_m, rn_10_m, ap_10_m, as_10_m, o_10_m, il_10_m, x_10_head, r_10_head, p_10_head, m_10_head, s_10_head, c_10_head, l_10_head, rn_10_head, o_10_head, il_10_head, x_10_cycle, r_10_cycle, p_10_cycle, m_10_cycle, s_10_cycle, c_10_cycle, l_10_cycle, rn_10_cycle, o_10_cycle, il_10_cycle, x_10_spare, r_10_spare, p_10_spare, m_10_spare, s_10_spare, c_10_spare, l_10_spare, rn_10_spare, o_10_spare, il_10_spare, x_10_k, r_10_k, p_10_k, m_10_k, s_10_k, c_10_k, l_10_k, rn_10_k, o_10_k, il_10_k, x_10_both, r_10_both, p_10_both, m_10_both, s_10_both, c_10_both, l_10_both, rn_10_both, o_10_both, il_10_both, x_10_at, r_10_at, p_10_at, m_10_at, s_10_at, c_10_at, l_10_at, rn_10_at, o_10_at, il_10_at, cc_10, f_10__law_draw, fn_10__law_draw, i1_10__law_draw, i2_10__law_draw, f_10__law_of, fn_10__law_of, i1_10__law_of, i2_10__law_of, fn_10_len, bt_10_len, i1_10_len, i2_10_len, b1_10_len, fn_10_range, bt_10_range, g1_10, g2_10, cl_4, cl_5]
  simp only [lit_9, lit_7, lit_8]
  exact rfl
theorem ok__law_at : okNm "_law_at" = true := rfl
theorem ok__law_begun : okNm "_law_begun" = true := rfl
theorem ok__law_is_least : okNm "_law_is_least" = true := rfl
theorem ok__law_least_row : okNm "_law_least_row" = true := rfl
theorem ok__law_marks : okNm "_law_marks" = true := rfl
theorem ok__law_otherwise : okNm "_law_otherwise" = true := rfl
theorem ok_first_mark : okNm "first_mark" = true := rfl
theorem ok_least_row : okNm "least_row" = true := rfl
theorem ok_left : okNm "left" = true := rfl
theorem ok_line : okNm "line" = true := rfl
theorem ok_max : okNm "max" = true := rfl
theorem ok_min : okNm "min" = true := rfl
theorem ok_other : okNm "other" = true := rfl
theorem ok_rest : okNm "rest" = true := rfl
theorem ok_same : okNm "same" = true := rfl
theorem ok_shifted : okNm "shifted" = true := rfl
theorem ok_told : okNm "told" = true := rfl
theorem ok_turn : okNm "turn" = true := rfl
theorem nn_11 (call : Str → List Sl → CR) : (ctxOf G d_11 call).N = [("script" : Str), ("turn" : Str), ("m" : Str), ("cycle" : Str), ("told" : Str), ("other" : Str), ("same" : Str), ("k" : Str), ("head" : Str), ("left" : Str), ("line" : Str), ("rest" : Str)] := by kernel_rfl
theorem kd_11 (call : Str → List Sl → CR) : isFnK (ctxOf G d_11 call).sc = true := by kernel_rfl
theorem x_11_script (call : Str → List Sl → CR) : TW.ixN [("script" : Str), ("turn" : Str), ("m" : Str), ("cycle" : Str), ("told" : Str), ("other" : Str), ("same" : Str), ("k" : Str), ("head" : Str), ("left" : Str), ("line" : Str), ("rest" : Str)] "script" = some 0 := rfl
theorem r_11_script (call : Str → List Sl → CR) (ρ : PEnv) : rdName (ctxOf G d_11 call) "script" ρ = rdSl 0 ρ := by kernel_rfl
theorem p_11_script (call : Str → List Sl → CR) (ρ : PEnv) : pkName (ctxOf G d_11 call) "script" ρ = pkSl 0 ρ := by kernel_rfl
theorem m_11_script (call : Str → List Sl → CR) (ρ : PEnv) : mutSl (ctxOf G d_11 call) "script" ρ = mtSl 0 ρ := by kernel_rfl
theorem s_11_script (call : Str → List Sl → CR) (s : Sl) (ρ : PEnv) : setSl (ctxOf G d_11 call) "script" s ρ = putSl 0 s ρ := by kernel_rfl
theorem c_11_script (call : Str → List Sl → CR) (d : PyData) (f : Bool) : ctName (ctxOf G d_11 call) "script" d f = ctB false d f := by kernel_rfl
theorem l_11_script (call : Str → List Sl → CR) (p : Pos) : lnOf (ctxOf G d_11 call) (.Name "script" p) = some (("script" : Str), 0) := by kernel_rfl
theorem rn_11_script (call : Str → List Sl → CR) (n : Nat) (p p2 : Pos) (ρ : PEnv) : stStep (evN (n + 1)) (ctxOf G d_11 call) (.Return (some (.Name "script" p)) p2) ρ = retN 0 ρ := by kernel_rfl
theorem o_11_script (call : Str → List Sl → CR) : slotOf (ctxOf G d_11 call) "script" = some 0 := by kernel_rfl
theorem il_11_script (call : Str → List Sl → CR) : (ctxOf G d_11 call).sc.names.lookup ("script" : Str) = some NameKind.local := by kernel_rfl
theorem x_11_turn (call : Str → List Sl → CR) : TW.ixN [("script" : Str), ("turn" : Str), ("m" : Str), ("cycle" : Str), ("told" : Str), ("other" : Str), ("same" : Str), ("k" : Str), ("head" : Str), ("left" : Str), ("line" : Str), ("rest" : Str)] "turn" = some 1 := rfl
theorem r_11_turn (call : Str → List Sl → CR) (ρ : PEnv) : rdName (ctxOf G d_11 call) "turn" ρ = rdSl 1 ρ := by kernel_rfl
theorem p_11_turn (call : Str → List Sl → CR) (ρ : PEnv) : pkName (ctxOf G d_11 call) "turn" ρ = pkSl 1 ρ := by kernel_rfl
theorem m_11_turn (call : Str → List Sl → CR) (ρ : PEnv) : mutSl (ctxOf G d_11 call) "turn" ρ = mtSl 1 ρ := by kernel_rfl
theorem s_11_turn (call : Str → List Sl → CR) (s : Sl) (ρ : PEnv) : setSl (ctxOf G d_11 call) "turn" s ρ = putSl 1 s ρ := by kernel_rfl
theorem c_11_turn (call : Str → List Sl → CR) (d : PyData) (f : Bool) : ctName (ctxOf G d_11 call) "turn" d f = ctB false d f := by kernel_rfl
theorem l_11_turn (call : Str → List Sl → CR) (p : Pos) : lnOf (ctxOf G d_11 call) (.Name "turn" p) = some (("turn" : Str), 1) := by kernel_rfl
theorem rn_11_turn (call : Str → List Sl → CR) (n : Nat) (p p2 : Pos) (ρ : PEnv) : stStep (evN (n + 1)) (ctxOf G d_11 call) (.Return (some (.Name "turn" p)) p2) ρ = retN 1 ρ := by kernel_rfl
theorem o_11_turn (call : Str → List Sl → CR) : slotOf (ctxOf G d_11 call) "turn" = some 1 := by kernel_rfl
theorem il_11_turn (call : Str → List Sl → CR) : (ctxOf G d_11 call).sc.names.lookup ("turn" : Str) = some NameKind.local := by kernel_rfl
theorem x_11_m (call : Str → List Sl → CR) : TW.ixN [("script" : Str), ("turn" : Str), ("m" : Str), ("cycle" : Str), ("told" : Str), ("other" : Str), ("same" : Str), ("k" : Str), ("head" : Str), ("left" : Str), ("line" : Str), ("rest" : Str)] "m" = some 2 := rfl
theorem r_11_m (call : Str → List Sl → CR) (ρ : PEnv) : rdName (ctxOf G d_11 call) "m" ρ = rdSl 2 ρ := by kernel_rfl
theorem p_11_m (call : Str → List Sl → CR) (ρ : PEnv) : pkName (ctxOf G d_11 call) "m" ρ = pkSl 2 ρ := by kernel_rfl
theorem m_11_m (call : Str → List Sl → CR) (ρ : PEnv) : mutSl (ctxOf G d_11 call) "m" ρ = mtSl 2 ρ := by kernel_rfl
theorem s_11_m (call : Str → List Sl → CR) (s : Sl) (ρ : PEnv) : setSl (ctxOf G d_11 call) "m" s ρ = putSl 2 s ρ := by kernel_rfl
theorem c_11_m (call : Str → List Sl → CR) (d : PyData) (f : Bool) : ctName (ctxOf G d_11 call) "m" d f = ctB true d f := by kernel_rfl
theorem l_11_m (call : Str → List Sl → CR) (p : Pos) : lnOf (ctxOf G d_11 call) (.Name "m" p) = some (("m" : Str), 2) := by kernel_rfl
theorem rn_11_m (call : Str → List Sl → CR) (n : Nat) (p p2 : Pos) (ρ : PEnv) : stStep (evN (n + 1)) (ctxOf G d_11 call) (.Return (some (.Name "m" p)) p2) ρ = retN 2 ρ := by kernel_rfl
theorem ap_11_m (call : Str → List Sl → CR) (E : Ev) (a : Expr) (ρ : PEnv) : mutP (ctxOf G d_11 call) E "m" "append" [a] ρ = if starred a then .no else apS 2 ρ fun ρ => (kpE E a ρ) := ap_eq (fun _ => rfl)
theorem as_11_m (call : Str → List Sl → CR) (E : TW.Ctx → Ev) (i e : Expr) (p p2 p3 : Pos) (ρ : PEnv) : stStep E (ctxOf G d_11 call) (.Assign [.Subscript (.Name "m" p) i p2] e p3) ρ = if noSlice i && noComp e then (kpE (E (ctxOf G d_11 call)) e ρ).toS fun v ρ1 => sgS 2 ρ1 fun ρ1 => (kpE (E (ctxOf G d_11 call)) i ρ1).toS fun k ρ2 => suS 2 k v ρ2 else .no := asg_eq (fun _ => rfl)
theorem o_11_m (call : Str → List Sl → CR) : slotOf (ctxOf G d_11 call) "m" = some 2 := by kernel_rfl
theorem il_11_m (call : Str → List Sl → CR) : (ctxOf G d_11 call).sc.names.lookup ("m" : Str) = some NameKind.local := by kernel_rfl
theorem x_11_cycle (call : Str → List Sl → CR) : TW.ixN [("script" : Str), ("turn" : Str), ("m" : Str), ("cycle" : Str), ("told" : Str), ("other" : Str), ("same" : Str), ("k" : Str), ("head" : Str), ("left" : Str), ("line" : Str), ("rest" : Str)] "cycle" = some 3 := rfl
theorem r_11_cycle (call : Str → List Sl → CR) (ρ : PEnv) : rdName (ctxOf G d_11 call) "cycle" ρ = rdSl 3 ρ := by kernel_rfl
theorem p_11_cycle (call : Str → List Sl → CR) (ρ : PEnv) : pkName (ctxOf G d_11 call) "cycle" ρ = pkSl 3 ρ := by kernel_rfl
theorem m_11_cycle (call : Str → List Sl → CR) (ρ : PEnv) : mutSl (ctxOf G d_11 call) "cycle" ρ = mtSl 3 ρ := by kernel_rfl
theorem s_11_cycle (call : Str → List Sl → CR) (s : Sl) (ρ : PEnv) : setSl (ctxOf G d_11 call) "cycle" s ρ = putSl 3 s ρ := by kernel_rfl
theorem c_11_cycle (call : Str → List Sl → CR) (d : PyData) (f : Bool) : ctName (ctxOf G d_11 call) "cycle" d f = ctB false d f := by kernel_rfl
theorem l_11_cycle (call : Str → List Sl → CR) (p : Pos) : lnOf (ctxOf G d_11 call) (.Name "cycle" p) = some (("cycle" : Str), 3) := by kernel_rfl
theorem rn_11_cycle (call : Str → List Sl → CR) (n : Nat) (p p2 : Pos) (ρ : PEnv) : stStep (evN (n + 1)) (ctxOf G d_11 call) (.Return (some (.Name "cycle" p)) p2) ρ = retN 3 ρ := by kernel_rfl
theorem o_11_cycle (call : Str → List Sl → CR) : slotOf (ctxOf G d_11 call) "cycle" = some 3 := by kernel_rfl
theorem il_11_cycle (call : Str → List Sl → CR) : (ctxOf G d_11 call).sc.names.lookup ("cycle" : Str) = some NameKind.cell := by kernel_rfl
theorem x_11_told (call : Str → List Sl → CR) : TW.ixN [("script" : Str), ("turn" : Str), ("m" : Str), ("cycle" : Str), ("told" : Str), ("other" : Str), ("same" : Str), ("k" : Str), ("head" : Str), ("left" : Str), ("line" : Str), ("rest" : Str)] "told" = some 4 := rfl
theorem r_11_told (call : Str → List Sl → CR) (ρ : PEnv) : rdName (ctxOf G d_11 call) "told" ρ = rdSl 4 ρ := by kernel_rfl
theorem p_11_told (call : Str → List Sl → CR) (ρ : PEnv) : pkName (ctxOf G d_11 call) "told" ρ = pkSl 4 ρ := by kernel_rfl
theorem m_11_told (call : Str → List Sl → CR) (ρ : PEnv) : mutSl (ctxOf G d_11 call) "told" ρ = mtSl 4 ρ := by kernel_rfl
theorem s_11_told (call : Str → List Sl → CR) (s : Sl) (ρ : PEnv) : setSl (ctxOf G d_11 call) "told" s ρ = putSl 4 s ρ := by kernel_rfl
theorem c_11_told (call : Str → List Sl → CR) (d : PyData) (f : Bool) : ctName (ctxOf G d_11 call) "told" d f = ctB false d f := by kernel_rfl
theorem l_11_told (call : Str → List Sl → CR) (p : Pos) : lnOf (ctxOf G d_11 call) (.Name "told" p) = some (("told" : Str), 4) := by kernel_rfl
theorem rn_11_told (call : Str → List Sl → CR) (n : Nat) (p p2 : Pos) (ρ : PEnv) : stStep (evN (n + 1)) (ctxOf G d_11 call) (.Return (some (.Name "told" p)) p2) ρ = retN 4 ρ := by kernel_rfl
theorem o_11_told (call : Str → List Sl → CR) : slotOf (ctxOf G d_11 call) "told" = some 4 := by kernel_rfl
theorem il_11_told (call : Str → List Sl → CR) : (ctxOf G d_11 call).sc.names.lookup ("told" : Str) = some NameKind.cell := by kernel_rfl
theorem x_11_other (call : Str → List Sl → CR) : TW.ixN [("script" : Str), ("turn" : Str), ("m" : Str), ("cycle" : Str), ("told" : Str), ("other" : Str), ("same" : Str), ("k" : Str), ("head" : Str), ("left" : Str), ("line" : Str), ("rest" : Str)] "other" = some 5 := rfl
theorem r_11_other (call : Str → List Sl → CR) (ρ : PEnv) : rdName (ctxOf G d_11 call) "other" ρ = rdSl 5 ρ := by kernel_rfl
theorem p_11_other (call : Str → List Sl → CR) (ρ : PEnv) : pkName (ctxOf G d_11 call) "other" ρ = pkSl 5 ρ := by kernel_rfl
theorem m_11_other (call : Str → List Sl → CR) (ρ : PEnv) : mutSl (ctxOf G d_11 call) "other" ρ = mtSl 5 ρ := by kernel_rfl
theorem s_11_other (call : Str → List Sl → CR) (s : Sl) (ρ : PEnv) : setSl (ctxOf G d_11 call) "other" s ρ = putSl 5 s ρ := by kernel_rfl
theorem c_11_other (call : Str → List Sl → CR) (d : PyData) (f : Bool) : ctName (ctxOf G d_11 call) "other" d f = ctB false d f := by kernel_rfl
theorem l_11_other (call : Str → List Sl → CR) (p : Pos) : lnOf (ctxOf G d_11 call) (.Name "other" p) = some (("other" : Str), 5) := by kernel_rfl
theorem rn_11_other (call : Str → List Sl → CR) (n : Nat) (p p2 : Pos) (ρ : PEnv) : stStep (evN (n + 1)) (ctxOf G d_11 call) (.Return (some (.Name "other" p)) p2) ρ = retN 5 ρ := by kernel_rfl
theorem o_11_other (call : Str → List Sl → CR) : slotOf (ctxOf G d_11 call) "other" = some 5 := by kernel_rfl
theorem il_11_other (call : Str → List Sl → CR) : (ctxOf G d_11 call).sc.names.lookup ("other" : Str) = some NameKind.cell := by kernel_rfl
theorem x_11_same (call : Str → List Sl → CR) : TW.ixN [("script" : Str), ("turn" : Str), ("m" : Str), ("cycle" : Str), ("told" : Str), ("other" : Str), ("same" : Str), ("k" : Str), ("head" : Str), ("left" : Str), ("line" : Str), ("rest" : Str)] "same" = some 6 := rfl
theorem r_11_same (call : Str → List Sl → CR) (ρ : PEnv) : rdName (ctxOf G d_11 call) "same" ρ = rdSl 6 ρ := by kernel_rfl
theorem p_11_same (call : Str → List Sl → CR) (ρ : PEnv) : pkName (ctxOf G d_11 call) "same" ρ = pkSl 6 ρ := by kernel_rfl
theorem m_11_same (call : Str → List Sl → CR) (ρ : PEnv) : mutSl (ctxOf G d_11 call) "same" ρ = mtSl 6 ρ := by kernel_rfl
theorem s_11_same (call : Str → List Sl → CR) (s : Sl) (ρ : PEnv) : setSl (ctxOf G d_11 call) "same" s ρ = putSl 6 s ρ := by kernel_rfl
theorem c_11_same (call : Str → List Sl → CR) (d : PyData) (f : Bool) : ctName (ctxOf G d_11 call) "same" d f = ctB false d f := by kernel_rfl
theorem l_11_same (call : Str → List Sl → CR) (p : Pos) : lnOf (ctxOf G d_11 call) (.Name "same" p) = some (("same" : Str), 6) := by kernel_rfl
theorem rn_11_same (call : Str → List Sl → CR) (n : Nat) (p p2 : Pos) (ρ : PEnv) : stStep (evN (n + 1)) (ctxOf G d_11 call) (.Return (some (.Name "same" p)) p2) ρ = retN 6 ρ := by kernel_rfl
theorem o_11_same (call : Str → List Sl → CR) : slotOf (ctxOf G d_11 call) "same" = some 6 := by kernel_rfl
theorem il_11_same (call : Str → List Sl → CR) : (ctxOf G d_11 call).sc.names.lookup ("same" : Str) = some NameKind.local := by kernel_rfl
theorem x_11_k (call : Str → List Sl → CR) : TW.ixN [("script" : Str), ("turn" : Str), ("m" : Str), ("cycle" : Str), ("told" : Str), ("other" : Str), ("same" : Str), ("k" : Str), ("head" : Str), ("left" : Str), ("line" : Str), ("rest" : Str)] "k" = some 7 := rfl
theorem r_11_k (call : Str → List Sl → CR) (ρ : PEnv) : rdName (ctxOf G d_11 call) "k" ρ = rdSl 7 ρ := by kernel_rfl
theorem p_11_k (call : Str → List Sl → CR) (ρ : PEnv) : pkName (ctxOf G d_11 call) "k" ρ = pkSl 7 ρ := by kernel_rfl
theorem m_11_k (call : Str → List Sl → CR) (ρ : PEnv) : mutSl (ctxOf G d_11 call) "k" ρ = mtSl 7 ρ := by kernel_rfl
theorem s_11_k (call : Str → List Sl → CR) (s : Sl) (ρ : PEnv) : setSl (ctxOf G d_11 call) "k" s ρ = putSl 7 s ρ := by kernel_rfl
theorem c_11_k (call : Str → List Sl → CR) (d : PyData) (f : Bool) : ctName (ctxOf G d_11 call) "k" d f = ctB false d f := by kernel_rfl
theorem l_11_k (call : Str → List Sl → CR) (p : Pos) : lnOf (ctxOf G d_11 call) (.Name "k" p) = some (("k" : Str), 7) := by kernel_rfl
theorem rn_11_k (call : Str → List Sl → CR) (n : Nat) (p p2 : Pos) (ρ : PEnv) : stStep (evN (n + 1)) (ctxOf G d_11 call) (.Return (some (.Name "k" p)) p2) ρ = retN 7 ρ := by kernel_rfl
theorem o_11_k (call : Str → List Sl → CR) : slotOf (ctxOf G d_11 call) "k" = some 7 := by kernel_rfl
theorem il_11_k (call : Str → List Sl → CR) : (ctxOf G d_11 call).sc.names.lookup ("k" : Str) = some NameKind.local := by kernel_rfl
theorem x_11_head (call : Str → List Sl → CR) : TW.ixN [("script" : Str), ("turn" : Str), ("m" : Str), ("cycle" : Str), ("told" : Str), ("other" : Str), ("same" : Str), ("k" : Str), ("head" : Str), ("left" : Str), ("line" : Str), ("rest" : Str)] "head" = some 8 := rfl
theorem r_11_head (call : Str → List Sl → CR) (ρ : PEnv) : rdName (ctxOf G d_11 call) "head" ρ = rdSl 8 ρ := by kernel_rfl
theorem p_11_head (call : Str → List Sl → CR) (ρ : PEnv) : pkName (ctxOf G d_11 call) "head" ρ = pkSl 8 ρ := by kernel_rfl
theorem m_11_head (call : Str → List Sl → CR) (ρ : PEnv) : mutSl (ctxOf G d_11 call) "head" ρ = mtSl 8 ρ := by kernel_rfl
theorem s_11_head (call : Str → List Sl → CR) (s : Sl) (ρ : PEnv) : setSl (ctxOf G d_11 call) "head" s ρ = putSl 8 s ρ := by kernel_rfl
theorem c_11_head (call : Str → List Sl → CR) (d : PyData) (f : Bool) : ctName (ctxOf G d_11 call) "head" d f = ctB false d f := by kernel_rfl
theorem l_11_head (call : Str → List Sl → CR) (p : Pos) : lnOf (ctxOf G d_11 call) (.Name "head" p) = some (("head" : Str), 8) := by kernel_rfl
theorem rn_11_head (call : Str → List Sl → CR) (n : Nat) (p p2 : Pos) (ρ : PEnv) : stStep (evN (n + 1)) (ctxOf G d_11 call) (.Return (some (.Name "head" p)) p2) ρ = retN 8 ρ := by kernel_rfl
theorem o_11_head (call : Str → List Sl → CR) : slotOf (ctxOf G d_11 call) "head" = some 8 := by kernel_rfl
theorem il_11_head (call : Str → List Sl → CR) : (ctxOf G d_11 call).sc.names.lookup ("head" : Str) = some NameKind.cell := by kernel_rfl
theorem x_11_left (call : Str → List Sl → CR) : TW.ixN [("script" : Str), ("turn" : Str), ("m" : Str), ("cycle" : Str), ("told" : Str), ("other" : Str), ("same" : Str), ("k" : Str), ("head" : Str), ("left" : Str), ("line" : Str), ("rest" : Str)] "left" = some 9 := rfl
theorem r_11_left (call : Str → List Sl → CR) (ρ : PEnv) : rdName (ctxOf G d_11 call) "left" ρ = rdSl 9 ρ := by kernel_rfl
theorem p_11_left (call : Str → List Sl → CR) (ρ : PEnv) : pkName (ctxOf G d_11 call) "left" ρ = pkSl 9 ρ := by kernel_rfl
theorem m_11_left (call : Str → List Sl → CR) (ρ : PEnv) : mutSl (ctxOf G d_11 call) "left" ρ = mtSl 9 ρ := by kernel_rfl
theorem s_11_left (call : Str → List Sl → CR) (s : Sl) (ρ : PEnv) : setSl (ctxOf G d_11 call) "left" s ρ = putSl 9 s ρ := by kernel_rfl
theorem c_11_left (call : Str → List Sl → CR) (d : PyData) (f : Bool) : ctName (ctxOf G d_11 call) "left" d f = ctB false d f := by kernel_rfl
theorem l_11_left (call : Str → List Sl → CR) (p : Pos) : lnOf (ctxOf G d_11 call) (.Name "left" p) = some (("left" : Str), 9) := by kernel_rfl
theorem rn_11_left (call : Str → List Sl → CR) (n : Nat) (p p2 : Pos) (ρ : PEnv) : stStep (evN (n + 1)) (ctxOf G d_11 call) (.Return (some (.Name "left" p)) p2) ρ = retN 9 ρ := by kernel_rfl
theorem o_11_left (call : Str → List Sl → CR) : slotOf (ctxOf G d_11 call) "left" = some 9 := by kernel_rfl
theorem il_11_left (call : Str → List Sl → CR) : (ctxOf G d_11 call).sc.names.lookup ("left" : Str) = some NameKind.local := by kernel_rfl
theorem x_11_line (call : Str → List Sl → CR) : TW.ixN [("script" : Str), ("turn" : Str), ("m" : Str), ("cycle" : Str), ("told" : Str), ("other" : Str), ("same" : Str), ("k" : Str), ("head" : Str), ("left" : Str), ("line" : Str), ("rest" : Str)] "line" = some 10 := rfl
theorem r_11_line (call : Str → List Sl → CR) (ρ : PEnv) : rdName (ctxOf G d_11 call) "line" ρ = rdSl 10 ρ := by kernel_rfl
theorem p_11_line (call : Str → List Sl → CR) (ρ : PEnv) : pkName (ctxOf G d_11 call) "line" ρ = pkSl 10 ρ := by kernel_rfl
theorem m_11_line (call : Str → List Sl → CR) (ρ : PEnv) : mutSl (ctxOf G d_11 call) "line" ρ = mtSl 10 ρ := by kernel_rfl
theorem s_11_line (call : Str → List Sl → CR) (s : Sl) (ρ : PEnv) : setSl (ctxOf G d_11 call) "line" s ρ = putSl 10 s ρ := by kernel_rfl
theorem c_11_line (call : Str → List Sl → CR) (d : PyData) (f : Bool) : ctName (ctxOf G d_11 call) "line" d f = ctB false d f := by kernel_rfl
theorem l_11_line (call : Str → List Sl → CR) (p : Pos) : lnOf (ctxOf G d_11 call) (.Name "line" p) = some (("line" : Str), 10) := by kernel_rfl
theorem rn_11_line (call : Str → List Sl → CR) (n : Nat) (p p2 : Pos) (ρ : PEnv) : stStep (evN (n + 1)) (ctxOf G d_11 call) (.Return (some (.Name "line" p)) p2) ρ = retN 10 ρ := by kernel_rfl
theorem o_11_line (call : Str → List Sl → CR) : slotOf (ctxOf G d_11 call) "line" = some 10 := by kernel_rfl
theorem il_11_line (call : Str → List Sl → CR) : (ctxOf G d_11 call).sc.names.lookup ("line" : Str) = some NameKind.local := by kernel_rfl
theorem x_11_rest (call : Str → List Sl → CR) : TW.ixN [("script" : Str), ("turn" : Str), ("m" : Str), ("cycle" : Str), ("told" : Str), ("other" : Str), ("same" : Str), ("k" : Str), ("head" : Str), ("left" : Str), ("line" : Str), ("rest" : Str)] "rest" = some 11 := rfl
theorem r_11_rest (call : Str → List Sl → CR) (ρ : PEnv) : rdName (ctxOf G d_11 call) "rest" ρ = rdSl 11 ρ := by kernel_rfl
theorem p_11_rest (call : Str → List Sl → CR) (ρ : PEnv) : pkName (ctxOf G d_11 call) "rest" ρ = pkSl 11 ρ := by kernel_rfl
theorem m_11_rest (call : Str → List Sl → CR) (ρ : PEnv) : mutSl (ctxOf G d_11 call) "rest" ρ = mtSl 11 ρ := by kernel_rfl
theorem s_11_rest (call : Str → List Sl → CR) (s : Sl) (ρ : PEnv) : setSl (ctxOf G d_11 call) "rest" s ρ = putSl 11 s ρ := by kernel_rfl
theorem c_11_rest (call : Str → List Sl → CR) (d : PyData) (f : Bool) : ctName (ctxOf G d_11 call) "rest" d f = ctB false d f := by kernel_rfl
theorem l_11_rest (call : Str → List Sl → CR) (p : Pos) : lnOf (ctxOf G d_11 call) (.Name "rest" p) = some (("rest" : Str), 11) := by kernel_rfl
theorem rn_11_rest (call : Str → List Sl → CR) (n : Nat) (p p2 : Pos) (ρ : PEnv) : stStep (evN (n + 1)) (ctxOf G d_11 call) (.Return (some (.Name "rest" p)) p2) ρ = retN 11 ρ := by kernel_rfl
theorem o_11_rest (call : Str → List Sl → CR) : slotOf (ctxOf G d_11 call) "rest" = some 11 := by kernel_rfl
theorem il_11_rest (call : Str → List Sl → CR) : (ctxOf G d_11 call).sc.names.lookup ("rest" : Str) = some NameKind.local := by kernel_rfl
theorem x_11_dot0 (call : Str → List Sl → CR) : TW.ixN [("script" : Str), ("turn" : Str), ("m" : Str), ("cycle" : Str), ("told" : Str), ("other" : Str), ("same" : Str), ("k" : Str), ("head" : Str), ("left" : Str), ("line" : Str), ("rest" : Str)] ".0" = none := rfl
theorem cc_11 (call : Str → List Sl → CR) (f : Str) (as : List Sl) : (ctxOf G d_11 call).call f as = call f as := by kernel_rfl
theorem fn_11__law_at (call : Str → List Sl → CR) : (ctxOf G d_11 call).fns "_law_at" = some [false, false] := by kernel_rfl
theorem f_11__law_begun (call : Str → List Sl → CR) (E : TW.Ctx → Ev) (es : List Expr) (p r : Pos) (ρ : PEnv) : evStep E (ctxOf G d_11 call) (.Call (.Name "_law_begun" p) es [] r) ρ = callP (ctxOf G d_11 call) (E (ctxOf G d_11 call)) "_law_begun" [false, false] es ρ := by kernel_rfl
theorem fn_11__law_begun (call : Str → List Sl → CR) : (ctxOf G d_11 call).fns "_law_begun" = some [false, false] := by kernel_rfl
theorem i1_11__law_begun (call : Str → List Sl → CR) (E : Ev) (a : Expr) (p r : Pos) (ρ : PEnv) : iterP (ctxOf G d_11 call) E (.Call (.Name "_law_begun" p) [a] [] r) ρ = iterV E (.Call (.Name "_law_begun" p) [a] [] r) ρ := by kernel_rfl
theorem i2_11__law_begun (call : Str → List Sl → CR) (E : Ev) (a b : Expr) (p r : Pos) (ρ : PEnv) : iterP (ctxOf G d_11 call) E (.Call (.Name "_law_begun" p) [a, b] [] r) ρ = iterV E (.Call (.Name "_law_begun" p) [a, b] [] r) ρ := by kernel_rfl
theorem f_11__law_draw (call : Str → List Sl → CR) (E : TW.Ctx → Ev) (es : List Expr) (p r : Pos) (ρ : PEnv) : evStep E (ctxOf G d_11 call) (.Call (.Name "_law_draw" p) es [] r) ρ = callP (ctxOf G d_11 call) (E (ctxOf G d_11 call)) "_law_draw" [true, false] es ρ := by kernel_rfl
theorem fn_11__law_draw (call : Str → List Sl → CR) : (ctxOf G d_11 call).fns "_law_draw" = some [true, false] := by kernel_rfl
theorem i1_11__law_draw (call : Str → List Sl → CR) (E : Ev) (a : Expr) (p r : Pos) (ρ : PEnv) : iterP (ctxOf G d_11 call) E (.Call (.Name "_law_draw" p) [a] [] r) ρ = iterV E (.Call (.Name "_law_draw" p) [a] [] r) ρ := by kernel_rfl
theorem i2_11__law_draw (call : Str → List Sl → CR) (E : Ev) (a b : Expr) (p r : Pos) (ρ : PEnv) : iterP (ctxOf G d_11 call) E (.Call (.Name "_law_draw" p) [a, b] [] r) ρ = iterV E (.Call (.Name "_law_draw" p) [a, b] [] r) ρ := by kernel_rfl
theorem f_11__law_is_least (call : Str → List Sl → CR) (E : TW.Ctx → Ev) (es : List Expr) (p r : Pos) (ρ : PEnv) : evStep E (ctxOf G d_11 call) (.Call (.Name "_law_is_least" p) es [] r) ρ = callP (ctxOf G d_11 call) (E (ctxOf G d_11 call)) "_law_is_least" [false] es ρ := by kernel_rfl
theorem fn_11__law_is_least (call : Str → List Sl → CR) : (ctxOf G d_11 call).fns "_law_is_least" = some [false] := by kernel_rfl
theorem i1_11__law_is_least (call : Str → List Sl → CR) (E : Ev) (a : Expr) (p r : Pos) (ρ : PEnv) : iterP (ctxOf G d_11 call) E (.Call (.Name "_law_is_least" p) [a] [] r) ρ = iterV E (.Call (.Name "_law_is_least" p) [a] [] r) ρ := by kernel_rfl
theorem i2_11__law_is_least (call : Str → List Sl → CR) (E : Ev) (a b : Expr) (p r : Pos) (ρ : PEnv) : iterP (ctxOf G d_11 call) E (.Call (.Name "_law_is_least" p) [a, b] [] r) ρ = iterV E (.Call (.Name "_law_is_least" p) [a, b] [] r) ρ := by kernel_rfl
theorem f_11__law_least_row (call : Str → List Sl → CR) (E : TW.Ctx → Ev) (es : List Expr) (p r : Pos) (ρ : PEnv) : evStep E (ctxOf G d_11 call) (.Call (.Name "_law_least_row" p) es [] r) ρ = callP (ctxOf G d_11 call) (E (ctxOf G d_11 call)) "_law_least_row" [false, false] es ρ := by kernel_rfl
theorem fn_11__law_least_row (call : Str → List Sl → CR) : (ctxOf G d_11 call).fns "_law_least_row" = some [false, false] := by kernel_rfl
theorem i1_11__law_least_row (call : Str → List Sl → CR) (E : Ev) (a : Expr) (p r : Pos) (ρ : PEnv) : iterP (ctxOf G d_11 call) E (.Call (.Name "_law_least_row" p) [a] [] r) ρ = iterV E (.Call (.Name "_law_least_row" p) [a] [] r) ρ := by kernel_rfl
theorem i2_11__law_least_row (call : Str → List Sl → CR) (E : Ev) (a b : Expr) (p r : Pos) (ρ : PEnv) : iterP (ctxOf G d_11 call) E (.Call (.Name "_law_least_row" p) [a, b] [] r) ρ = iterV E (.Call (.Name "_law_least_row" p) [a, b] [] r) ρ := by kernel_rfl
theorem f_11__law_marks (call : Str → List Sl → CR) (E : TW.Ctx → Ev) (es : List Expr) (p r : Pos) (ρ : PEnv) : evStep E (ctxOf G d_11 call) (.Call (.Name "_law_marks" p) es [] r) ρ = callP (ctxOf G d_11 call) (E (ctxOf G d_11 call)) "_law_marks" [true, false] es ρ := by kernel_rfl
theorem fn_11__law_marks (call : Str → List Sl → CR) : (ctxOf G d_11 call).fns "_law_marks" = some [true, false] := by kernel_rfl
theorem i1_11__law_marks (call : Str → List Sl → CR) (E : Ev) (a : Expr) (p r : Pos) (ρ : PEnv) : iterP (ctxOf G d_11 call) E (.Call (.Name "_law_marks" p) [a] [] r) ρ = iterV E (.Call (.Name "_law_marks" p) [a] [] r) ρ := by kernel_rfl
theorem i2_11__law_marks (call : Str → List Sl → CR) (E : Ev) (a b : Expr) (p r : Pos) (ρ : PEnv) : iterP (ctxOf G d_11 call) E (.Call (.Name "_law_marks" p) [a, b] [] r) ρ = iterV E (.Call (.Name "_law_marks" p) [a, b] [] r) ρ := by kernel_rfl
theorem f_11__law_otherwise (call : Str → List Sl → CR) (E : TW.Ctx → Ev) (es : List Expr) (p r : Pos) (ρ : PEnv) : evStep E (ctxOf G d_11 call) (.Call (.Name "_law_otherwise" p) es [] r) ρ = callP (ctxOf G d_11 call) (E (ctxOf G d_11 call)) "_law_otherwise" [true, false, false] es ρ := by kernel_rfl
theorem fn_11__law_otherwise (call : Str → List Sl → CR) : (ctxOf G d_11 call).fns "_law_otherwise" = some [true, false, false] := by kernel_rfl
theorem i1_11__law_otherwise (call : Str → List Sl → CR) (E : Ev) (a : Expr) (p r : Pos) (ρ : PEnv) : iterP (ctxOf G d_11 call) E (.Call (.Name "_law_otherwise" p) [a] [] r) ρ = iterV E (.Call (.Name "_law_otherwise" p) [a] [] r) ρ := by kernel_rfl
theorem i2_11__law_otherwise (call : Str → List Sl → CR) (E : Ev) (a b : Expr) (p r : Pos) (ρ : PEnv) : iterP (ctxOf G d_11 call) E (.Call (.Name "_law_otherwise" p) [a, b] [] r) ρ = iterV E (.Call (.Name "_law_otherwise" p) [a, b] [] r) ρ := by kernel_rfl
theorem f_11_first_mark (call : Str → List Sl → CR) (E : TW.Ctx → Ev) (es : List Expr) (p r : Pos) (ρ : PEnv) : evStep E (ctxOf G d_11 call) (.Call (.Name "first_mark" p) es [] r) ρ = callP (ctxOf G d_11 call) (E (ctxOf G d_11 call)) "first_mark" [false] es ρ := by kernel_rfl
theorem fn_11_first_mark (call : Str → List Sl → CR) : (ctxOf G d_11 call).fns "first_mark" = some [false] := by kernel_rfl
theorem i1_11_first_mark (call : Str → List Sl → CR) (E : Ev) (a : Expr) (p r : Pos) (ρ : PEnv) : iterP (ctxOf G d_11 call) E (.Call (.Name "first_mark" p) [a] [] r) ρ = iterV E (.Call (.Name "first_mark" p) [a] [] r) ρ := by kernel_rfl
theorem i2_11_first_mark (call : Str → List Sl → CR) (E : Ev) (a b : Expr) (p r : Pos) (ρ : PEnv) : iterP (ctxOf G d_11 call) E (.Call (.Name "first_mark" p) [a, b] [] r) ρ = iterV E (.Call (.Name "first_mark" p) [a, b] [] r) ρ := by kernel_rfl
theorem f_11_least_row (call : Str → List Sl → CR) (E : TW.Ctx → Ev) (es : List Expr) (p r : Pos) (ρ : PEnv) : evStep E (ctxOf G d_11 call) (.Call (.Name "least_row" p) es [] r) ρ = callP (ctxOf G d_11 call) (E (ctxOf G d_11 call)) "least_row" [false, false] es ρ := by kernel_rfl
theorem fn_11_least_row (call : Str → List Sl → CR) : (ctxOf G d_11 call).fns "least_row" = some [false, false] := by kernel_rfl
theorem i1_11_least_row (call : Str → List Sl → CR) (E : Ev) (a : Expr) (p r : Pos) (ρ : PEnv) : iterP (ctxOf G d_11 call) E (.Call (.Name "least_row" p) [a] [] r) ρ = iterV E (.Call (.Name "least_row" p) [a] [] r) ρ := by kernel_rfl
theorem i2_11_least_row (call : Str → List Sl → CR) (E : Ev) (a b : Expr) (p r : Pos) (ρ : PEnv) : iterP (ctxOf G d_11 call) E (.Call (.Name "least_row" p) [a, b] [] r) ρ = iterV E (.Call (.Name "least_row" p) [a, b] [] r) ρ := by kernel_rfl
theorem fn_11_len (call : Str → List Sl → CR) : (ctxOf G d_11 call).fns "len" = none := by kernel_rfl
theorem bt_11_len (call : Str → List Sl → CR) : (ctxOf G d_11 call).blt "len" = true := by kernel_rfl
theorem i1_11_len (call : Str → List Sl → CR) (E : Ev) (a : Expr) (p r : Pos) (ρ : PEnv) : iterP (ctxOf G d_11 call) E (.Call (.Name "len" p) [a] [] r) ρ = iterV E (.Call (.Name "len" p) [a] [] r) ρ := by kernel_rfl
theorem i2_11_len (call : Str → List Sl → CR) (E : Ev) (a b : Expr) (p r : Pos) (ρ : PEnv) : iterP (ctxOf G d_11 call) E (.Call (.Name "len" p) [a, b] [] r) ρ = iterV E (.Call (.Name "len" p) [a, b] [] r) ρ := by kernel_rfl
theorem b1_11_len (call : Str → List Sl → CR) (E : TW.Ctx → Ev) (a : Expr) (p r : Pos) (ρ : PEnv) : evStep E (ctxOf G d_11 call) (.Call (.Name "len" p) [a] [] r) ρ = if (!starred a) = true then (pkE (ctxOf G d_11 call) (E (ctxOf G d_11 call)) a ρ).bind fun d ρ' => ofO (bi1P "len" d) ρ' else .no := by kernel_rfl
theorem fn_11_max (call : Str → List Sl → CR) : (ctxOf G d_11 call).fns "max" = none := by kernel_rfl
theorem bt_11_max (call : Str → List Sl → CR) : (ctxOf G d_11 call).blt "max" = true := by kernel_rfl
theorem i1_11_max (call : Str → List Sl → CR) (E : Ev) (a : Expr) (p r : Pos) (ρ : PEnv) : iterP (ctxOf G d_11 call) E (.Call (.Name "max" p) [a] [] r) ρ = iterV E (.Call (.Name "max" p) [a] [] r) ρ := by kernel_rfl
theorem i2_11_max (call : Str → List Sl → CR) (E : Ev) (a b : Expr) (p r : Pos) (ρ : PEnv) : iterP (ctxOf G d_11 call) E (.Call (.Name "max" p) [a, b] [] r) ρ = iterV E (.Call (.Name "max" p) [a, b] [] r) ρ := by kernel_rfl
theorem b1_11_max (call : Str → List Sl → CR) (E : TW.Ctx → Ev) (a : Expr) (p r : Pos) (ρ : PEnv) : evStep E (ctxOf G d_11 call) (.Call (.Name "max" p) [a] [] r) ρ = if (!starred a) = true then (pkE (ctxOf G d_11 call) (E (ctxOf G d_11 call)) a ρ).bind fun d ρ' => ofO (bi1P "max" d) ρ' else .no := by kernel_rfl
theorem b2_11_max (call : Str → List Sl → CR) (E : TW.Ctx → Ev) (a b : Expr) (p r : Pos) (ρ : PEnv) : evStep E (ctxOf G d_11 call) (.Call (.Name "max" p) [a, b] [] r) ρ = if (starred a || starred b) = true then .no else (pk2 (ctxOf G d_11 call) (E (ctxOf G d_11 call)) a b ρ).bind fun p ρ' => ofO (bi2P "max" p.1 p.2) ρ' := by kernel_rfl
theorem fn_11_min (call : Str → List Sl → CR) : (ctxOf G d_11 call).fns "min" = none := by kernel_rfl
theorem bt_11_min (call : Str → List Sl → CR) : (ctxOf G d_11 call).blt "min" = true := by kernel_rfl
theorem i1_11_min (call : Str → List Sl → CR) (E : Ev) (a : Expr) (p r : Pos) (ρ : PEnv) : iterP (ctxOf G d_11 call) E (.Call (.Name "min" p) [a] [] r) ρ = iterV E (.Call (.Name "min" p) [a] [] r) ρ := by kernel_rfl
theorem i2_11_min (call : Str → List Sl → CR) (E : Ev) (a b : Expr) (p r : Pos) (ρ : PEnv) : iterP (ctxOf G d_11 call) E (.Call (.Name "min" p) [a, b] [] r) ρ = iterV E (.Call (.Name "min" p) [a, b] [] r) ρ := by kernel_rfl
theorem b1_11_min (call : Str → List Sl → CR) (E : TW.Ctx → Ev) (a : Expr) (p r : Pos) (ρ : PEnv) : evStep E (ctxOf G d_11 call) (.Call (.Name "min" p) [a] [] r) ρ = if (!starred a) = true then (pkE (ctxOf G d_11 call) (E (ctxOf G d_11 call)) a ρ).bind fun d ρ' => ofO (bi1P "min" d) ρ' else .no := by kernel_rfl
theorem b2_11_min (call : Str → List Sl → CR) (E : TW.Ctx → Ev) (a b : Expr) (p r : Pos) (ρ : PEnv) : evStep E (ctxOf G d_11 call) (.Call (.Name "min" p) [a, b] [] r) ρ = if (starred a || starred b) = true then .no else (pk2 (ctxOf G d_11 call) (E (ctxOf G d_11 call)) a b ρ).bind fun p ρ' => ofO (bi2P "min" p.1 p.2) ρ' := by kernel_rfl
theorem fn_11_range (call : Str → List Sl → CR) : (ctxOf G d_11 call).fns "range" = none := by kernel_rfl
theorem bt_11_range (call : Str → List Sl → CR) : (ctxOf G d_11 call).blt "range" = true := by kernel_rfl
theorem g1_11 (call : Str → List Sl → CR) (E : Ev) (a : Expr) (p r : Pos) (ρ : PEnv) : iterP (ctxOf G d_11 call) E (.Call (.Name "range" p) [a] [] r) ρ = if (!starred a) = true then (E.ev a ρ).bind fun v ρ' => rng1 v.1 ρ' else iterV E (.Call (.Name "range" p) [a] [] r) ρ := by kernel_rfl
theorem g2_11 (call : Str → List Sl → CR) (E : Ev) (a b : Expr) (p r : Pos) (ρ : PEnv) : iterP (ctxOf G d_11 call) E (.Call (.Name "range" p) [a, b] [] r) ρ = if ((!starred a) && !starred b) = true then (E.ev a ρ).bind fun v ρ1 => (E.ev b ρ1).bind fun u ρ2 => rng2 v.1 u.1 ρ2 else iterV E (.Call (.Name "range" p) [a, b] [] r) ρ := by kernel_rfl
theorem f_11_shifted (call : Str → List Sl → CR) (E : TW.Ctx → Ev) (es : List Expr) (p r : Pos) (ρ : PEnv) : evStep E (ctxOf G d_11 call) (.Call (.Name "shifted" p) es [] r) ρ = callP (ctxOf G d_11 call) (E (ctxOf G d_11 call)) "shifted" [false] es ρ := by kernel_rfl
theorem fn_11_shifted (call : Str → List Sl → CR) : (ctxOf G d_11 call).fns "shifted" = some [false] := by kernel_rfl
theorem i1_11_shifted (call : Str → List Sl → CR) (E : Ev) (a : Expr) (p r : Pos) (ρ : PEnv) : iterP (ctxOf G d_11 call) E (.Call (.Name "shifted" p) [a] [] r) ρ = iterV E (.Call (.Name "shifted" p) [a] [] r) ρ := by kernel_rfl
theorem i2_11_shifted (call : Str → List Sl → CR) (E : Ev) (a b : Expr) (p r : Pos) (ρ : PEnv) : iterP (ctxOf G d_11 call) E (.Call (.Name "shifted" p) [a, b] [] r) ρ = iterV E (.Call (.Name "shifted" p) [a, b] [] r) ρ := by kernel_rfl
def cmp_11 (ci : Nat → List Sl → CR) : {f : PEnv → SR // ∀ ρ, blk (evN FU (ctxOf G d_11 (cl ci))) (L2.defBody (top 13)) ρ = f ρ} := by
  apply Subtype.mk
  intro ρ
  simp only [L2.defBody, top, PySem.Challenge.pw_twicedial_k14_rows_in_least_form, List.getD_cons_succ, List.getD_cons_zero]
  simp only [FU, k_nil, k_one, k_cons2, q_st, q_ev, q_ts, u_pass, u_break, u_cont, u_doc, u_exprC, u_retN, u_set, u_tupT, u_tupN, u_tupC, u_tupS, q_name, q_int, q_str, q_bool, q_none, q_bin, q_not, q_neg, q_bool2, q_cmp, q_cmp2, q_tup, q_lst, q_dct, q_slc, q_subC, q_subN, q_subB, q_subU, q_subF, q_subS, q_subI, q_subT, it_N, it_B, it_S, it_T, it_L, it_C, it_I, it_Z, it_Y, it_M, it_O, q_meth, ti_nil, ti_one, kp_eq, tg_name, tg_tup, t_not, t_bool, t_cmp, t_cmp2, t_name, t_call, b_ok, b_no, s_ok, s_no, o_some, o_none, n_some, n_none, pk2, pk2m, pkE, sl3, cmp1, cmp2, noSet, noSlice, noComp, noSuper, okAsg, starred, items, dispP, isMut, tupS, swP, swNs, swNm, parP, pi_nil, pi_cons, slz_nil, slz_cons, hdS_c, nlS_n, sn_nil, sn_cons, unpk_eq, un1_t, hd1_c, nl1_n, sq_un1, tg2_q, iterV, callP_eq, args1, a2_nil, a2_some, a2_none, a2n_t, a2n_f, lend_b, show_b, given_b, cbk_b, List.nil_append, List.append_nil, List.cons_append, rd_blk, pk_blk, ln_blk, set_blk, call_blk, slB, isStoB, isLoc, isGlo, isLc, str_beq, str_eq, decide_str, String.reduceBEq, String.reduceEq, String.reduceNe, ownOf, List.filterMap_cons, List.filterMap_nil, List.map_cons, List.map_nil, isBlt, L2.blkC, List.mem_cons, List.not_mem_nil, or_false, false_or, List.getElem?_cons_succ, List.getElem?_cons_zero, or_true, true_or, if_true, if_false, ite_true, ite_false, Bool.and_true, Bool.true_and, Bool.and_false, Bool.false_and, Bool.or_true, Bool.or_false, Bool.true_or, Bool.false_or, Bool.not_true, Bool.not_false, List.lookup_cons, List.lookup_nil, beq_self_eq_true, decide_true, decide_false, Option.map_some, Option.map_none, Option.bind_some, Option.bind_none, Bool.false_eq_true, ne_eq, not_true, not_false_iff, List.length_cons, List.length_nil, List.any_cons, List.any_nil, List.all_cons, List.all_nil, Bool.true_eq_false, Bool.not_eq_true', bne, List.headD_cons, List.tail_cons, eq_self, sq_nx, sq_rt, sq_bk, sq_ct, sq_no, sq_s, sq_nxO, sq_os, List.head?_cons, Option.getD_some, PySem.Expr.pos, Nat.reduceBEq, Nat.reduceBNe, Nat.reduceEqDiff, Nat.reduceAdd, List.eraseDups, List.eraseDupsBy, List.eraseDupsBy.loop, List.reverse_cons, List.reverse_nil, foldedForSure, constantsAlone, List.reverseAux, List.reverse, Nat.zero_add, cx_some, cx_1, cx_2, inBlk_call, ln_C, ln_B, ln_U, ln_F, ln_S, ln_I, ln_T, ln_L, ln_O, ln_P, ln_D, ln_Q, b_assoc, s_assoc, b_ofO, s_ofO, ob_b, ob_s, ob_some, os_some, pkB, rdB, stB, w_len, w_int, w_tuple, w_list, w_str, w_abs, w_sum, w_max, w_min, w_max2, w_min2, w_gcd, w_iInt, w_iBool, w_iTuple, w_iStr, w_iList, w_join, bv_one, bv_cons, bt_one, bt_cons, u_ret1, u_ret2, u_ret3, u_ret4, u_ret5, u_ret6, u_ret7, u_ret8, u_ret9, u_ret10, u_ret11, u_ret12, partE_s, partE_n, nk_cl, nk_ll, u_raise, Q_for, Q_while, Q_if, Q_ife, Q_lc, lcQ_true, ok__law_at, ok__law_begun, ok__law_draw, ok__law_is_least, ok__law_least_row, ok__law_marks, ok__law_otherwise, ok_cycle, ok_first_mark, ok_head, ok_k, ok_least_row, ok_left, ok_len, ok_line, ok_m, ok_max, ok_min, ok_other, ok_range, ok_rest, ok_same, ok_script, ok_shifted, ok_told, ok_turn, nn_11, kd_11, x_11_script, r_11_script, p_11_script, m_11_script, s_11_script, c_11_script, l_11_script, rn_11_script, o_11_script, il_11_script, x_11_turn, r_11_turn, p_11_turn, m_11_turn, s_11_turn, c_11_turn, l_11_turn, rn_11_turn, o_11_turn, il_11_turn, x_11_m, r_11_m, p_11_m, m_11_m, s_11_m, c_11_m, l_11_m, rn_11_m, ap_11_m, as_11_m, o_11_m, il_11_m, x_11_cycle, r_11_cycle, p_11_cycle, m_11_cycle, s_11_cycle, c_11_cycle, l_11_cycle, rn_11_cycle, o_11_cycle, il_11_cycle, x_11_told, r_11_told, p_11_told, m_11_told, s_11_told, c_11_told, l_11_told, rn_11_told, o_11_told, il_11_told, x_11_other, r_11_other, p_11_other, m_11_other, s_11_other, c_11_other, l_11_other, rn_11_other, o_11_other, il_11_other, x_11_same, r_11_same, p_11_same, m_11_same, s_11_same, c_11_same, l_11_same, rn_11_same, o_11_same, il_11_same, x_11_k, r_11_k, p_11_k, m_11_k, s_11_k, c_11_k, l_11_k, rn_11_k, o_11_k, il_11_k, x_11_head, r_11_head, p_11_head, m_11_head, s_11_head, c_11_head, l_11_head, rn_11_head, o_11_head, il_11_head, x_11_left, r_11_left, p_11_left, m_11_left, s_11_left, c_11_left, l_11_left, rn_11_left, o_11_left, il_11_left, x_11_line, r_11_line, p_11_line, m_11_line, s_11_line, c_11_line, l_11_line, rn_11_line, o_11_line, il_11_line, x_11_rest, r_11_rest, p_11_rest, m_11_rest, s_11_rest, c_11_rest, l_11_rest, rn_11_rest, o_11_rest, il_11_rest, x_11_dot0, cc_11, fn_11__law_at, f_11__law_begun, fn_11__law_begun, i1_11__law_begun, i2_11__law_begun, f_11__law_draw, fn_11__law_draw, i1_11__law_draw, i2_11__law_draw, f_11__law_is_least, fn_11__law_is_least, i1_11__law_is_least, i2_11__law_is_least, f_11__law_least_row, fn_11__law_least_row, i1_11__law_least_row, i2_11__law_least_row, f_11__law_marks, fn_11__law_marks, i1_11__law_marks, i2_11__law_marks, f_11__law_otherwise, fn_11__law_otherwise, i1_11__law_otherwise, i2_11__law_otherwise, f_11_first_mark, fn_11_first_mark, i1_11_first_mark, i2_11_first_mark, f_11_least_row, fn_11_least_row, i1_11_least_row, i2_11_least_row, fn_11_len, bt_11_len, i1_11_len, i2_11_len, b1_11_len, fn_11_max, bt_11_max, i1_11_max, i2_11_max, b1_11_max, b2_11_max, fn_11_min, bt_11_min, i1_11_min, i2_11_min, b1_11_min, b2_11_min, fn_11_range, bt_11_range, g1_11, g2_11, f_11_shifted, fn_11_shifted, i1_11_shifted, i2_11_shifted, cl_6, cl_3, cl_4, cl_8, cl_7, cl_9, cl_10, cl_1, cl_0, cl_2]
  exact rfl
def callI : Nat → Nat → List Sl → CR
  | 0, _, _ => .no
  | k + 1, i, args => match i with
    | 0 => runI 2 3 (cmp_0 (callI k)).1 args
    | 1 => runI 1 1 (cmp_1 (callI k)).1 args
    | 2 => runI 1 3 (cmp_2 (callI k)).1 args
    | 3 => runI 2 6 (cmp_3 (callI k)).1 args
    | 4 => runI 2 8 (cmp_4 (callI k)).1 args
    | 5 => runI 2 2 (cmp_5 (callI k)).1 args
    | 6 => runI 2 2 (cmp_6 (callI k)).1 args
    | 7 => runI 2 4 (cmp_7 (callI k)).1 args
    | 8 => runI 1 4 (cmp_8 (callI k)).1 args
    | 9 => runI 2 3 (cmp_9 (callI k)).1 args
    | 10 => runI 3 7 (cmp_10 (callI k)).1 args
    | 11 => runI 1 12 (cmp_11 (callI k)).1 args
    | _ => .no
theorem ci_0 (k : Nat) (args : List Sl) : callI (k + 1) 0 args = runI 2 3 (cmp_0 (callI k)).1 args := rfl
theorem ci_1 (k : Nat) (args : List Sl) : callI (k + 1) 1 args = runI 1 1 (cmp_1 (callI k)).1 args := rfl
theorem ci_2 (k : Nat) (args : List Sl) : callI (k + 1) 2 args = runI 1 3 (cmp_2 (callI k)).1 args := rfl
theorem ci_3 (k : Nat) (args : List Sl) : callI (k + 1) 3 args = runI 2 6 (cmp_3 (callI k)).1 args := rfl
theorem ci_4 (k : Nat) (args : List Sl) : callI (k + 1) 4 args = runI 2 8 (cmp_4 (callI k)).1 args := rfl
theorem ci_5 (k : Nat) (args : List Sl) : callI (k + 1) 5 args = runI 2 2 (cmp_5 (callI k)).1 args := rfl
theorem ci_6 (k : Nat) (args : List Sl) : callI (k + 1) 6 args = runI 2 2 (cmp_6 (callI k)).1 args := rfl
theorem ci_7 (k : Nat) (args : List Sl) : callI (k + 1) 7 args = runI 2 4 (cmp_7 (callI k)).1 args := rfl
theorem ci_8 (k : Nat) (args : List Sl) : callI (k + 1) 8 args = runI 1 4 (cmp_8 (callI k)).1 args := rfl
theorem ci_9 (k : Nat) (args : List Sl) : callI (k + 1) 9 args = runI 2 3 (cmp_9 (callI k)).1 args := rfl
theorem ci_10 (k : Nat) (args : List Sl) : callI (k + 1) 10 args = runI 3 7 (cmp_10 (callI k)).1 args := rfl
theorem ci_11 (k : Nat) (args : List Sl) : callI (k + 1) 11 args = runI 1 12 (cmp_11 (callI k)).1 args := rfl
theorem callI_eq : ∀ (k : Nat) (f : Str) (as : List Sl), callK G k f as = cl (callI k) f as
  | 0, _, _ => rfl
  | k + 1, f, as => by
    have ih : callK G k = cl (callI k) := funext fun f => funext fun as => callI_eq k f as
    show (match findD G.defs f with | some d => runD G (callK G k) d as | none => .no) = callI (k + 1) (idx f) as
    rw [ih]
    by_cases h0 : f = "least_row"
    · subst h0; exact run_eq (G := G) (d := d_0) (cmp_0 (callI k)).2 as
    by_cases h1 : f = "first_mark"
    · subst h1; exact run_eq (G := G) (d := d_1) (cmp_1 (callI k)).2 as
    by_cases h2 : f = "shifted"
    · subst h2; exact run_eq (G := G) (d := d_2) (cmp_2 (callI k)).2 as
    by_cases h3 : f = "_law_begun"
    · subst h3; exact run_eq (G := G) (d := d_3) (cmp_3 (callI k)).2 as
    by_cases h4 : f = "_law_draw"
    · subst h4; exact run_eq (G := G) (d := d_4) (cmp_4 (callI k)).2 as
    by_cases h5 : f = "_law_of"
    · subst h5; exact run_eq (G := G) (d := d_5) (cmp_5 (callI k)).2 as
    by_cases h6 : f = "_law_at"
    · subst h6; exact run_eq (G := G) (d := d_6) (cmp_6 (callI k)).2 as
    by_cases h7 : f = "_law_least_row"
    · subst h7; exact run_eq (G := G) (d := d_7) (cmp_7 (callI k)).2 as
    by_cases h8 : f = "_law_is_least"
    · subst h8; exact run_eq (G := G) (d := d_8) (cmp_8 (callI k)).2 as
    by_cases h9 : f = "_law_marks"
    · subst h9; exact run_eq (G := G) (d := d_9) (cmp_9 (callI k)).2 as
    by_cases h10 : f = "_law_otherwise"
    · subst h10; exact run_eq (G := G) (d := d_10) (cmp_10 (callI k)).2 as
    by_cases h11 : f = "law"
    · subst h11; exact run_eq (G := G) (d := d_11) (cmp_11 (callI k)).2 as
    have e : ∀ d ∈ G.defs, ¬ decide (d.name = f) = true := by
      intro d hd hf
      have hf := of_decide_eq_true hf
      simp only [G, List.mem_cons, List.not_mem_nil, or_false] at hd
      rcases hd with rfl | rfl | rfl | rfl | rfl | rfl | rfl | rfl | rfl | rfl | rfl | rfl
      · exact h0 hf.symm
      · exact h1 hf.symm
      · exact h2 hf.symm
      · exact h3 hf.symm
      · exact h4 hf.symm
      · exact h5 hf.symm
      · exact h6 hf.symm
      · exact h7 hf.symm
      · exact h8 hf.symm
      · exact h9 hf.symm
      · exact h10 hf.symm
      · exact h11 hf.symm
    have e1 : findD G.defs f = none := List.find?_eq_none.mpr e
    have e2 : idx f = 999 := by
      unfold idx
      rw [List.findIdx?_eq_none_iff.mpr (fun d hd => by simpa using e d hd)]
      rfl
    rw [e1, e2]
    rfl
end L_k14

namespace L_k14
open PySem PySem.Spec PyProof.Rows L2
theorem ok_0 : TW.DefOk d_0 := ⟨TW.scB_ok (by decide +kernel), fun kV doc pm an cdv ct us (hl : us.length = 2) => match us, hl with | [_, _], _ => rfl⟩
theorem ok_1 : TW.DefOk d_1 := ⟨TW.scB_ok (by decide +kernel), fun kV doc pm an cdv ct us (hl : us.length = 1) => match us, hl with | [_], _ => rfl⟩
theorem ok_2 : TW.DefOk d_2 := ⟨TW.scB_ok (by decide +kernel), fun kV doc pm an cdv ct us (hl : us.length = 1) => match us, hl with | [_], _ => rfl⟩
theorem ok_3 : TW.DefOk d_3 := ⟨TW.scB_ok (by decide +kernel), fun kV doc pm an cdv ct us (hl : us.length = 2) => match us, hl with | [_, _], _ => rfl⟩
theorem ok_4 : TW.DefOk d_4 := ⟨TW.scB_ok (by decide +kernel), fun kV doc pm an cdv ct us (hl : us.length = 2) => match us, hl with | [_, _], _ => rfl⟩
theorem ok_5 : TW.DefOk d_5 := ⟨TW.scB_ok (by decide +kernel), fun kV doc pm an cdv ct us (hl : us.length = 2) => match us, hl with | [_, _], _ => rfl⟩
theorem ok_6 : TW.DefOk d_6 := ⟨TW.scB_ok (by decide +kernel), fun kV doc pm an cdv ct us (hl : us.length = 2) => match us, hl with | [_, _], _ => rfl⟩
theorem ok_7 : TW.DefOk d_7 := ⟨TW.scB_ok (by decide +kernel), fun kV doc pm an cdv ct us (hl : us.length = 2) => match us, hl with | [_, _], _ => rfl⟩
theorem ok_8 : TW.DefOk d_8 := ⟨TW.scB_ok (by decide +kernel), fun kV doc pm an cdv ct us (hl : us.length = 1) => match us, hl with | [_], _ => rfl⟩
theorem ok_9 : TW.DefOk d_9 := ⟨TW.scB_ok (by decide +kernel), fun kV doc pm an cdv ct us (hl : us.length = 2) => match us, hl with | [_, _], _ => rfl⟩
theorem ok_10 : TW.DefOk d_10 := ⟨TW.scB_ok (by decide +kernel), fun kV doc pm an cdv ct us (hl : us.length = 3) => match us, hl with | [_, _, _], _ => rfl⟩
theorem ok_11 : TW.DefOk d_11 := ⟨TW.scB_ok (by decide +kernel), fun kV doc pm an cdv ct us (hl : us.length = 1) => match us, hl with | [_], _ => rfl⟩
theorem allOk : TW.AllD TW.DefOk G.defs := .cons ok_0 (.cons ok_1 (.cons ok_2 (.cons ok_3 (.cons ok_4 (.cons ok_5 (.cons ok_6 (.cons ok_7 (.cons ok_8 (.cons ok_9 (.cons ok_10 (.cons ok_11 (.nil))))))))))))
abbrev R : PySem.W.OpenRow := PySem.W.OpenLaw.row PySem.Challenge.rw_twicedial_k14_rows_in_least_form
abbrev hk : PySem.W.Hook := TW.hookT 5 G
def ob (s : PySem.W.SharedT) : He.AlD := TW.obsTG 5 G (HandSHeadRun.getT s)
theorem ob_eq (s : PySem.W.SharedT) : ob s = hk.obs s.abs := TW.obsTG_eq (HandSHeadRun.getT_eq s)
def loose_0 : List PySem.Str := ["least_row", "first_mark", "shifted", "_law_begun", "_law_draw", "_law_of", "_law_at", "_law_least_row", "_law_is_least", "_law_marks", "_law_otherwise"]
def loose : List PySem.Str := loose_0
theorem run (w : World) : HandSHeadRun.RunEq R (PySem.W.view R.prog [13]) hk ob 4000 loose w := by
  intro os
  kernel_rfl
end L_k14

set_option Elab.async false
set_option maxRecDepth 100000
set_option maxHeartbeats 0
open PySem TW TM
local macro_rules | `(tactic| array_get_dec) => `(tactic| try simp only [runI, p_sq_nx, p_sq_rt, p_sq_bk, p_sq_ct, p_sq_no, sq_s, sq_nxO, sq_os, sq_un1, p_hd1_c, p_nl1_n, p_hdS_c, p_nlS_n, List.length_cons, List.length_nil, List.replicate, List.append_nil, List.nil_append, List.cons_append, Nat.reduceSub, Nat.reduceAdd, Nat.zero_add, Nat.sub_self, Nat.reduceLeDiff, Nat.reducePow, Nat.reduceMul, if_true, if_false, ite_true, ite_false, ne_eq, not_false_iff, not_true, Option.map_some, Option.map_none, Option.bind_some, Option.bind_none, p_b_ok, p_b_no, p_s_ok, p_s_no, p_o_some, p_o_none, p_n_some, p_n_none, p_os_some, p_ob_some, z_pk0, z_pkS, z_put0, z_put0o, z_put0n, z_putS, z_rd0, z_rdS, z_mt0, z_mt0o, z_mt0l, z_mtS, z_sh0, z_shS, z_le0, z_le0o, z_le0l, z_leS, z_up0, z_upC, List.set_cons_zero, List.set_cons_succ, List.getElem?_cons_succ, List.getElem?_cons_zero, Option.getD_some, Option.getD_none, eq_self, Int.reduceEq, Int.reduceLT, Int.reduceLE, Int.reduceNe, Bool.false_eq_true, Bool.true_eq_false, Bool.not_false, Bool.not_true, decide_eq_true_eq, Bool.true_and, Bool.and_true, decide_true, decide_false, Bool.not_eq_true', decide_eq_false_iff_not, decide_not, Int.reduceNeg, backP, and_true, true_and, and_self, TM.dB_int, TM.dB_bool, TM.dB_str, TM.dB_list, TM.dB_tp, TM.dB_pair, TM.dB_t3, TM.dB_opt, TM.p_sq_nx, TM.p_sq_rt, TM.p_sq_bk, TM.p_sq_ct, TM.p_sq_no, TM.p_hd1_c, TM.p_nl1_n, TM.p_hdS_c, TM.p_nlS_n, TM.p_b_ok, TM.p_b_no, TM.p_s_ok, TM.p_s_no, TM.p_o_some, TM.p_o_none, TM.p_n_some, TM.p_n_none, TM.p_os_some, TM.p_ob_some, TM.fin_nx, TM.fin_rt, TM.fin_bk, TM.fin_ct, TM.fin_ex, TM.fin_no, TM.fin_os, TM.fin_nxO, TM.fin_toS, TM.fin_ite, TM.sq_ite, TM.finR_ok, TM.finR_no, TM.finR_bind, TM.finR_ob, TM.finR_ofO, TM.finR_iteN, TM.osG_some, TM.osG_none, TM.osG_ite, TM.osG_map, TM.osG_bind, TM.K_end_no, TM.K_end_bk, TM.K_end_nx, TM.K_end_rt, TM.K_end_ex, TM.K_turn_no, TM.K_turn_nx, TM.K_turn_ct, TM.K_turn_bk, TM.K_turn_rt, TM.K_turn_ex, TM.K_join_no, TM.K_join_nx, TM.K_join_ct, TM.K_join_bk, TM.K_join_rt, TM.K_join_ex, TM.endB_some, TM.finR_cbk0, TM.finR_cbo0, TM.finR_cbo1o, TM.finR_cbo1l, TM.finR_cbk1o, TM.finR_cbk1l, TM.joinS_key, TM.fin_for, TM.fin_while, TM.ifQ_t, TM.ifQ_f, TM.ieQ_t, TM.ieQ_f, TM.fin_ifQ, TM.ie_pure, TM.sz0, TM.sz1, TM.sz2, TM.sz3, TM.sz4, TM.sz5, TM.sz6, TM.sz7, TM.sz8, TM.sz9, TM.sz10, TM.sz11, TM.sz12, TM.j_put, TM.j_putO, TM.j_pk, TM.j_pkO, TM.j_rd, TM.j_mt, TM.j_mtO, TM.j_sh, TM.j_le, TM.j_leO, TM.o_rd, TM.o_sh, TM.j_rdO, TM.j_shO, TM.f_int, TM.f_bool, TM.f_str, TM.f_list, TM.f_l1, TM.f_l2, TM.f_l3, TM.f_l4, TM.f_l5, TM.f_l6, TM.f_t2, TM.f_t3, TM.k_kp, TM.k_kpn, TM.k_gv, TM.k_gv2, TM.k_ct, TM.k_ct2, TM.k_ctn, TM.k_kpnn, TM.k_gvn, TM.k_ctl0, TM.k_ctt0, TM.k_kpt0, TM.k_ct1, TM.k_gv1, TM.c_int, TM.c_bool, TM.c_str, TM.c_list, TM.c_tp, TM.c_pair, TM.c_t3, TM.ii_int, TM.ii_bool, TM.ii_str, TM.ii_list, TM.ii_tp, TM.ii_pair, TM.ii_t3, TM.ib_int, TM.ib_bool, TM.ib_str, TM.ib_list, TM.ib_tp, TM.ib_pair, TM.ib_t3, TM.it_int, TM.it_bool, TM.it_str, TM.it_list, TM.it_tp, TM.it_pair, TM.it_t3, TM.is_int, TM.is_bool, TM.is_str, TM.is_list, TM.is_tp, TM.is_pair, TM.is_t3, TM.il_int, TM.il_str, TM.il_list, TM.il_tp, TM.il_pair, TM.ib_opt, TM.ii_opt, TM.b_add, TM.b_sub, TM.b_mul, TM.b_div, TM.b_mod, TM.b_pow, TM.a_add, TM.a_sub, TM.a_mul, TM.a_div, TM.b_neg, TM.c_lt, TM.c_le, TM.c_gt, TM.c_ge, TM.s_add, TM.s_mul, TM.as_add, TM.l_add, TM.tp_add, TM.e_eq, TM.e_ne, TM.e_nil, TM.n_nil, TM.e_nilT, TM.n_nilT, TM.in_list, TM.nin_list, TM.in_tp, TM.nin_tp, TM.in_pair, TM.nin_pair, TM.ix_list, TM.ix_tp, TM.sl_list, TM.sl_tp, TM.id_list, TM.id_tp, TM.id_pair, TM.le_list, TM.le_tp, TM.tu_list, TM.tu_tp, TM.li_list, TM.li_tp, TM.tr_list, TM.ix_p0, TM.ix_p1, TM.ix_pm, TM.ix_q0, TM.ix_q1, TM.ix_q2, TM.un_pair, TM.un_t3, TM.le_pair, TM.le_t3, TM.tg_pair, TM.tg_t3, TM.ix_str, TM.sl_str, TM.id_str, TM.le_str, TM.tr_str, TM.tr_bool, TM.tr_int, TM.in_int, TM.in_str, TM.in_bool, TM.st_int, TM.ab_int, TM.su_list, TM.mx_list, TM.mn_list, TM.mx2, TM.mn2, TM.gc2, TM.jo_list, TM.in_str2, TM.c_slt, TM.rngL_eq, TM.r_1, TM.r_2, TM.p_ip, TM.v_and, TM.v_or, TM.t_and, TM.t_or, TM.m_and, TM.m_or, TM.n_and, TM.n_or, TM.ix_non, TM.le_non, TM.un_non, TM.lt_non, TM.le2_non, TM.gt_non, TM.ge_non, TM.ad_non, TM.sb_non, TM.iin_non, TM.ibn_non, TM.itn_non, TM.isn_nons, TM.iln_non, TM.eq_an, TM.ne_an, TM.eq_na, TM.ne_na, TM.is_non, TM.isn_non, TM.eq_non, TM.ne_non, TM.inj_none, TM.inj_some, TM.is_opt, TM.isn_opt, TM.is_nn, TM.isn_nn, TM.lt_o1, TM.le_o1, TM.gt_o1, TM.ge_o1, TM.add_o1, TM.sub_o1, TM.retN_eq, TM.apS_eq, TM.sgS_eq, TM.suS_eq, TM.ag_eq, TM.rt_own, TM.rt_none, TM.rt_lent, TM.sg_some, TM.su_some, TM.ap_1, TM.ap_2, TM.ap_2n, TM.ap_1n, TM.si_list, TM.hid_nil, TM.hid_cons, TM.hid_s, TM.hid_n, TM.hid_f, TM.hid_jf, TM.hid_jn, TM.wipe_nil, TM.wipe_cons, TM.unh_nil, TM.unh_cons, TM.finR_lcT, TM.mg, TM.f_m, TM.m_l, TM.m_s, TM.m_c, TM.m_p, TM.m_sl, TM.m_sp, TM.u0_eq, TM.u1_eq, TM.u2_eq, TM.u3_eq, TM.u4_eq, TM.u5_eq, TM.u6_eq, TM.u7_eq, TM.u8_eq, TM.u9_eq, TM.u10_eq, TM.u11_eq, TM.u12_eq, TM.K_end_ct])
namespace L_k14
open PySem TW TM
def cm_0 (n : Nat) (x_head : List Nat) (x_cycle : List Nat) : Gm (AO (fun a : (List Nat) × (List Nat) => CR.ok (inj a) false [])) (callI (n + 1) 0 [⟨.fz, inj x_head⟩, ⟨.fz, inj x_cycle⟩]) := by
  refine x_of (b := fin (endK [⟨.fz, inj x_head⟩, ⟨.fz, inj x_cycle⟩]) ((cmp_0 (callI (n + 0))).1 [some ⟨.fz, inj x_head⟩, some ⟨.fz, inj x_cycle⟩, Jk.s Jk.n])) ((ci_0 (n + 0) _).trans (run_fin rfl rfl)) ?_
  refine x_of (b := ?_) ?_ ?_
  rotate_left
  · simp only [cmp_0]; array_get_dec; exact rfl
  · repeat' (first | (first | with_reducible refine x_ite ?_ ?_ | (with_reducible refine x_osO ?_ (fun _ => ?_) <;> (refine x_of (b := ?_) ?_ ?_; rotate_left; (array_get_dec; exact rfl))) | with_reducible refine x_os (fun _ => ?_) | with_reducible refine x_bind (fun _ => ?_) | with_reducible refine x_bindN (fun _ => ?_) | (with_reducible refine x_and ?_ (fun _ => ?_) <;> (refine x_of (b := ?_) ?_ ?_; rotate_left; (array_get_dec; exact rfl))) | (with_reducible refine x_or ?_ (fun _ => ?_) <;> (refine x_of (b := ?_) ?_ ?_; rotate_left; (array_get_dec; exact rfl))) | (with_reducible refine x_andV ?_ (fun _ => ?_) <;> (refine x_of (b := ?_) ?_ ?_; rotate_left; (array_get_dec; exact rfl))) | (with_reducible refine x_orV ?_ (fun _ => ?_) <;> (refine x_of (b := ?_) ?_ ?_; rotate_left; (array_get_dec; exact rfl))) | (with_reducible refine x_rite ?_ ?_ <;> (refine x_of (b := ?_) ?_ ?_; rotate_left; (array_get_dec; exact rfl))) | (with_reducible refine g_ad ?_; exact x_ad _ () rfl rfl) | with_reducible refine x_fin ?_ | with_reducible refine x_finS ?_ | with_reducible exact x_noC | with_reducible exact x_noO) | (with_reducible refine g_retO ?_; exact x_retO _ rfl) | (with_reducible refine g_nx ?_; exact x_nx2 _ _ rfl) | (with_reducible refine g_bk ?_; exact x_bk2 _ _ rfl) | (with_reducible refine g_for ⟨3, 4, 6, 17⟩ ?_; refine x_for2 ⟨3, 4, 6, 17⟩ (fun ρ => fun (a0 : List Nat) (a1 : Jk) => ((ρ.set 1 (some ⟨.fz, inj (a0)⟩)).set 2 ((Jk.s a1)))) _ _ rfl (fun s x => ?_) (fun s => ?_) <;> (refine x_of (b := ?_) ?_ ?_; rotate_left; (array_get_dec; exact rfl))) | ((with_reducible refine g_while ⟨7, 4, 9, 38⟩ ?_); refine x_while2 ⟨7, 4, 9, 38⟩ (fun ρ => fun (a0 : List Nat) (a1 : List Nat) => ((ρ.set 0 (some ⟨.fz, inj (a0)⟩)).set 1 (some ⟨.fz, inj (a1)⟩))) _ _ rfl (fun s => ?_) (fun s => ?_) <;> (refine x_of (b := ?_) ?_ ?_; rotate_left; (array_get_dec; exact rfl))) | (with_reducible refine x_sqif ⟨4, 8, 6, 17⟩ ?_ ?_ <;> (refine x_of (b := ?_) ?_ ?_; rotate_left; (array_get_dec; exact rfl))) | (refine x_of (b := ?_) ?_ ?_; rotate_left; (array_get_dec; exact rfl); (first | (first | with_reducible refine x_ite ?_ ?_ | (with_reducible refine x_osO ?_ (fun _ => ?_) <;> (refine x_of (b := ?_) ?_ ?_; rotate_left; (array_get_dec; exact rfl))) | with_reducible refine x_os (fun _ => ?_) | with_reducible refine x_bind (fun _ => ?_) | with_reducible refine x_bindN (fun _ => ?_) | (with_reducible refine x_and ?_ (fun _ => ?_) <;> (refine x_of (b := ?_) ?_ ?_; rotate_left; (array_get_dec; exact rfl))) | (with_reducible refine x_or ?_ (fun _ => ?_) <;> (refine x_of (b := ?_) ?_ ?_; rotate_left; (array_get_dec; exact rfl))) | (with_reducible refine x_andV ?_ (fun _ => ?_) <;> (refine x_of (b := ?_) ?_ ?_; rotate_left; (array_get_dec; exact rfl))) | (with_reducible refine x_orV ?_ (fun _ => ?_) <;> (refine x_of (b := ?_) ?_ ?_; rotate_left; (array_get_dec; exact rfl))) | (with_reducible refine x_rite ?_ ?_ <;> (refine x_of (b := ?_) ?_ ?_; rotate_left; (array_get_dec; exact rfl))) | (with_reducible refine g_ad ?_; exact x_ad _ () rfl rfl) | with_reducible refine x_fin ?_ | with_reducible refine x_finS ?_ | with_reducible exact x_noC | with_reducible exact x_noO) | (with_reducible refine g_retO ?_; exact x_retO _ rfl) | (with_reducible refine g_nx ?_; exact x_nx2 _ _ rfl) | (with_reducible refine g_bk ?_; exact x_bk2 _ _ rfl) | (with_reducible refine g_for ⟨3, 4, 6, 17⟩ ?_; refine x_for2 ⟨3, 4, 6, 17⟩ (fun ρ => fun (a0 : List Nat) (a1 : Jk) => ((ρ.set 1 (some ⟨.fz, inj (a0)⟩)).set 2 ((Jk.s a1)))) _ _ rfl (fun s x => ?_) (fun s => ?_) <;> (refine x_of (b := ?_) ?_ ?_; rotate_left; (array_get_dec; exact rfl))) | ((with_reducible refine g_while ⟨7, 4, 9, 38⟩ ?_); refine x_while2 ⟨7, 4, 9, 38⟩ (fun ρ => fun (a0 : List Nat) (a1 : List Nat) => ((ρ.set 0 (some ⟨.fz, inj (a0)⟩)).set 1 (some ⟨.fz, inj (a1)⟩))) _ _ rfl (fun s => ?_) (fun s => ?_) <;> (refine x_of (b := ?_) ?_ ?_; rotate_left; (array_get_dec; exact rfl))) | (with_reducible refine x_sqif ⟨4, 8, 6, 17⟩ ?_ ?_ <;> (refine x_of (b := ?_) ?_ ?_; rotate_left; (array_get_dec; exact rfl))))))
def mm_0 : {m : (List Nat) → (List Nat) → Option ((List Nat) × (List Nat)) // ∀ (n : Nat) (x_head : List Nat) (x_cycle : List Nat), (cm_0 n x_head x_cycle).1 = m x_head x_cycle} := by
  apply Subtype.mk; intro n x_head x_cycle; dsimp only [cm_0, x_noC, x_noO, x_retO, g_retO, AO, g_sk, g_ad, AC, AB, AS, x_of, x_no, x_ex, x_ite, x_osO, x_splB, x_splD, x_spl, x_os, x_bind, x_bindN, x_ret, x_nx, x_bk, x_fin, x_sk, x_ad, x_finS, x_for, x_while, x_comp, x_join, x_ieJ, x_optV, x_and, x_or, x_andV, x_orV, x_sqif, x_rite, x_ieq, g_for, g_while, g_comp, g_nx, g_bk, g_ret, x_nx0, x_nx1, x_nx2, x_nx3, x_nx4, x_nx5, x_nx6, x_nx7, x_nx8, x_nx9, x_nx10, x_nx11, x_nx12, x_bk0, x_bk1, x_bk2, x_bk3, x_bk4, x_bk5, x_bk6, x_bk7, x_bk8, x_bk9, x_bk10, x_bk11, x_bk12, x_sk0, x_sk1, x_sk2, x_sk3, x_sk4, x_sk5, x_sk6, x_sk7, x_sk8, x_sk9, x_sk10, x_sk11, x_sk12, x_ad0, x_ad1, x_ad2, x_ad3, x_ad4, x_ad5, x_ad6, x_ad7, x_ad8, x_ad9, x_ad10, x_ad11, x_ad12, x_for0, x_for1, x_for2, x_for3, x_for4, x_for5, x_for6, x_for7, x_for8, x_for9, x_for10, x_for11, x_for12, x_while0, x_while1, x_while2, x_while3, x_while4, x_while5, x_while6, x_while7, x_while8, x_while9, x_while10, x_while11, x_while12, x_comp0, x_comp1, x_comp2, x_comp3, x_comp4, x_comp5, x_comp6, x_comp7, x_comp8, x_comp9, x_comp10, x_comp11, x_comp12, x_join0, x_join1, x_join2, x_join3, x_join4, x_join5, x_join6, x_join7, x_join8, x_join9, x_join10, x_join11, x_join12, x_ieJ0, x_ieJ1, x_ieJ2, x_ieJ3, x_ieJ4, x_ieJ5, x_ieJ6, x_ieJ7, x_ieJ8, x_ieJ9, x_ieJ10, x_ieJ11, x_ieJ12]; try exact rfl
def m_0 (x_head : List Nat) (x_cycle : List Nat) : Option ((List Nat) × (List Nat)) := mm_0.1 x_head x_cycle
theorem s_0 {N : Nat} (h : 1 ≤ N) (x_head : List Nat) (x_cycle : List Nat) : callI N 0 [⟨.fz, inj x_head⟩, ⟨.fz, inj x_cycle⟩] = outO (fun a : (List Nat) × (List Nat) => CR.ok (inj a) false []) (m_0 x_head x_cycle) := by
  obtain ⟨n, rfl⟩ := Nat.exists_eq_add_of_le' h
  exact (cm_0 n x_head x_cycle).2.trans (congrArg (outO (fun a : (List Nat) × (List Nat) => CR.ok (inj a) false [])) (mm_0.2 n x_head x_cycle))
def cm_1 (n : Nat) (x_row : (List Nat) × (List Nat)) : Gm (AO (fun a : List Nat => CR.ok (inj a) false [])) (callI (n + 1) 1 [⟨.fz, inj x_row⟩]) := by
  refine x_of (b := fin (endK [⟨.fz, inj x_row⟩]) ((cmp_1 (callI (n + 0))).1 [some ⟨.fz, inj x_row⟩])) ((ci_1 (n + 0) _).trans (run_fin rfl rfl)) ?_
  refine x_of (b := ?_) ?_ ?_
  rotate_left
  · simp only [cmp_1]; array_get_dec; exact rfl
  · repeat' (first | (first | with_reducible refine x_ite ?_ ?_ | (with_reducible refine x_osO ?_ (fun _ => ?_) <;> (refine x_of (b := ?_) ?_ ?_; rotate_left; (array_get_dec; exact rfl))) | with_reducible refine x_os (fun _ => ?_) | with_reducible refine x_bind (fun _ => ?_) | with_reducible refine x_bindN (fun _ => ?_) | (with_reducible refine x_and ?_ (fun _ => ?_) <;> (refine x_of (b := ?_) ?_ ?_; rotate_left; (array_get_dec; exact rfl))) | (with_reducible refine x_or ?_ (fun _ => ?_) <;> (refine x_of (b := ?_) ?_ ?_; rotate_left; (array_get_dec; exact rfl))) | (with_reducible refine x_andV ?_ (fun _ => ?_) <;> (refine x_of (b := ?_) ?_ ?_; rotate_left; (array_get_dec; exact rfl))) | (with_reducible refine x_orV ?_ (fun _ => ?_) <;> (refine x_of (b := ?_) ?_ ?_; rotate_left; (array_get_dec; exact rfl))) | (with_reducible refine x_rite ?_ ?_ <;> (refine x_of (b := ?_) ?_ ?_; rotate_left; (array_get_dec; exact rfl))) | (with_reducible refine g_ad ?_; exact x_ad _ () rfl rfl) | with_reducible refine x_fin ?_ | with_reducible refine x_finS ?_ | with_reducible exact x_noC | with_reducible exact x_noO) | (with_reducible refine g_retO ?_; exact x_retO _ rfl) | (with_reducible refine x_ieq ⟨12, 11, 12, 51⟩ ?_ ?_ <;> (refine x_of (b := ?_) ?_ ?_; rotate_left; (array_get_dec; exact rfl))) | (refine x_of (b := ?_) ?_ ?_; rotate_left; (array_get_dec; exact rfl); (first | (first | with_reducible refine x_ite ?_ ?_ | (with_reducible refine x_osO ?_ (fun _ => ?_) <;> (refine x_of (b := ?_) ?_ ?_; rotate_left; (array_get_dec; exact rfl))) | with_reducible refine x_os (fun _ => ?_) | with_reducible refine x_bind (fun _ => ?_) | with_reducible refine x_bindN (fun _ => ?_) | (with_reducible refine x_and ?_ (fun _ => ?_) <;> (refine x_of (b := ?_) ?_ ?_; rotate_left; (array_get_dec; exact rfl))) | (with_reducible refine x_or ?_ (fun _ => ?_) <;> (refine x_of (b := ?_) ?_ ?_; rotate_left; (array_get_dec; exact rfl))) | (with_reducible refine x_andV ?_ (fun _ => ?_) <;> (refine x_of (b := ?_) ?_ ?_; rotate_left; (array_get_dec; exact rfl))) | (with_reducible refine x_orV ?_ (fun _ => ?_) <;> (refine x_of (b := ?_) ?_ ?_; rotate_left; (array_get_dec; exact rfl))) | (with_reducible refine x_rite ?_ ?_ <;> (refine x_of (b := ?_) ?_ ?_; rotate_left; (array_get_dec; exact rfl))) | (with_reducible refine g_ad ?_; exact x_ad _ () rfl rfl) | with_reducible refine x_fin ?_ | with_reducible refine x_finS ?_ | with_reducible exact x_noC | with_reducible exact x_noO) | (with_reducible refine g_retO ?_; exact x_retO _ rfl) | (with_reducible refine x_ieq ⟨12, 11, 12, 51⟩ ?_ ?_ <;> (refine x_of (b := ?_) ?_ ?_; rotate_left; (array_get_dec; exact rfl))))))
def mm_1 : {m : ((List Nat) × (List Nat)) → Option (List Nat) // ∀ (n : Nat) (x_row : (List Nat) × (List Nat)), (cm_1 n x_row).1 = m x_row} := by
  apply Subtype.mk; intro n x_row; dsimp only [cm_1, x_noC, x_noO, x_retO, g_retO, AO, g_sk, g_ad, AC, AB, AS, x_of, x_no, x_ex, x_ite, x_osO, x_splB, x_splD, x_spl, x_os, x_bind, x_bindN, x_ret, x_nx, x_bk, x_fin, x_sk, x_ad, x_finS, x_for, x_while, x_comp, x_join, x_ieJ, x_optV, x_and, x_or, x_andV, x_orV, x_sqif, x_rite, x_ieq, g_for, g_while, g_comp, g_nx, g_bk, g_ret, x_nx0, x_nx1, x_nx2, x_nx3, x_nx4, x_nx5, x_nx6, x_nx7, x_nx8, x_nx9, x_nx10, x_nx11, x_nx12, x_bk0, x_bk1, x_bk2, x_bk3, x_bk4, x_bk5, x_bk6, x_bk7, x_bk8, x_bk9, x_bk10, x_bk11, x_bk12, x_sk0, x_sk1, x_sk2, x_sk3, x_sk4, x_sk5, x_sk6, x_sk7, x_sk8, x_sk9, x_sk10, x_sk11, x_sk12, x_ad0, x_ad1, x_ad2, x_ad3, x_ad4, x_ad5, x_ad6, x_ad7, x_ad8, x_ad9, x_ad10, x_ad11, x_ad12, x_for0, x_for1, x_for2, x_for3, x_for4, x_for5, x_for6, x_for7, x_for8, x_for9, x_for10, x_for11, x_for12, x_while0, x_while1, x_while2, x_while3, x_while4, x_while5, x_while6, x_while7, x_while8, x_while9, x_while10, x_while11, x_while12, x_comp0, x_comp1, x_comp2, x_comp3, x_comp4, x_comp5, x_comp6, x_comp7, x_comp8, x_comp9, x_comp10, x_comp11, x_comp12, x_join0, x_join1, x_join2, x_join3, x_join4, x_join5, x_join6, x_join7, x_join8, x_join9, x_join10, x_join11, x_join12, x_ieJ0, x_ieJ1, x_ieJ2, x_ieJ3, x_ieJ4, x_ieJ5, x_ieJ6, x_ieJ7, x_ieJ8, x_ieJ9, x_ieJ10, x_ieJ11, x_ieJ12]; try exact rfl
def m_1 (x_row : (List Nat) × (List Nat)) : Option (List Nat) := mm_1.1 x_row
theorem s_1 {N : Nat} (h : 1 ≤ N) (x_row : (List Nat) × (List Nat)) : callI N 1 [⟨.fz, inj x_row⟩] = outO (fun a : List Nat => CR.ok (inj a) false []) (m_1 x_row) := by
  obtain ⟨n, rfl⟩ := Nat.exists_eq_add_of_le' h
  exact (cm_1 n x_row).2.trans (congrArg (outO (fun a : List Nat => CR.ok (inj a) false [])) (mm_1.2 n x_row))
def cm_2 (n : Nat) (x_row : (List Nat) × (List Nat)) : Gm (AO (fun a : (List Nat) × (List Nat) => CR.ok (inj a) false [])) (callI (n + 1) 2 [⟨.fz, inj x_row⟩]) := by
  refine x_of (b := fin (endK [⟨.fz, inj x_row⟩]) ((cmp_2 (callI (n + 0))).1 [some ⟨.fz, inj x_row⟩, none, none])) ((ci_2 (n + 0) _).trans (run_fin rfl rfl)) ?_
  refine x_of (b := ?_) ?_ ?_
  rotate_left
  · simp only [cmp_2]; array_get_dec; exact rfl
  · repeat' (first | (first | with_reducible refine x_ite ?_ ?_ | (with_reducible refine x_osO ?_ (fun _ => ?_) <;> (refine x_of (b := ?_) ?_ ?_; rotate_left; (array_get_dec; exact rfl))) | with_reducible refine x_os (fun _ => ?_) | with_reducible refine x_bind (fun _ => ?_) | with_reducible refine x_bindN (fun _ => ?_) | (with_reducible refine x_and ?_ (fun _ => ?_) <;> (refine x_of (b := ?_) ?_ ?_; rotate_left; (array_get_dec; exact rfl))) | (with_reducible refine x_or ?_ (fun _ => ?_) <;> (refine x_of (b := ?_) ?_ ?_; rotate_left; (array_get_dec; exact rfl))) | (with_reducible refine x_andV ?_ (fun _ => ?_) <;> (refine x_of (b := ?_) ?_ ?_; rotate_left; (array_get_dec; exact rfl))) | (with_reducible refine x_orV ?_ (fun _ => ?_) <;> (refine x_of (b := ?_) ?_ ?_; rotate_left; (array_get_dec; exact rfl))) | (with_reducible refine x_rite ?_ ?_ <;> (refine x_of (b := ?_) ?_ ?_; rotate_left; (array_get_dec; exact rfl))) | (with_reducible refine g_ad ?_; exact x_ad _ () rfl rfl) | with_reducible refine x_fin ?_ | with_reducible refine x_finS ?_ | with_reducible exact x_noC | with_reducible exact x_noO) | (with_reducible refine g_retO ?_; exact x_retO _ rfl) | (with_reducible refine x_sqif ⟨15, 4, 16, 32⟩ ?_ ?_ <;> (refine x_of (b := ?_) ?_ ?_; rotate_left; (array_get_dec; exact rfl))) | (refine x_of (b := ?_) ?_ ?_; rotate_left; (array_get_dec; exact rfl); (first | (first | with_reducible refine x_ite ?_ ?_ | (with_reducible refine x_osO ?_ (fun _ => ?_) <;> (refine x_of (b := ?_) ?_ ?_; rotate_left; (array_get_dec; exact rfl))) | with_reducible refine x_os (fun _ => ?_) | with_reducible refine x_bind (fun _ => ?_) | with_reducible refine x_bindN (fun _ => ?_) | (with_reducible refine x_and ?_ (fun _ => ?_) <;> (refine x_of (b := ?_) ?_ ?_; rotate_left; (array_get_dec; exact rfl))) | (with_reducible refine x_or ?_ (fun _ => ?_) <;> (refine x_of (b := ?_) ?_ ?_; rotate_left; (array_get_dec; exact rfl))) | (with_reducible refine x_andV ?_ (fun _ => ?_) <;> (refine x_of (b := ?_) ?_ ?_; rotate_left; (array_get_dec; exact rfl))) | (with_reducible refine x_orV ?_ (fun _ => ?_) <;> (refine x_of (b := ?_) ?_ ?_; rotate_left; (array_get_dec; exact rfl))) | (with_reducible refine x_rite ?_ ?_ <;> (refine x_of (b := ?_) ?_ ?_; rotate_left; (array_get_dec; exact rfl))) | (with_reducible refine g_ad ?_; exact x_ad _ () rfl rfl) | with_reducible refine x_fin ?_ | with_reducible refine x_finS ?_ | with_reducible exact x_noC | with_reducible exact x_noO) | (with_reducible refine g_retO ?_; exact x_retO _ rfl) | (with_reducible refine x_sqif ⟨15, 4, 16, 32⟩ ?_ ?_ <;> (refine x_of (b := ?_) ?_ ?_; rotate_left; (array_get_dec; exact rfl))))))
def mm_2 : {m : ((List Nat) × (List Nat)) → Option ((List Nat) × (List Nat)) // ∀ (n : Nat) (x_row : (List Nat) × (List Nat)), (cm_2 n x_row).1 = m x_row} := by
  apply Subtype.mk; intro n x_row; dsimp only [cm_2, x_noC, x_noO, x_retO, g_retO, AO, g_sk, g_ad, AC, AB, AS, x_of, x_no, x_ex, x_ite, x_osO, x_splB, x_splD, x_spl, x_os, x_bind, x_bindN, x_ret, x_nx, x_bk, x_fin, x_sk, x_ad, x_finS, x_for, x_while, x_comp, x_join, x_ieJ, x_optV, x_and, x_or, x_andV, x_orV, x_sqif, x_rite, x_ieq, g_for, g_while, g_comp, g_nx, g_bk, g_ret, x_nx0, x_nx1, x_nx2, x_nx3, x_nx4, x_nx5, x_nx6, x_nx7, x_nx8, x_nx9, x_nx10, x_nx11, x_nx12, x_bk0, x_bk1, x_bk2, x_bk3, x_bk4, x_bk5, x_bk6, x_bk7, x_bk8, x_bk9, x_bk10, x_bk11, x_bk12, x_sk0, x_sk1, x_sk2, x_sk3, x_sk4, x_sk5, x_sk6, x_sk7, x_sk8, x_sk9, x_sk10, x_sk11, x_sk12, x_ad0, x_ad1, x_ad2, x_ad3, x_ad4, x_ad5, x_ad6, x_ad7, x_ad8, x_ad9, x_ad10, x_ad11, x_ad12, x_for0, x_for1, x_for2, x_for3, x_for4, x_for5, x_for6, x_for7, x_for8, x_for9, x_for10, x_for11, x_for12, x_while0, x_while1, x_while2, x_while3, x_while4, x_while5, x_while6, x_while7, x_while8, x_while9, x_while10, x_while11, x_while12, x_comp0, x_comp1, x_comp2, x_comp3, x_comp4, x_comp5, x_comp6, x_comp7, x_comp8, x_comp9, x_comp10, x_comp11, x_comp12, x_join0, x_join1, x_join2, x_join3, x_join4, x_join5, x_join6, x_join7, x_join8, x_join9, x_join10, x_join11, x_join12, x_ieJ0, x_ieJ1, x_ieJ2, x_ieJ3, x_ieJ4, x_ieJ5, x_ieJ6, x_ieJ7, x_ieJ8, x_ieJ9, x_ieJ10, x_ieJ11, x_ieJ12]; try exact rfl
def m_2 (x_row : (List Nat) × (List Nat)) : Option ((List Nat) × (List Nat)) := mm_2.1 x_row
theorem s_2 {N : Nat} (h : 1 ≤ N) (x_row : (List Nat) × (List Nat)) : callI N 2 [⟨.fz, inj x_row⟩] = outO (fun a : (List Nat) × (List Nat) => CR.ok (inj a) false []) (m_2 x_row) := by
  obtain ⟨n, rfl⟩ := Nat.exists_eq_add_of_le' h
  exact (cm_2 n x_row).2.trans (congrArg (outO (fun a : (List Nat) × (List Nat) => CR.ok (inj a) false [])) (mm_2.2 n x_row))
def cm_3 (n : Nat) (x_script : List Int) (x_k : Int) : Gm (AO (fun a : MS => CR.ok (injM a) true [])) (callI (n + 1) 3 [⟨.fz, inj x_script⟩, ⟨.fz, inj x_k⟩]) := by
  refine x_of (b := fin (endK [⟨.fz, inj x_script⟩, ⟨.fz, inj x_k⟩]) ((cmp_3 (callI (n + 0))).1 [some ⟨.fz, inj x_script⟩, some ⟨.fz, inj x_k⟩, none, none, none, Jk.s Jk.n])) ((ci_3 (n + 0) _).trans (run_fin rfl rfl)) ?_
  refine x_of (b := ?_) ?_ ?_
  rotate_left
  · simp only [cmp_3]; array_get_dec; exact rfl
  · repeat' (first | (first | with_reducible refine x_ite ?_ ?_ | (with_reducible refine x_osO ?_ (fun _ => ?_) <;> (refine x_of (b := ?_) ?_ ?_; rotate_left; (array_get_dec; exact rfl))) | with_reducible refine x_os (fun _ => ?_) | with_reducible refine x_bind (fun _ => ?_) | with_reducible refine x_bindN (fun _ => ?_) | (with_reducible refine x_and ?_ (fun _ => ?_) <;> (refine x_of (b := ?_) ?_ ?_; rotate_left; (array_get_dec; exact rfl))) | (with_reducible refine x_or ?_ (fun _ => ?_) <;> (refine x_of (b := ?_) ?_ ?_; rotate_left; (array_get_dec; exact rfl))) | (with_reducible refine x_andV ?_ (fun _ => ?_) <;> (refine x_of (b := ?_) ?_ ?_; rotate_left; (array_get_dec; exact rfl))) | (with_reducible refine x_orV ?_ (fun _ => ?_) <;> (refine x_of (b := ?_) ?_ ?_; rotate_left; (array_get_dec; exact rfl))) | (with_reducible refine x_rite ?_ ?_ <;> (refine x_of (b := ?_) ?_ ?_; rotate_left; (array_get_dec; exact rfl))) | (with_reducible refine g_ad ?_; exact x_ad _ () rfl rfl) | with_reducible refine x_fin ?_ | with_reducible refine x_finS ?_ | with_reducible exact x_noC | with_reducible exact x_noO) | (with_reducible refine g_retO ?_; exact x_retO _ rfl) | (with_reducible refine g_nx ?_; exact x_nx2 _ _ rfl) | (with_reducible refine g_bk ?_; exact x_bk2 _ _ rfl) | (with_reducible refine g_sk ?_; exact x_sk0  rfl) | (with_reducible refine g_ad ?_; exact x_ad0 _  rfl rfl) | (with_reducible refine g_for ⟨23, 4, 24, 52⟩ ?_; refine x_for2 ⟨23, 4, 24, 52⟩ (fun ρ => fun (a0 : Int) (a1 : Jk) => ((ρ.set 4 (some ⟨.fz, inj (a0)⟩)).set 5 ((Jk.s a1)))) _ _ rfl (fun s x => ?_) (fun s => ?_) <;> (refine x_of (b := ?_) ?_ ?_; rotate_left; (array_get_dec; exact rfl))) | (with_reducible refine x_ieq ⟨25, 20, 25, 50⟩ ?_ ?_ <;> (refine x_of (b := ?_) ?_ ?_; rotate_left; (array_get_dec; exact rfl))) | (with_reducible refine g_comp ⟨21, 12, 21, 56⟩ ?_; refine x_comp0 (γ := Int) ⟨21, 12, 21, 56⟩ (fun ρ => ρ)  rfl (fun s x => ?_) (fun ds s => ?_) <;> (refine x_of (b := ?_) ?_ ?_; rotate_left; (array_get_dec; exact rfl))) | (refine x_of (b := ?_) ?_ ?_; rotate_left; (array_get_dec; exact rfl); (first | (first | with_reducible refine x_ite ?_ ?_ | (with_reducible refine x_osO ?_ (fun _ => ?_) <;> (refine x_of (b := ?_) ?_ ?_; rotate_left; (array_get_dec; exact rfl))) | with_reducible refine x_os (fun _ => ?_) | with_reducible refine x_bind (fun _ => ?_) | with_reducible refine x_bindN (fun _ => ?_) | (with_reducible refine x_and ?_ (fun _ => ?_) <;> (refine x_of (b := ?_) ?_ ?_; rotate_left; (array_get_dec; exact rfl))) | (with_reducible refine x_or ?_ (fun _ => ?_) <;> (refine x_of (b := ?_) ?_ ?_; rotate_left; (array_get_dec; exact rfl))) | (with_reducible refine x_andV ?_ (fun _ => ?_) <;> (refine x_of (b := ?_) ?_ ?_; rotate_left; (array_get_dec; exact rfl))) | (with_reducible refine x_orV ?_ (fun _ => ?_) <;> (refine x_of (b := ?_) ?_ ?_; rotate_left; (array_get_dec; exact rfl))) | (with_reducible refine x_rite ?_ ?_ <;> (refine x_of (b := ?_) ?_ ?_; rotate_left; (array_get_dec; exact rfl))) | (with_reducible refine g_ad ?_; exact x_ad _ () rfl rfl) | with_reducible refine x_fin ?_ | with_reducible refine x_finS ?_ | with_reducible exact x_noC | with_reducible exact x_noO) | (with_reducible refine g_retO ?_; exact x_retO _ rfl) | (with_reducible refine g_nx ?_; exact x_nx2 _ _ rfl) | (with_reducible refine g_bk ?_; exact x_bk2 _ _ rfl) | (with_reducible refine g_sk ?_; exact x_sk0  rfl) | (with_reducible refine g_ad ?_; exact x_ad0 _  rfl rfl) | (with_reducible refine g_for ⟨23, 4, 24, 52⟩ ?_; refine x_for2 ⟨23, 4, 24, 52⟩ (fun ρ => fun (a0 : Int) (a1 : Jk) => ((ρ.set 4 (some ⟨.fz, inj (a0)⟩)).set 5 ((Jk.s a1)))) _ _ rfl (fun s x => ?_) (fun s => ?_) <;> (refine x_of (b := ?_) ?_ ?_; rotate_left; (array_get_dec; exact rfl))) | (with_reducible refine x_ieq ⟨25, 20, 25, 50⟩ ?_ ?_ <;> (refine x_of (b := ?_) ?_ ?_; rotate_left; (array_get_dec; exact rfl))) | (with_reducible refine g_comp ⟨21, 12, 21, 56⟩ ?_; refine x_comp0 (γ := Int) ⟨21, 12, 21, 56⟩ (fun ρ => ρ)  rfl (fun s x => ?_) (fun ds s => ?_) <;> (refine x_of (b := ?_) ?_ ?_; rotate_left; (array_get_dec; exact rfl))))))
def mm_3 : {m : (List Int) → Int → Option (MS) // ∀ (n : Nat) (x_script : List Int) (x_k : Int), (cm_3 n x_script x_k).1 = m x_script x_k} := by
  apply Subtype.mk; intro n x_script x_k; dsimp only [cm_3, x_noC, x_noO, x_retO, g_retO, AO, g_sk, g_ad, AC, AB, AS, x_of, x_no, x_ex, x_ite, x_osO, x_splB, x_splD, x_spl, x_os, x_bind, x_bindN, x_ret, x_nx, x_bk, x_fin, x_sk, x_ad, x_finS, x_for, x_while, x_comp, x_join, x_ieJ, x_optV, x_and, x_or, x_andV, x_orV, x_sqif, x_rite, x_ieq, g_for, g_while, g_comp, g_nx, g_bk, g_ret, x_nx0, x_nx1, x_nx2, x_nx3, x_nx4, x_nx5, x_nx6, x_nx7, x_nx8, x_nx9, x_nx10, x_nx11, x_nx12, x_bk0, x_bk1, x_bk2, x_bk3, x_bk4, x_bk5, x_bk6, x_bk7, x_bk8, x_bk9, x_bk10, x_bk11, x_bk12, x_sk0, x_sk1, x_sk2, x_sk3, x_sk4, x_sk5, x_sk6, x_sk7, x_sk8, x_sk9, x_sk10, x_sk11, x_sk12, x_ad0, x_ad1, x_ad2, x_ad3, x_ad4, x_ad5, x_ad6, x_ad7, x_ad8, x_ad9, x_ad10, x_ad11, x_ad12, x_for0, x_for1, x_for2, x_for3, x_for4, x_for5, x_for6, x_for7, x_for8, x_for9, x_for10, x_for11, x_for12, x_while0, x_while1, x_while2, x_while3, x_while4, x_while5, x_while6, x_while7, x_while8, x_while9, x_while10, x_while11, x_while12, x_comp0, x_comp1, x_comp2, x_comp3, x_comp4, x_comp5, x_comp6, x_comp7, x_comp8, x_comp9, x_comp10, x_comp11, x_comp12, x_join0, x_join1, x_join2, x_join3, x_join4, x_join5, x_join6, x_join7, x_join8, x_join9, x_join10, x_join11, x_join12, x_ieJ0, x_ieJ1, x_ieJ2, x_ieJ3, x_ieJ4, x_ieJ5, x_ieJ6, x_ieJ7, x_ieJ8, x_ieJ9, x_ieJ10, x_ieJ11, x_ieJ12]; try exact rfl
def m_3 (x_script : List Int) (x_k : Int) : Option (MS) := mm_3.1 x_script x_k
theorem s_3 {N : Nat} (h : 1 ≤ N) (x_script : List Int) (x_k : Int) : callI N 3 [⟨.fz, inj x_script⟩, ⟨.fz, inj x_k⟩] = outO (fun a : MS => CR.ok (injM a) true []) (m_3 x_script x_k) := by
  obtain ⟨n, rfl⟩ := Nat.exists_eq_add_of_le' h
  exact (cm_3 n x_script x_k).2.trans (congrArg (outO (fun a : MS => CR.ok (injM a) true [])) (mm_3.2 n x_script x_k))
def cm_4 (n : Nat) (x_m : MS) (x_below : Int) : Gm (AO (fun a : Int × MS => CR.ok (inj a.1) false [⟨.lent, injM a.2⟩])) (callI (n + 1) 4 [⟨.lent, injM x_m⟩, ⟨.fz, inj x_below⟩]) := by
  refine x_of (b := fin (endK [⟨.lent, injM x_m⟩, ⟨.fz, inj x_below⟩]) ((cmp_4 (callI (n + 0))).1 [some ⟨.lent, injM x_m⟩, some ⟨.fz, inj x_below⟩, none, none, none, none, none, none])) ((ci_4 (n + 0) _).trans (run_fin rfl rfl)) ?_
  refine x_of (b := ?_) ?_ ?_
  rotate_left
  · simp only [cmp_4]; array_get_dec; exact rfl
  · repeat' (first | (first | with_reducible refine x_ite ?_ ?_ | (with_reducible refine x_osO ?_ (fun _ => ?_) <;> (refine x_of (b := ?_) ?_ ?_; rotate_left; (array_get_dec; exact rfl))) | with_reducible refine x_os (fun _ => ?_) | with_reducible refine x_bind (fun _ => ?_) | with_reducible refine x_bindN (fun _ => ?_) | (with_reducible refine x_and ?_ (fun _ => ?_) <;> (refine x_of (b := ?_) ?_ ?_; rotate_left; (array_get_dec; exact rfl))) | (with_reducible refine x_or ?_ (fun _ => ?_) <;> (refine x_of (b := ?_) ?_ ?_; rotate_left; (array_get_dec; exact rfl))) | (with_reducible refine x_andV ?_ (fun _ => ?_) <;> (refine x_of (b := ?_) ?_ ?_; rotate_left; (array_get_dec; exact rfl))) | (with_reducible refine x_orV ?_ (fun _ => ?_) <;> (refine x_of (b := ?_) ?_ ?_; rotate_left; (array_get_dec; exact rfl))) | (with_reducible refine x_rite ?_ ?_ <;> (refine x_of (b := ?_) ?_ ?_; rotate_left; (array_get_dec; exact rfl))) | (with_reducible refine g_ad ?_; exact x_ad _ () rfl rfl) | with_reducible refine x_fin ?_ | with_reducible refine x_finS ?_ | with_reducible exact x_noC | with_reducible exact x_noO) | (with_reducible refine g_retO ?_; exact x_retO (_, _) rfl) | (with_reducible refine x_sqif ⟨27, 4, 30, 20⟩ ?_ ?_ <;> (refine x_of (b := ?_) ?_ ?_; rotate_left; (array_get_dec; exact rfl))) | (refine x_of (b := ?_) ?_ ?_; rotate_left; (array_get_dec; exact rfl); (first | (first | with_reducible refine x_ite ?_ ?_ | (with_reducible refine x_osO ?_ (fun _ => ?_) <;> (refine x_of (b := ?_) ?_ ?_; rotate_left; (array_get_dec; exact rfl))) | with_reducible refine x_os (fun _ => ?_) | with_reducible refine x_bind (fun _ => ?_) | with_reducible refine x_bindN (fun _ => ?_) | (with_reducible refine x_and ?_ (fun _ => ?_) <;> (refine x_of (b := ?_) ?_ ?_; rotate_left; (array_get_dec; exact rfl))) | (with_reducible refine x_or ?_ (fun _ => ?_) <;> (refine x_of (b := ?_) ?_ ?_; rotate_left; (array_get_dec; exact rfl))) | (with_reducible refine x_andV ?_ (fun _ => ?_) <;> (refine x_of (b := ?_) ?_ ?_; rotate_left; (array_get_dec; exact rfl))) | (with_reducible refine x_orV ?_ (fun _ => ?_) <;> (refine x_of (b := ?_) ?_ ?_; rotate_left; (array_get_dec; exact rfl))) | (with_reducible refine x_rite ?_ ?_ <;> (refine x_of (b := ?_) ?_ ?_; rotate_left; (array_get_dec; exact rfl))) | (with_reducible refine g_ad ?_; exact x_ad _ () rfl rfl) | with_reducible refine x_fin ?_ | with_reducible refine x_finS ?_ | with_reducible exact x_noC | with_reducible exact x_noO) | (with_reducible refine g_retO ?_; exact x_retO (_, _) rfl) | (with_reducible refine x_sqif ⟨27, 4, 30, 20⟩ ?_ ?_ <;> (refine x_of (b := ?_) ?_ ?_; rotate_left; (array_get_dec; exact rfl))))))
def mm_4 : {m : MS → Int → Option (Int × MS) // ∀ (n : Nat) (x_m : MS) (x_below : Int), (cm_4 n x_m x_below).1 = m x_m x_below} := by
  apply Subtype.mk; intro n x_m x_below; dsimp only [cm_4, x_noC, x_noO, x_retO, g_retO, AO, g_sk, g_ad, AC, AB, AS, x_of, x_no, x_ex, x_ite, x_osO, x_splB, x_splD, x_spl, x_os, x_bind, x_bindN, x_ret, x_nx, x_bk, x_fin, x_sk, x_ad, x_finS, x_for, x_while, x_comp, x_join, x_ieJ, x_optV, x_and, x_or, x_andV, x_orV, x_sqif, x_rite, x_ieq, g_for, g_while, g_comp, g_nx, g_bk, g_ret, x_nx0, x_nx1, x_nx2, x_nx3, x_nx4, x_nx5, x_nx6, x_nx7, x_nx8, x_nx9, x_nx10, x_nx11, x_nx12, x_bk0, x_bk1, x_bk2, x_bk3, x_bk4, x_bk5, x_bk6, x_bk7, x_bk8, x_bk9, x_bk10, x_bk11, x_bk12, x_sk0, x_sk1, x_sk2, x_sk3, x_sk4, x_sk5, x_sk6, x_sk7, x_sk8, x_sk9, x_sk10, x_sk11, x_sk12, x_ad0, x_ad1, x_ad2, x_ad3, x_ad4, x_ad5, x_ad6, x_ad7, x_ad8, x_ad9, x_ad10, x_ad11, x_ad12, x_for0, x_for1, x_for2, x_for3, x_for4, x_for5, x_for6, x_for7, x_for8, x_for9, x_for10, x_for11, x_for12, x_while0, x_while1, x_while2, x_while3, x_while4, x_while5, x_while6, x_while7, x_while8, x_while9, x_while10, x_while11, x_while12, x_comp0, x_comp1, x_comp2, x_comp3, x_comp4, x_comp5, x_comp6, x_comp7, x_comp8, x_comp9, x_comp10, x_comp11, x_comp12, x_join0, x_join1, x_join2, x_join3, x_join4, x_join5, x_join6, x_join7, x_join8, x_join9, x_join10, x_join11, x_join12, x_ieJ0, x_ieJ1, x_ieJ2, x_ieJ3, x_ieJ4, x_ieJ5, x_ieJ6, x_ieJ7, x_ieJ8, x_ieJ9, x_ieJ10, x_ieJ11, x_ieJ12]; try exact rfl
def m_4 (x_m : MS) (x_below : Int) : Option (Int × MS) := mm_4.1 x_m x_below
theorem s_4 {N : Nat} (h : 1 ≤ N) (x_m : MS) (x_below : Int) : callI N 4 [⟨.lent, injM x_m⟩, ⟨.fz, inj x_below⟩] = outO (fun a : Int × MS => CR.ok (inj a.1) false [⟨.lent, injM a.2⟩]) (m_4 x_m x_below) := by
  obtain ⟨n, rfl⟩ := Nat.exists_eq_add_of_le' h
  exact (cm_4 n x_m x_below).2.trans (congrArg (outO (fun a : Int × MS => CR.ok (inj a.1) false [⟨.lent, injM a.2⟩])) (mm_4.2 n x_m x_below))
def cm_6 (n : Nat) (x_row : (List Nat) × (List Nat)) (x_k : Int) : Gm (AO (fun a : List Nat => CR.ok (inj a) false [])) (callI (n + 1) 6 [⟨.fz, inj x_row⟩, ⟨.fz, inj x_k⟩]) := by
  refine x_of (b := fin (endK [⟨.fz, inj x_row⟩, ⟨.fz, inj x_k⟩]) ((cmp_6 (callI (n + 0))).1 [some ⟨.fz, inj x_row⟩, some ⟨.fz, inj x_k⟩])) ((ci_6 (n + 0) _).trans (run_fin rfl rfl)) ?_
  refine x_of (b := ?_) ?_ ?_
  rotate_left
  · simp only [cmp_6]; array_get_dec; exact rfl
  · repeat' (first | (first | with_reducible refine x_ite ?_ ?_ | (with_reducible refine x_osO ?_ (fun _ => ?_) <;> (refine x_of (b := ?_) ?_ ?_; rotate_left; (array_get_dec; exact rfl))) | with_reducible refine x_os (fun _ => ?_) | with_reducible refine x_bind (fun _ => ?_) | with_reducible refine x_bindN (fun _ => ?_) | (with_reducible refine x_and ?_ (fun _ => ?_) <;> (refine x_of (b := ?_) ?_ ?_; rotate_left; (array_get_dec; exact rfl))) | (with_reducible refine x_or ?_ (fun _ => ?_) <;> (refine x_of (b := ?_) ?_ ?_; rotate_left; (array_get_dec; exact rfl))) | (with_reducible refine x_andV ?_ (fun _ => ?_) <;> (refine x_of (b := ?_) ?_ ?_; rotate_left; (array_get_dec; exact rfl))) | (with_reducible refine x_orV ?_ (fun _ => ?_) <;> (refine x_of (b := ?_) ?_ ?_; rotate_left; (array_get_dec; exact rfl))) | (with_reducible refine x_rite ?_ ?_ <;> (refine x_of (b := ?_) ?_ ?_; rotate_left; (array_get_dec; exact rfl))) | (with_reducible refine g_ad ?_; exact x_ad _ () rfl rfl) | with_reducible refine x_fin ?_ | with_reducible refine x_finS ?_ | with_reducible exact x_noC | with_reducible exact x_noO) | (with_reducible refine g_retO ?_; exact x_retO _ rfl) | (with_reducible refine x_ieq ⟨41, 11, 41, 87⟩ ?_ ?_ <;> (refine x_of (b := ?_) ?_ ?_; rotate_left; (array_get_dec; exact rfl))) | (refine x_of (b := ?_) ?_ ?_; rotate_left; (array_get_dec; exact rfl); (first | (first | with_reducible refine x_ite ?_ ?_ | (with_reducible refine x_osO ?_ (fun _ => ?_) <;> (refine x_of (b := ?_) ?_ ?_; rotate_left; (array_get_dec; exact rfl))) | with_reducible refine x_os (fun _ => ?_) | with_reducible refine x_bind (fun _ => ?_) | with_reducible refine x_bindN (fun _ => ?_) | (with_reducible refine x_and ?_ (fun _ => ?_) <;> (refine x_of (b := ?_) ?_ ?_; rotate_left; (array_get_dec; exact rfl))) | (with_reducible refine x_or ?_ (fun _ => ?_) <;> (refine x_of (b := ?_) ?_ ?_; rotate_left; (array_get_dec; exact rfl))) | (with_reducible refine x_andV ?_ (fun _ => ?_) <;> (refine x_of (b := ?_) ?_ ?_; rotate_left; (array_get_dec; exact rfl))) | (with_reducible refine x_orV ?_ (fun _ => ?_) <;> (refine x_of (b := ?_) ?_ ?_; rotate_left; (array_get_dec; exact rfl))) | (with_reducible refine x_rite ?_ ?_ <;> (refine x_of (b := ?_) ?_ ?_; rotate_left; (array_get_dec; exact rfl))) | (with_reducible refine g_ad ?_; exact x_ad _ () rfl rfl) | with_reducible refine x_fin ?_ | with_reducible refine x_finS ?_ | with_reducible exact x_noC | with_reducible exact x_noO) | (with_reducible refine g_retO ?_; exact x_retO _ rfl) | (with_reducible refine x_ieq ⟨41, 11, 41, 87⟩ ?_ ?_ <;> (refine x_of (b := ?_) ?_ ?_; rotate_left; (array_get_dec; exact rfl))))))
def mm_6 : {m : ((List Nat) × (List Nat)) → Int → Option (List Nat) // ∀ (n : Nat) (x_row : (List Nat) × (List Nat)) (x_k : Int), (cm_6 n x_row x_k).1 = m x_row x_k} := by
  apply Subtype.mk; intro n x_row x_k; dsimp only [cm_6, x_noC, x_noO, x_retO, g_retO, AO, g_sk, g_ad, AC, AB, AS, x_of, x_no, x_ex, x_ite, x_osO, x_splB, x_splD, x_spl, x_os, x_bind, x_bindN, x_ret, x_nx, x_bk, x_fin, x_sk, x_ad, x_finS, x_for, x_while, x_comp, x_join, x_ieJ, x_optV, x_and, x_or, x_andV, x_orV, x_sqif, x_rite, x_ieq, g_for, g_while, g_comp, g_nx, g_bk, g_ret, x_nx0, x_nx1, x_nx2, x_nx3, x_nx4, x_nx5, x_nx6, x_nx7, x_nx8, x_nx9, x_nx10, x_nx11, x_nx12, x_bk0, x_bk1, x_bk2, x_bk3, x_bk4, x_bk5, x_bk6, x_bk7, x_bk8, x_bk9, x_bk10, x_bk11, x_bk12, x_sk0, x_sk1, x_sk2, x_sk3, x_sk4, x_sk5, x_sk6, x_sk7, x_sk8, x_sk9, x_sk10, x_sk11, x_sk12, x_ad0, x_ad1, x_ad2, x_ad3, x_ad4, x_ad5, x_ad6, x_ad7, x_ad8, x_ad9, x_ad10, x_ad11, x_ad12, x_for0, x_for1, x_for2, x_for3, x_for4, x_for5, x_for6, x_for7, x_for8, x_for9, x_for10, x_for11, x_for12, x_while0, x_while1, x_while2, x_while3, x_while4, x_while5, x_while6, x_while7, x_while8, x_while9, x_while10, x_while11, x_while12, x_comp0, x_comp1, x_comp2, x_comp3, x_comp4, x_comp5, x_comp6, x_comp7, x_comp8, x_comp9, x_comp10, x_comp11, x_comp12, x_join0, x_join1, x_join2, x_join3, x_join4, x_join5, x_join6, x_join7, x_join8, x_join9, x_join10, x_join11, x_join12, x_ieJ0, x_ieJ1, x_ieJ2, x_ieJ3, x_ieJ4, x_ieJ5, x_ieJ6, x_ieJ7, x_ieJ8, x_ieJ9, x_ieJ10, x_ieJ11, x_ieJ12]; try exact rfl
def m_6 (x_row : (List Nat) × (List Nat)) (x_k : Int) : Option (List Nat) := mm_6.1 x_row x_k
theorem s_6 {N : Nat} (h : 1 ≤ N) (x_row : (List Nat) × (List Nat)) (x_k : Int) : callI N 6 [⟨.fz, inj x_row⟩, ⟨.fz, inj x_k⟩] = outO (fun a : List Nat => CR.ok (inj a) false []) (m_6 x_row x_k) := by
  obtain ⟨n, rfl⟩ := Nat.exists_eq_add_of_le' h
  exact (cm_6 n x_row x_k).2.trans (congrArg (outO (fun a : List Nat => CR.ok (inj a) false [])) (mm_6.2 n x_row x_k))
def cm_7 (n : Nat) (x_head : List Nat) (x_cycle : List Nat) : Gm (AO (fun a : (List Nat) × (List Nat) => CR.ok (inj a) false [])) (callI (n + 1) 7 [⟨.fz, inj x_head⟩, ⟨.fz, inj x_cycle⟩]) := by
  refine x_of (b := fin (endK [⟨.fz, inj x_head⟩, ⟨.fz, inj x_cycle⟩]) ((cmp_7 (callI (n + 0))).1 [some ⟨.fz, inj x_head⟩, some ⟨.fz, inj x_cycle⟩, Jk.s Jk.n, Jk.s Jk.n])) ((ci_7 (n + 0) _).trans (run_fin rfl rfl)) ?_
  refine x_of (b := ?_) ?_ ?_
  rotate_left
  · simp only [cmp_7]; array_get_dec; exact rfl
  · repeat' (first | (first | with_reducible refine x_ite ?_ ?_ | (with_reducible refine x_osO ?_ (fun _ => ?_) <;> (refine x_of (b := ?_) ?_ ?_; rotate_left; (array_get_dec; exact rfl))) | with_reducible refine x_os (fun _ => ?_) | with_reducible refine x_bind (fun _ => ?_) | with_reducible refine x_bindN (fun _ => ?_) | (with_reducible refine x_and ?_ (fun _ => ?_) <;> (refine x_of (b := ?_) ?_ ?_; rotate_left; (array_get_dec; exact rfl))) | (with_reducible refine x_or ?_ (fun _ => ?_) <;> (refine x_of (b := ?_) ?_ ?_; rotate_left; (array_get_dec; exact rfl))) | (with_reducible refine x_andV ?_ (fun _ => ?_) <;> (refine x_of (b := ?_) ?_ ?_; rotate_left; (array_get_dec; exact rfl))) | (with_reducible refine x_orV ?_ (fun _ => ?_) <;> (refine x_of (b := ?_) ?_ ?_; rotate_left; (array_get_dec; exact rfl))) | (with_reducible refine x_rite ?_ ?_ <;> (refine x_of (b := ?_) ?_ ?_; rotate_left; (array_get_dec; exact rfl))) | (with_reducible refine g_ad ?_; exact x_ad _ () rfl rfl) | with_reducible refine x_fin ?_ | with_reducible refine x_finS ?_ | with_reducible exact x_noC | with_reducible exact x_noO) | (with_reducible refine g_retO ?_; exact x_retO _ rfl) | (with_reducible refine g_nx ?_; exact x_nx2 _ _ rfl) | (with_reducible refine g_bk ?_; exact x_bk2 _ _ rfl) | (with_reducible refine g_nx ?_; exact x_nx3 _ _ _ rfl) | (with_reducible refine g_bk ?_; exact x_bk3 _ _ _ rfl) | (with_reducible refine g_for ⟨43, 4, 46, 17⟩ ?_; refine x_for2 ⟨43, 4, 46, 17⟩ (fun ρ => fun (a0 : List Nat) (a1 : Jk) => ((ρ.set 1 (some ⟨.fz, inj (a0)⟩)).set 2 ((Jk.s a1)))) _ _ rfl (fun s x => ?_) (fun s => ?_) <;> (refine x_of (b := ?_) ?_ ?_; rotate_left; (array_get_dec; exact rfl))) | (with_reducible refine g_for ⟨47, 4, 49, 61⟩ ?_; refine x_for3 ⟨47, 4, 49, 61⟩ (fun ρ => fun (a0 : List Nat) (a1 : List Nat) (a2 : Jk) => (((ρ.set 0 (some ⟨.fz, inj (a0)⟩)).set 1 (some ⟨.fz, inj (a1)⟩)).set 3 ((Jk.s a2)))) _ _ _ rfl (fun s x => ?_) (fun s => ?_) <;> (refine x_of (b := ?_) ?_ ?_; rotate_left; (array_get_dec; exact rfl))) | (with_reducible refine x_sqif ⟨44, 8, 46, 17⟩ ?_ ?_ <;> (refine x_of (b := ?_) ?_ ?_; rotate_left; (array_get_dec; exact rfl))) | (refine x_join2 ⟨48, 8, 49, 61⟩ (fun ρ => fun (a0 : List Nat) (a1 : List Nat) => ((ρ.set 0 (some ⟨.fz, inj (a0)⟩)).set 1 (some ⟨.fz, inj (a1)⟩))) ?_ ?_ (fun s => ?_) <;> (refine x_of (b := ?_) ?_ ?_; rotate_left; (array_get_dec; exact rfl))) | (refine x_of (b := ?_) ?_ ?_; rotate_left; (array_get_dec; exact rfl); (first | (first | with_reducible refine x_ite ?_ ?_ | (with_reducible refine x_osO ?_ (fun _ => ?_) <;> (refine x_of (b := ?_) ?_ ?_; rotate_left; (array_get_dec; exact rfl))) | with_reducible refine x_os (fun _ => ?_) | with_reducible refine x_bind (fun _ => ?_) | with_reducible refine x_bindN (fun _ => ?_) | (with_reducible refine x_and ?_ (fun _ => ?_) <;> (refine x_of (b := ?_) ?_ ?_; rotate_left; (array_get_dec; exact rfl))) | (with_reducible refine x_or ?_ (fun _ => ?_) <;> (refine x_of (b := ?_) ?_ ?_; rotate_left; (array_get_dec; exact rfl))) | (with_reducible refine x_andV ?_ (fun _ => ?_) <;> (refine x_of (b := ?_) ?_ ?_; rotate_left; (array_get_dec; exact rfl))) | (with_reducible refine x_orV ?_ (fun _ => ?_) <;> (refine x_of (b := ?_) ?_ ?_; rotate_left; (array_get_dec; exact rfl))) | (with_reducible refine x_rite ?_ ?_ <;> (refine x_of (b := ?_) ?_ ?_; rotate_left; (array_get_dec; exact rfl))) | (with_reducible refine g_ad ?_; exact x_ad _ () rfl rfl) | with_reducible refine x_fin ?_ | with_reducible refine x_finS ?_ | with_reducible exact x_noC | with_reducible exact x_noO) | (with_reducible refine g_retO ?_; exact x_retO _ rfl) | (with_reducible refine g_nx ?_; exact x_nx2 _ _ rfl) | (with_reducible refine g_bk ?_; exact x_bk2 _ _ rfl) | (with_reducible refine g_nx ?_; exact x_nx3 _ _ _ rfl) | (with_reducible refine g_bk ?_; exact x_bk3 _ _ _ rfl) | (with_reducible refine g_for ⟨43, 4, 46, 17⟩ ?_; refine x_for2 ⟨43, 4, 46, 17⟩ (fun ρ => fun (a0 : List Nat) (a1 : Jk) => ((ρ.set 1 (some ⟨.fz, inj (a0)⟩)).set 2 ((Jk.s a1)))) _ _ rfl (fun s x => ?_) (fun s => ?_) <;> (refine x_of (b := ?_) ?_ ?_; rotate_left; (array_get_dec; exact rfl))) | (with_reducible refine g_for ⟨47, 4, 49, 61⟩ ?_; refine x_for3 ⟨47, 4, 49, 61⟩ (fun ρ => fun (a0 : List Nat) (a1 : List Nat) (a2 : Jk) => (((ρ.set 0 (some ⟨.fz, inj (a0)⟩)).set 1 (some ⟨.fz, inj (a1)⟩)).set 3 ((Jk.s a2)))) _ _ _ rfl (fun s x => ?_) (fun s => ?_) <;> (refine x_of (b := ?_) ?_ ?_; rotate_left; (array_get_dec; exact rfl))) | (with_reducible refine x_sqif ⟨44, 8, 46, 17⟩ ?_ ?_ <;> (refine x_of (b := ?_) ?_ ?_; rotate_left; (array_get_dec; exact rfl))) | (refine x_join2 ⟨48, 8, 49, 61⟩ (fun ρ => fun (a0 : List Nat) (a1 : List Nat) => ((ρ.set 0 (some ⟨.fz, inj (a0)⟩)).set 1 (some ⟨.fz, inj (a1)⟩))) ?_ ?_ (fun s => ?_) <;> (refine x_of (b := ?_) ?_ ?_; rotate_left; (array_get_dec; exact rfl))))))
def mm_7 : {m : (List Nat) → (List Nat) → Option ((List Nat) × (List Nat)) // ∀ (n : Nat) (x_head : List Nat) (x_cycle : List Nat), (cm_7 n x_head x_cycle).1 = m x_head x_cycle} := by
  apply Subtype.mk; intro n x_head x_cycle; dsimp only [cm_7, x_noC, x_noO, x_retO, g_retO, AO, g_sk, g_ad, AC, AB, AS, x_of, x_no, x_ex, x_ite, x_osO, x_splB, x_splD, x_spl, x_os, x_bind, x_bindN, x_ret, x_nx, x_bk, x_fin, x_sk, x_ad, x_finS, x_for, x_while, x_comp, x_join, x_ieJ, x_optV, x_and, x_or, x_andV, x_orV, x_sqif, x_rite, x_ieq, g_for, g_while, g_comp, g_nx, g_bk, g_ret, x_nx0, x_nx1, x_nx2, x_nx3, x_nx4, x_nx5, x_nx6, x_nx7, x_nx8, x_nx9, x_nx10, x_nx11, x_nx12, x_bk0, x_bk1, x_bk2, x_bk3, x_bk4, x_bk5, x_bk6, x_bk7, x_bk8, x_bk9, x_bk10, x_bk11, x_bk12, x_sk0, x_sk1, x_sk2, x_sk3, x_sk4, x_sk5, x_sk6, x_sk7, x_sk8, x_sk9, x_sk10, x_sk11, x_sk12, x_ad0, x_ad1, x_ad2, x_ad3, x_ad4, x_ad5, x_ad6, x_ad7, x_ad8, x_ad9, x_ad10, x_ad11, x_ad12, x_for0, x_for1, x_for2, x_for3, x_for4, x_for5, x_for6, x_for7, x_for8, x_for9, x_for10, x_for11, x_for12, x_while0, x_while1, x_while2, x_while3, x_while4, x_while5, x_while6, x_while7, x_while8, x_while9, x_while10, x_while11, x_while12, x_comp0, x_comp1, x_comp2, x_comp3, x_comp4, x_comp5, x_comp6, x_comp7, x_comp8, x_comp9, x_comp10, x_comp11, x_comp12, x_join0, x_join1, x_join2, x_join3, x_join4, x_join5, x_join6, x_join7, x_join8, x_join9, x_join10, x_join11, x_join12, x_ieJ0, x_ieJ1, x_ieJ2, x_ieJ3, x_ieJ4, x_ieJ5, x_ieJ6, x_ieJ7, x_ieJ8, x_ieJ9, x_ieJ10, x_ieJ11, x_ieJ12]; try exact rfl
def m_7 (x_head : List Nat) (x_cycle : List Nat) : Option ((List Nat) × (List Nat)) := mm_7.1 x_head x_cycle
theorem s_7 {N : Nat} (h : 1 ≤ N) (x_head : List Nat) (x_cycle : List Nat) : callI N 7 [⟨.fz, inj x_head⟩, ⟨.fz, inj x_cycle⟩] = outO (fun a : (List Nat) × (List Nat) => CR.ok (inj a) false []) (m_7 x_head x_cycle) := by
  obtain ⟨n, rfl⟩ := Nat.exists_eq_add_of_le' h
  exact (cm_7 n x_head x_cycle).2.trans (congrArg (outO (fun a : (List Nat) × (List Nat) => CR.ok (inj a) false [])) (mm_7.2 n x_head x_cycle))
def cm_8 (n : Nat) (x_row : (List Nat) × (List Nat)) : Gm (AO (fun a : Bool => CR.ok (inj a) false [])) (callI (n + 1) 8 [⟨.fz, inj x_row⟩]) := by
  refine x_of (b := fin (endK [⟨.fz, inj x_row⟩]) ((cmp_8 (callI (n + 0))).1 [some ⟨.fz, inj x_row⟩, Jk.s Jk.n, none, none])) ((ci_8 (n + 0) _).trans (run_fin rfl rfl)) ?_
  refine x_of (b := ?_) ?_ ?_
  rotate_left
  · simp only [cmp_8]; array_get_dec; exact rfl
  · repeat' (first | (first | with_reducible refine x_ite ?_ ?_ | (with_reducible refine x_osO ?_ (fun _ => ?_) <;> (refine x_of (b := ?_) ?_ ?_; rotate_left; (array_get_dec; exact rfl))) | with_reducible refine x_os (fun _ => ?_) | with_reducible refine x_bind (fun _ => ?_) | with_reducible refine x_bindN (fun _ => ?_) | (with_reducible refine x_and ?_ (fun _ => ?_) <;> (refine x_of (b := ?_) ?_ ?_; rotate_left; (array_get_dec; exact rfl))) | (with_reducible refine x_or ?_ (fun _ => ?_) <;> (refine x_of (b := ?_) ?_ ?_; rotate_left; (array_get_dec; exact rfl))) | (with_reducible refine x_andV ?_ (fun _ => ?_) <;> (refine x_of (b := ?_) ?_ ?_; rotate_left; (array_get_dec; exact rfl))) | (with_reducible refine x_orV ?_ (fun _ => ?_) <;> (refine x_of (b := ?_) ?_ ?_; rotate_left; (array_get_dec; exact rfl))) | (with_reducible refine x_rite ?_ ?_ <;> (refine x_of (b := ?_) ?_ ?_; rotate_left; (array_get_dec; exact rfl))) | (with_reducible refine g_ad ?_; exact x_ad _ () rfl rfl) | with_reducible refine x_fin ?_ | with_reducible refine x_finS ?_ | with_reducible exact x_noC | with_reducible exact x_noO) | (with_reducible refine g_retO ?_; exact x_retO _ rfl) | (with_reducible refine g_nx ?_; exact x_nx1 _ rfl) | (with_reducible refine g_bk ?_; exact x_bk1 _ rfl) | (with_reducible refine g_for ⟨59, 4, 61, 24⟩ ?_; refine x_for1 ⟨59, 4, 61, 24⟩ (fun ρ => fun (a0 : Jk) => (ρ.set 1 ((Jk.s a0)))) _ rfl (fun s x => ?_) (fun s => ?_) <;> (refine x_of (b := ?_) ?_ ?_; rotate_left; (array_get_dec; exact rfl))) | (with_reducible refine x_sqif ⟨52, 4, 53, 20⟩ ?_ ?_ <;> (refine x_of (b := ?_) ?_ ?_; rotate_left; (array_get_dec; exact rfl))) | (with_reducible refine x_sqif ⟨55, 4, 56, 20⟩ ?_ ?_ <;> (refine x_of (b := ?_) ?_ ?_; rotate_left; (array_get_dec; exact rfl))) | (with_reducible refine x_sqif ⟨57, 4, 58, 20⟩ ?_ ?_ <;> (refine x_of (b := ?_) ?_ ?_; rotate_left; (array_get_dec; exact rfl))) | (with_reducible refine x_sqif ⟨60, 8, 61, 24⟩ ?_ ?_ <;> (refine x_of (b := ?_) ?_ ?_; rotate_left; (array_get_dec; exact rfl))) | (refine x_of (b := ?_) ?_ ?_; rotate_left; (array_get_dec; exact rfl); (first | (first | with_reducible refine x_ite ?_ ?_ | (with_reducible refine x_osO ?_ (fun _ => ?_) <;> (refine x_of (b := ?_) ?_ ?_; rotate_left; (array_get_dec; exact rfl))) | with_reducible refine x_os (fun _ => ?_) | with_reducible refine x_bind (fun _ => ?_) | with_reducible refine x_bindN (fun _ => ?_) | (with_reducible refine x_and ?_ (fun _ => ?_) <;> (refine x_of (b := ?_) ?_ ?_; rotate_left; (array_get_dec; exact rfl))) | (with_reducible refine x_or ?_ (fun _ => ?_) <;> (refine x_of (b := ?_) ?_ ?_; rotate_left; (array_get_dec; exact rfl))) | (with_reducible refine x_andV ?_ (fun _ => ?_) <;> (refine x_of (b := ?_) ?_ ?_; rotate_left; (array_get_dec; exact rfl))) | (with_reducible refine x_orV ?_ (fun _ => ?_) <;> (refine x_of (b := ?_) ?_ ?_; rotate_left; (array_get_dec; exact rfl))) | (with_reducible refine x_rite ?_ ?_ <;> (refine x_of (b := ?_) ?_ ?_; rotate_left; (array_get_dec; exact rfl))) | (with_reducible refine g_ad ?_; exact x_ad _ () rfl rfl) | with_reducible refine x_fin ?_ | with_reducible refine x_finS ?_ | with_reducible exact x_noC | with_reducible exact x_noO) | (with_reducible refine g_retO ?_; exact x_retO _ rfl) | (with_reducible refine g_nx ?_; exact x_nx1 _ rfl) | (with_reducible refine g_bk ?_; exact x_bk1 _ rfl) | (with_reducible refine g_for ⟨59, 4, 61, 24⟩ ?_; refine x_for1 ⟨59, 4, 61, 24⟩ (fun ρ => fun (a0 : Jk) => (ρ.set 1 ((Jk.s a0)))) _ rfl (fun s x => ?_) (fun s => ?_) <;> (refine x_of (b := ?_) ?_ ?_; rotate_left; (array_get_dec; exact rfl))) | (with_reducible refine x_sqif ⟨52, 4, 53, 20⟩ ?_ ?_ <;> (refine x_of (b := ?_) ?_ ?_; rotate_left; (array_get_dec; exact rfl))) | (with_reducible refine x_sqif ⟨55, 4, 56, 20⟩ ?_ ?_ <;> (refine x_of (b := ?_) ?_ ?_; rotate_left; (array_get_dec; exact rfl))) | (with_reducible refine x_sqif ⟨57, 4, 58, 20⟩ ?_ ?_ <;> (refine x_of (b := ?_) ?_ ?_; rotate_left; (array_get_dec; exact rfl))) | (with_reducible refine x_sqif ⟨60, 8, 61, 24⟩ ?_ ?_ <;> (refine x_of (b := ?_) ?_ ?_; rotate_left; (array_get_dec; exact rfl))))))
def mm_8 : {m : ((List Nat) × (List Nat)) → Option (Bool) // ∀ (n : Nat) (x_row : (List Nat) × (List Nat)), (cm_8 n x_row).1 = m x_row} := by
  apply Subtype.mk; intro n x_row; dsimp only [cm_8, x_noC, x_noO, x_retO, g_retO, AO, g_sk, g_ad, AC, AB, AS, x_of, x_no, x_ex, x_ite, x_osO, x_splB, x_splD, x_spl, x_os, x_bind, x_bindN, x_ret, x_nx, x_bk, x_fin, x_sk, x_ad, x_finS, x_for, x_while, x_comp, x_join, x_ieJ, x_optV, x_and, x_or, x_andV, x_orV, x_sqif, x_rite, x_ieq, g_for, g_while, g_comp, g_nx, g_bk, g_ret, x_nx0, x_nx1, x_nx2, x_nx3, x_nx4, x_nx5, x_nx6, x_nx7, x_nx8, x_nx9, x_nx10, x_nx11, x_nx12, x_bk0, x_bk1, x_bk2, x_bk3, x_bk4, x_bk5, x_bk6, x_bk7, x_bk8, x_bk9, x_bk10, x_bk11, x_bk12, x_sk0, x_sk1, x_sk2, x_sk3, x_sk4, x_sk5, x_sk6, x_sk7, x_sk8, x_sk9, x_sk10, x_sk11, x_sk12, x_ad0, x_ad1, x_ad2, x_ad3, x_ad4, x_ad5, x_ad6, x_ad7, x_ad8, x_ad9, x_ad10, x_ad11, x_ad12, x_for0, x_for1, x_for2, x_for3, x_for4, x_for5, x_for6, x_for7, x_for8, x_for9, x_for10, x_for11, x_for12, x_while0, x_while1, x_while2, x_while3, x_while4, x_while5, x_while6, x_while7, x_while8, x_while9, x_while10, x_while11, x_while12, x_comp0, x_comp1, x_comp2, x_comp3, x_comp4, x_comp5, x_comp6, x_comp7, x_comp8, x_comp9, x_comp10, x_comp11, x_comp12, x_join0, x_join1, x_join2, x_join3, x_join4, x_join5, x_join6, x_join7, x_join8, x_join9, x_join10, x_join11, x_join12, x_ieJ0, x_ieJ1, x_ieJ2, x_ieJ3, x_ieJ4, x_ieJ5, x_ieJ6, x_ieJ7, x_ieJ8, x_ieJ9, x_ieJ10, x_ieJ11, x_ieJ12]; try exact rfl
def m_8 (x_row : (List Nat) × (List Nat)) : Option (Bool) := mm_8.1 x_row
theorem s_8 {N : Nat} (h : 1 ≤ N) (x_row : (List Nat) × (List Nat)) : callI N 8 [⟨.fz, inj x_row⟩] = outO (fun a : Bool => CR.ok (inj a) false []) (m_8 x_row) := by
  obtain ⟨n, rfl⟩ := Nat.exists_eq_add_of_le' h
  exact (cm_8 n x_row).2.trans (congrArg (outO (fun a : Bool => CR.ok (inj a) false [])) (mm_8.2 n x_row))
def cm_5 (n : Nat) {α : Type} [Ty α] (x_m : MS) (x_some : List α) : Gm (AO (fun a : α × MS => CR.ok (inj a.1) false [⟨.lent, injM a.2⟩])) (callI (n + 2) 5 [⟨.lent, injM x_m⟩, ⟨.fz, inj x_some⟩]) := by
  refine x_of (b := fin (endK [⟨.lent, injM x_m⟩, ⟨.fz, inj x_some⟩]) ((cmp_5 (callI (n + 1))).1 [some ⟨.lent, injM x_m⟩, some ⟨.fz, inj x_some⟩])) ((ci_5 (n + 1) _).trans (run_fin rfl rfl)) ?_
  refine x_of (b := ?_) ?_ ?_
  rotate_left
  · simp only [cmp_5]; array_get_dec; exact rfl
  · repeat' (first | (first | with_reducible refine x_ite ?_ ?_ | (with_reducible refine x_osO ?_ (fun _ => ?_) <;> (refine x_of (b := ?_) ?_ ?_; rotate_left; (array_get_dec; exact rfl))) | with_reducible refine x_os (fun _ => ?_) | with_reducible refine x_bind (fun _ => ?_) | with_reducible refine x_bindN (fun _ => ?_) | (with_reducible refine x_and ?_ (fun _ => ?_) <;> (refine x_of (b := ?_) ?_ ?_; rotate_left; (array_get_dec; exact rfl))) | (with_reducible refine x_or ?_ (fun _ => ?_) <;> (refine x_of (b := ?_) ?_ ?_; rotate_left; (array_get_dec; exact rfl))) | (with_reducible refine x_andV ?_ (fun _ => ?_) <;> (refine x_of (b := ?_) ?_ ?_; rotate_left; (array_get_dec; exact rfl))) | (with_reducible refine x_orV ?_ (fun _ => ?_) <;> (refine x_of (b := ?_) ?_ ?_; rotate_left; (array_get_dec; exact rfl))) | (with_reducible refine x_rite ?_ ?_ <;> (refine x_of (b := ?_) ?_ ?_; rotate_left; (array_get_dec; exact rfl))) | (with_reducible refine g_ad ?_; exact x_ad _ () rfl rfl) | with_reducible refine x_fin ?_ | with_reducible refine x_finS ?_ | with_reducible exact x_noC | with_reducible exact x_noO) | (with_reducible refine g_retO ?_; exact x_retO (_, _) rfl) | (refine x_of (b := ?_) ?_ ?_; rotate_left; (first | (simp only [s_4, Nat.reduceLeDiff]; array_get_dec; exact rfl) | (array_get_dec; exact rfl)); (first | (first | with_reducible refine x_ite ?_ ?_ | (with_reducible refine x_osO ?_ (fun _ => ?_) <;> (refine x_of (b := ?_) ?_ ?_; rotate_left; (array_get_dec; exact rfl))) | with_reducible refine x_os (fun _ => ?_) | with_reducible refine x_bind (fun _ => ?_) | with_reducible refine x_bindN (fun _ => ?_) | (with_reducible refine x_and ?_ (fun _ => ?_) <;> (refine x_of (b := ?_) ?_ ?_; rotate_left; (array_get_dec; exact rfl))) | (with_reducible refine x_or ?_ (fun _ => ?_) <;> (refine x_of (b := ?_) ?_ ?_; rotate_left; (array_get_dec; exact rfl))) | (with_reducible refine x_andV ?_ (fun _ => ?_) <;> (refine x_of (b := ?_) ?_ ?_; rotate_left; (array_get_dec; exact rfl))) | (with_reducible refine x_orV ?_ (fun _ => ?_) <;> (refine x_of (b := ?_) ?_ ?_; rotate_left; (array_get_dec; exact rfl))) | (with_reducible refine x_rite ?_ ?_ <;> (refine x_of (b := ?_) ?_ ?_; rotate_left; (array_get_dec; exact rfl))) | (with_reducible refine g_ad ?_; exact x_ad _ () rfl rfl) | with_reducible refine x_fin ?_ | with_reducible refine x_finS ?_ | with_reducible exact x_noC | with_reducible exact x_noO) | (with_reducible refine g_retO ?_; exact x_retO (_, _) rfl))))
def mm_5 {α : Type} [Ty α] : {m : MS → (List α) → Option (α × MS) // ∀ (n : Nat) (x_m : MS) (x_some : List α), (cm_5 n x_m x_some).1 = m x_m x_some} := by
  apply Subtype.mk; intro n x_m x_some; dsimp only [cm_5, x_noC, x_noO, x_retO, g_retO, AO, g_sk, g_ad, AC, AB, AS, x_of, x_no, x_ex, x_ite, x_osO, x_splB, x_splD, x_spl, x_os, x_bind, x_bindN, x_ret, x_nx, x_bk, x_fin, x_sk, x_ad, x_finS, x_for, x_while, x_comp, x_join, x_ieJ, x_optV, x_and, x_or, x_andV, x_orV, x_sqif, x_rite, x_ieq, g_for, g_while, g_comp, g_nx, g_bk, g_ret, x_nx0, x_nx1, x_nx2, x_nx3, x_nx4, x_nx5, x_nx6, x_nx7, x_nx8, x_nx9, x_nx10, x_nx11, x_nx12, x_bk0, x_bk1, x_bk2, x_bk3, x_bk4, x_bk5, x_bk6, x_bk7, x_bk8, x_bk9, x_bk10, x_bk11, x_bk12, x_sk0, x_sk1, x_sk2, x_sk3, x_sk4, x_sk5, x_sk6, x_sk7, x_sk8, x_sk9, x_sk10, x_sk11, x_sk12, x_ad0, x_ad1, x_ad2, x_ad3, x_ad4, x_ad5, x_ad6, x_ad7, x_ad8, x_ad9, x_ad10, x_ad11, x_ad12, x_for0, x_for1, x_for2, x_for3, x_for4, x_for5, x_for6, x_for7, x_for8, x_for9, x_for10, x_for11, x_for12, x_while0, x_while1, x_while2, x_while3, x_while4, x_while5, x_while6, x_while7, x_while8, x_while9, x_while10, x_while11, x_while12, x_comp0, x_comp1, x_comp2, x_comp3, x_comp4, x_comp5, x_comp6, x_comp7, x_comp8, x_comp9, x_comp10, x_comp11, x_comp12, x_join0, x_join1, x_join2, x_join3, x_join4, x_join5, x_join6, x_join7, x_join8, x_join9, x_join10, x_join11, x_join12, x_ieJ0, x_ieJ1, x_ieJ2, x_ieJ3, x_ieJ4, x_ieJ5, x_ieJ6, x_ieJ7, x_ieJ8, x_ieJ9, x_ieJ10, x_ieJ11, x_ieJ12]; try exact rfl
def m_5 {α : Type} [Ty α] (x_m : MS) (x_some : List α) : Option (α × MS) := (mm_5 (α := α)).1 x_m x_some
theorem s_5 {N : Nat} (h : 2 ≤ N) {α : Type} [Ty α] (x_m : MS) (x_some : List α) : callI N 5 [⟨.lent, injM x_m⟩, ⟨.fz, inj x_some⟩] = outO (fun a : α × MS => CR.ok (inj a.1) false [⟨.lent, injM a.2⟩]) (m_5 x_m x_some) := by
  obtain ⟨n, rfl⟩ := Nat.exists_eq_add_of_le' h
  exact (cm_5 n x_m x_some).2.trans (congrArg (outO (fun a : α × MS => CR.ok (inj a.1) false [⟨.lent, injM a.2⟩])) ((mm_5 (α := α)).2 n x_m x_some))
def cm_9 (n : Nat) (x_m : MS) (x_size : Int) : Gm (AO (fun a : (List Nat) × MS => CR.ok (inj a.1) false [⟨.lent, injM a.2⟩])) (callI (n + 3) 9 [⟨.lent, injM x_m⟩, ⟨.fz, inj x_size⟩]) := by
  refine x_of (b := fin (endK [⟨.lent, injM x_m⟩, ⟨.fz, inj x_size⟩]) ((cmp_9 (callI (n + 2))).1 [some ⟨.lent, injM x_m⟩, some ⟨.fz, inj x_size⟩, none])) ((ci_9 (n + 2) _).trans (run_fin rfl rfl)) ?_
  refine x_of (b := ?_) ?_ ?_
  rotate_left
  · simp only [cmp_9]; array_get_dec; exact rfl
  · repeat' (first | (first | with_reducible refine x_ite ?_ ?_ | (with_reducible refine x_osO ?_ (fun _ => ?_) <;> (refine x_of (b := ?_) ?_ ?_; rotate_left; (array_get_dec; exact rfl))) | with_reducible refine x_os (fun _ => ?_) | with_reducible refine x_bind (fun _ => ?_) | with_reducible refine x_bindN (fun _ => ?_) | (with_reducible refine x_and ?_ (fun _ => ?_) <;> (refine x_of (b := ?_) ?_ ?_; rotate_left; (array_get_dec; exact rfl))) | (with_reducible refine x_or ?_ (fun _ => ?_) <;> (refine x_of (b := ?_) ?_ ?_; rotate_left; (array_get_dec; exact rfl))) | (with_reducible refine x_andV ?_ (fun _ => ?_) <;> (refine x_of (b := ?_) ?_ ?_; rotate_left; (array_get_dec; exact rfl))) | (with_reducible refine x_orV ?_ (fun _ => ?_) <;> (refine x_of (b := ?_) ?_ ?_; rotate_left; (array_get_dec; exact rfl))) | (with_reducible refine x_rite ?_ ?_ <;> (refine x_of (b := ?_) ?_ ?_; rotate_left; (array_get_dec; exact rfl))) | (with_reducible refine g_ad ?_; exact x_ad _ () rfl rfl) | with_reducible refine x_fin ?_ | with_reducible refine x_finS ?_ | with_reducible exact x_noC | with_reducible exact x_noO) | (with_reducible refine g_retO ?_; exact x_retO (_, _) rfl) | (with_reducible refine g_sk ?_; exact x_sk1 _ rfl) | (with_reducible refine g_ad ?_; exact x_ad1 _ _ rfl rfl) | (with_reducible refine g_comp ⟨64, 19, 64, 79⟩ ?_; refine x_comp1 (γ := List Nat) ⟨64, 19, 64, 79⟩ (fun ρ => fun (a0 : MS) => (ρ.set 0 (some ⟨.lent, injM a0⟩))) _ rfl (fun s x => ?_) (fun ds s => ?_) <;> (refine x_of (b := ?_) ?_ ?_; rotate_left; (array_get_dec; exact rfl))) | (refine x_of (b := ?_) ?_ ?_; rotate_left; (first | (simp only [s_5, Nat.reduceLeDiff]; array_get_dec; exact rfl) | (array_get_dec; exact rfl)); (first | (first | with_reducible refine x_ite ?_ ?_ | (with_reducible refine x_osO ?_ (fun _ => ?_) <;> (refine x_of (b := ?_) ?_ ?_; rotate_left; (array_get_dec; exact rfl))) | with_reducible refine x_os (fun _ => ?_) | with_reducible refine x_bind (fun _ => ?_) | with_reducible refine x_bindN (fun _ => ?_) | (with_reducible refine x_and ?_ (fun _ => ?_) <;> (refine x_of (b := ?_) ?_ ?_; rotate_left; (array_get_dec; exact rfl))) | (with_reducible refine x_or ?_ (fun _ => ?_) <;> (refine x_of (b := ?_) ?_ ?_; rotate_left; (array_get_dec; exact rfl))) | (with_reducible refine x_andV ?_ (fun _ => ?_) <;> (refine x_of (b := ?_) ?_ ?_; rotate_left; (array_get_dec; exact rfl))) | (with_reducible refine x_orV ?_ (fun _ => ?_) <;> (refine x_of (b := ?_) ?_ ?_; rotate_left; (array_get_dec; exact rfl))) | (with_reducible refine x_rite ?_ ?_ <;> (refine x_of (b := ?_) ?_ ?_; rotate_left; (array_get_dec; exact rfl))) | (with_reducible refine g_ad ?_; exact x_ad _ () rfl rfl) | with_reducible refine x_fin ?_ | with_reducible refine x_finS ?_ | with_reducible exact x_noC | with_reducible exact x_noO) | (with_reducible refine g_retO ?_; exact x_retO (_, _) rfl) | (with_reducible refine g_sk ?_; exact x_sk1 _ rfl) | (with_reducible refine g_ad ?_; exact x_ad1 _ _ rfl rfl) | (with_reducible refine g_comp ⟨64, 19, 64, 79⟩ ?_; refine x_comp1 (γ := List Nat) ⟨64, 19, 64, 79⟩ (fun ρ => fun (a0 : MS) => (ρ.set 0 (some ⟨.lent, injM a0⟩))) _ rfl (fun s x => ?_) (fun ds s => ?_) <;> (refine x_of (b := ?_) ?_ ?_; rotate_left; (array_get_dec; exact rfl))))))
def mm_9 : {m : MS → Int → Option ((List Nat) × MS) // ∀ (n : Nat) (x_m : MS) (x_size : Int), (cm_9 n x_m x_size).1 = m x_m x_size} := by
  apply Subtype.mk; intro n x_m x_size; dsimp only [cm_9, x_noC, x_noO, x_retO, g_retO, AO, g_sk, g_ad, AC, AB, AS, x_of, x_no, x_ex, x_ite, x_osO, x_splB, x_splD, x_spl, x_os, x_bind, x_bindN, x_ret, x_nx, x_bk, x_fin, x_sk, x_ad, x_finS, x_for, x_while, x_comp, x_join, x_ieJ, x_optV, x_and, x_or, x_andV, x_orV, x_sqif, x_rite, x_ieq, g_for, g_while, g_comp, g_nx, g_bk, g_ret, x_nx0, x_nx1, x_nx2, x_nx3, x_nx4, x_nx5, x_nx6, x_nx7, x_nx8, x_nx9, x_nx10, x_nx11, x_nx12, x_bk0, x_bk1, x_bk2, x_bk3, x_bk4, x_bk5, x_bk6, x_bk7, x_bk8, x_bk9, x_bk10, x_bk11, x_bk12, x_sk0, x_sk1, x_sk2, x_sk3, x_sk4, x_sk5, x_sk6, x_sk7, x_sk8, x_sk9, x_sk10, x_sk11, x_sk12, x_ad0, x_ad1, x_ad2, x_ad3, x_ad4, x_ad5, x_ad6, x_ad7, x_ad8, x_ad9, x_ad10, x_ad11, x_ad12, x_for0, x_for1, x_for2, x_for3, x_for4, x_for5, x_for6, x_for7, x_for8, x_for9, x_for10, x_for11, x_for12, x_while0, x_while1, x_while2, x_while3, x_while4, x_while5, x_while6, x_while7, x_while8, x_while9, x_while10, x_while11, x_while12, x_comp0, x_comp1, x_comp2, x_comp3, x_comp4, x_comp5, x_comp6, x_comp7, x_comp8, x_comp9, x_comp10, x_comp11, x_comp12, x_join0, x_join1, x_join2, x_join3, x_join4, x_join5, x_join6, x_join7, x_join8, x_join9, x_join10, x_join11, x_join12, x_ieJ0, x_ieJ1, x_ieJ2, x_ieJ3, x_ieJ4, x_ieJ5, x_ieJ6, x_ieJ7, x_ieJ8, x_ieJ9, x_ieJ10, x_ieJ11, x_ieJ12]; try exact rfl
def m_9 (x_m : MS) (x_size : Int) : Option ((List Nat) × MS) := mm_9.1 x_m x_size
theorem s_9 {N : Nat} (h : 3 ≤ N) (x_m : MS) (x_size : Int) : callI N 9 [⟨.lent, injM x_m⟩, ⟨.fz, inj x_size⟩] = outO (fun a : (List Nat) × MS => CR.ok (inj a.1) false [⟨.lent, injM a.2⟩]) (m_9 x_m x_size) := by
  obtain ⟨n, rfl⟩ := Nat.exists_eq_add_of_le' h
  exact (cm_9 n x_m x_size).2.trans (congrArg (outO (fun a : (List Nat) × MS => CR.ok (inj a.1) false [⟨.lent, injM a.2⟩])) (mm_9.2 n x_m x_size))
def cm_10 (n : Nat) (x_m : MS) (x_head : List Nat) (x_cycle : List Nat) : Gm (AO (fun a : ((List Nat) × (List Nat)) × MS => CR.ok (inj a.1) false [⟨.lent, injM a.2⟩])) (callI (n + 3) 10 [⟨.lent, injM x_m⟩, ⟨.fz, inj x_head⟩, ⟨.fz, inj x_cycle⟩]) := by
  refine x_of (b := fin (endK [⟨.lent, injM x_m⟩, ⟨.fz, inj x_head⟩, ⟨.fz, inj x_cycle⟩]) ((cmp_10 (callI (n + 2))).1 [some ⟨.lent, injM x_m⟩, some ⟨.fz, inj x_head⟩, some ⟨.fz, inj x_cycle⟩, none, Jk.s Jk.n, none, none])) ((ci_10 (n + 2) _).trans (run_fin rfl rfl)) ?_
  refine x_of (b := ?_) ?_ ?_
  rotate_left
  · simp only [cmp_10]; array_get_dec; exact rfl
  · repeat' (first | (first | with_reducible refine x_ite ?_ ?_ | (with_reducible refine x_osO ?_ (fun _ => ?_) <;> (refine x_of (b := ?_) ?_ ?_; rotate_left; (array_get_dec; exact rfl))) | with_reducible refine x_os (fun _ => ?_) | with_reducible refine x_bind (fun _ => ?_) | with_reducible refine x_bindN (fun _ => ?_) | (with_reducible refine x_and ?_ (fun _ => ?_) <;> (refine x_of (b := ?_) ?_ ?_; rotate_left; (array_get_dec; exact rfl))) | (with_reducible refine x_or ?_ (fun _ => ?_) <;> (refine x_of (b := ?_) ?_ ?_; rotate_left; (array_get_dec; exact rfl))) | (with_reducible refine x_andV ?_ (fun _ => ?_) <;> (refine x_of (b := ?_) ?_ ?_; rotate_left; (array_get_dec; exact rfl))) | (with_reducible refine x_orV ?_ (fun _ => ?_) <;> (refine x_of (b := ?_) ?_ ?_; rotate_left; (array_get_dec; exact rfl))) | (with_reducible refine x_rite ?_ ?_ <;> (refine x_of (b := ?_) ?_ ?_; rotate_left; (array_get_dec; exact rfl))) | (with_reducible refine g_ad ?_; exact x_ad _ () rfl rfl) | with_reducible refine x_fin ?_ | with_reducible refine x_finS ?_ | with_reducible exact x_noC | with_reducible exact x_noO) | (with_reducible refine g_retO ?_; exact x_retO (_, _) rfl) | (with_reducible refine g_nx ?_; exact x_nx4 _ _ _ _ rfl) | (with_reducible refine g_bk ?_; exact x_bk4 _ _ _ _ rfl) | (with_reducible refine g_for ⟨68, 4, 69, 61⟩ ?_; refine x_for4 ⟨68, 4, 69, 61⟩ (fun ρ => fun (a0 : MS) (a1 : List Nat) (a2 : List Nat) (a3 : Jk) => ((((ρ.set 0 (some ⟨.lent, injM a0⟩)).set 1 (some ⟨.fz, inj (a1)⟩)).set 2 (some ⟨.fz, inj (a2)⟩)).set 4 ((Jk.s a3)))) _ _ _ _ rfl (fun s x => ?_) (fun s => ?_) <;> (refine x_of (b := ?_) ?_ ?_; rotate_left; (array_get_dec; exact rfl))) | (with_reducible refine x_sqif ⟨70, 4, 71, 28⟩ ?_ ?_ <;> (refine x_of (b := ?_) ?_ ?_; rotate_left; (array_get_dec; exact rfl))) | (refine x_of (b := ?_) ?_ ?_; rotate_left; (first | (simp only [s_4, s_5, Nat.reduceLeDiff]; array_get_dec; exact rfl) | (array_get_dec; exact rfl)); (first | (first | with_reducible refine x_ite ?_ ?_ | (with_reducible refine x_osO ?_ (fun _ => ?_) <;> (refine x_of (b := ?_) ?_ ?_; rotate_left; (array_get_dec; exact rfl))) | with_reducible refine x_os (fun _ => ?_) | with_reducible refine x_bind (fun _ => ?_) | with_reducible refine x_bindN (fun _ => ?_) | (with_reducible refine x_and ?_ (fun _ => ?_) <;> (refine x_of (b := ?_) ?_ ?_; rotate_left; (array_get_dec; exact rfl))) | (with_reducible refine x_or ?_ (fun _ => ?_) <;> (refine x_of (b := ?_) ?_ ?_; rotate_left; (array_get_dec; exact rfl))) | (with_reducible refine x_andV ?_ (fun _ => ?_) <;> (refine x_of (b := ?_) ?_ ?_; rotate_left; (array_get_dec; exact rfl))) | (with_reducible refine x_orV ?_ (fun _ => ?_) <;> (refine x_of (b := ?_) ?_ ?_; rotate_left; (array_get_dec; exact rfl))) | (with_reducible refine x_rite ?_ ?_ <;> (refine x_of (b := ?_) ?_ ?_; rotate_left; (array_get_dec; exact rfl))) | (with_reducible refine g_ad ?_; exact x_ad _ () rfl rfl) | with_reducible refine x_fin ?_ | with_reducible refine x_finS ?_ | with_reducible exact x_noC | with_reducible exact x_noO) | (with_reducible refine g_retO ?_; exact x_retO (_, _) rfl) | (with_reducible refine g_nx ?_; exact x_nx4 _ _ _ _ rfl) | (with_reducible refine g_bk ?_; exact x_bk4 _ _ _ _ rfl) | (with_reducible refine g_for ⟨68, 4, 69, 61⟩ ?_; refine x_for4 ⟨68, 4, 69, 61⟩ (fun ρ => fun (a0 : MS) (a1 : List Nat) (a2 : List Nat) (a3 : Jk) => ((((ρ.set 0 (some ⟨.lent, injM a0⟩)).set 1 (some ⟨.fz, inj (a1)⟩)).set 2 (some ⟨.fz, inj (a2)⟩)).set 4 ((Jk.s a3)))) _ _ _ _ rfl (fun s x => ?_) (fun s => ?_) <;> (refine x_of (b := ?_) ?_ ?_; rotate_left; (array_get_dec; exact rfl))) | (with_reducible refine x_sqif ⟨70, 4, 71, 28⟩ ?_ ?_ <;> (refine x_of (b := ?_) ?_ ?_; rotate_left; (array_get_dec; exact rfl))))))
def mm_10 : {m : MS → (List Nat) → (List Nat) → Option (((List Nat) × (List Nat)) × MS) // ∀ (n : Nat) (x_m : MS) (x_head : List Nat) (x_cycle : List Nat), (cm_10 n x_m x_head x_cycle).1 = m x_m x_head x_cycle} := by
  apply Subtype.mk; intro n x_m x_head x_cycle; dsimp only [cm_10, x_noC, x_noO, x_retO, g_retO, AO, g_sk, g_ad, AC, AB, AS, x_of, x_no, x_ex, x_ite, x_osO, x_splB, x_splD, x_spl, x_os, x_bind, x_bindN, x_ret, x_nx, x_bk, x_fin, x_sk, x_ad, x_finS, x_for, x_while, x_comp, x_join, x_ieJ, x_optV, x_and, x_or, x_andV, x_orV, x_sqif, x_rite, x_ieq, g_for, g_while, g_comp, g_nx, g_bk, g_ret, x_nx0, x_nx1, x_nx2, x_nx3, x_nx4, x_nx5, x_nx6, x_nx7, x_nx8, x_nx9, x_nx10, x_nx11, x_nx12, x_bk0, x_bk1, x_bk2, x_bk3, x_bk4, x_bk5, x_bk6, x_bk7, x_bk8, x_bk9, x_bk10, x_bk11, x_bk12, x_sk0, x_sk1, x_sk2, x_sk3, x_sk4, x_sk5, x_sk6, x_sk7, x_sk8, x_sk9, x_sk10, x_sk11, x_sk12, x_ad0, x_ad1, x_ad2, x_ad3, x_ad4, x_ad5, x_ad6, x_ad7, x_ad8, x_ad9, x_ad10, x_ad11, x_ad12, x_for0, x_for1, x_for2, x_for3, x_for4, x_for5, x_for6, x_for7, x_for8, x_for9, x_for10, x_for11, x_for12, x_while0, x_while1, x_while2, x_while3, x_while4, x_while5, x_while6, x_while7, x_while8, x_while9, x_while10, x_while11, x_while12, x_comp0, x_comp1, x_comp2, x_comp3, x_comp4, x_comp5, x_comp6, x_comp7, x_comp8, x_comp9, x_comp10, x_comp11, x_comp12, x_join0, x_join1, x_join2, x_join3, x_join4, x_join5, x_join6, x_join7, x_join8, x_join9, x_join10, x_join11, x_join12, x_ieJ0, x_ieJ1, x_ieJ2, x_ieJ3, x_ieJ4, x_ieJ5, x_ieJ6, x_ieJ7, x_ieJ8, x_ieJ9, x_ieJ10, x_ieJ11, x_ieJ12]; try exact rfl
def m_10 (x_m : MS) (x_head : List Nat) (x_cycle : List Nat) : Option (((List Nat) × (List Nat)) × MS) := mm_10.1 x_m x_head x_cycle
theorem s_10 {N : Nat} (h : 3 ≤ N) (x_m : MS) (x_head : List Nat) (x_cycle : List Nat) : callI N 10 [⟨.lent, injM x_m⟩, ⟨.fz, inj x_head⟩, ⟨.fz, inj x_cycle⟩] = outO (fun a : ((List Nat) × (List Nat)) × MS => CR.ok (inj a.1) false [⟨.lent, injM a.2⟩]) (m_10 x_m x_head x_cycle) := by
  obtain ⟨n, rfl⟩ := Nat.exists_eq_add_of_le' h
  exact (cm_10 n x_m x_head x_cycle).2.trans (congrArg (outO (fun a : ((List Nat) × (List Nat)) × MS => CR.ok (inj a.1) false [⟨.lent, injM a.2⟩])) (mm_10.2 n x_m x_head x_cycle))
def cm_11 (n : Nat) (x_script : List Int) : Gm (AO (fun a : Bool => CR.ok (inj a) false [])) (callI (n + 4) 11 [⟨.fz, inj x_script⟩]) := by
  refine x_of (b := fin (endK [⟨.fz, inj x_script⟩]) ((cmp_11 (callI (n + 3))).1 [some ⟨.fz, inj x_script⟩, Jk.s Jk.n, Jk.s Jk.n, Jk.s Jk.n, Jk.s Jk.n, Jk.s Jk.n, Jk.s Jk.n, Jk.s Jk.n, Jk.s Jk.n, Jk.s Jk.n, Jk.s Jk.n, Jk.s Jk.n])) ((ci_11 (n + 3) _).trans (run_fin rfl rfl)) ?_
  refine x_of (b := ?_) ?_ ?_
  rotate_left
  · simp only [cmp_11]; array_get_dec; exact rfl
  · repeat' (first | (first | with_reducible refine x_ite ?_ ?_ | (with_reducible refine x_osO ?_ (fun _ => ?_) <;> (refine x_of (b := ?_) ?_ ?_; rotate_left; (array_get_dec; exact rfl))) | with_reducible refine x_os (fun _ => ?_) | with_reducible refine x_bind (fun _ => ?_) | with_reducible refine x_bindN (fun _ => ?_) | (with_reducible refine x_and ?_ (fun _ => ?_) <;> (refine x_of (b := ?_) ?_ ?_; rotate_left; (array_get_dec; exact rfl))) | (with_reducible refine x_or ?_ (fun _ => ?_) <;> (refine x_of (b := ?_) ?_ ?_; rotate_left; (array_get_dec; exact rfl))) | (with_reducible refine x_andV ?_ (fun _ => ?_) <;> (refine x_of (b := ?_) ?_ ?_; rotate_left; (array_get_dec; exact rfl))) | (with_reducible refine x_orV ?_ (fun _ => ?_) <;> (refine x_of (b := ?_) ?_ ?_; rotate_left; (array_get_dec; exact rfl))) | (with_reducible refine x_rite ?_ ?_ <;> (refine x_of (b := ?_) ?_ ?_; rotate_left; (array_get_dec; exact rfl))) | (with_reducible refine g_ad ?_; exact x_ad _ () rfl rfl) | with_reducible refine x_fin ?_ | with_reducible refine x_finS ?_ | with_reducible exact x_noC | with_reducible exact x_noO) | (with_reducible refine g_retO ?_; exact x_retO _ rfl) | (with_reducible refine g_nx ?_; exact x_nx11 _ (Jk.o _) _ _ _ _ _ _ _ _ _ rfl) | (with_reducible refine g_bk ?_; exact x_bk11 _ (Jk.o _) _ _ _ _ _ _ _ _ _ rfl) | (with_reducible refine g_nx ?_; exact x_nx3 _ _ _ rfl) | (with_reducible refine g_bk ?_; exact x_bk3 _ _ _ rfl) | (with_reducible refine g_nx ?_; exact x_nx11 _ _ _ _ _ _ _ _ _ _ _ rfl) | (with_reducible refine g_bk ?_; exact x_bk11 _ _ _ _ _ _ _ _ _ _ _ rfl) | (with_reducible refine g_sk ?_; exact x_sk0  rfl) | (with_reducible refine g_ad ?_; exact x_ad0 _  rfl rfl) | (with_reducible refine g_for ⟨76, 4, 98, 24⟩ ?_; refine x_for11 ⟨76, 4, 98, 24⟩ (fun ρ => fun (a0 : Jk) (a1 : Jk) (a2 : Jk) (a3 : Jk) (a4 : Jk) (a5 : Jk) (a6 : Jk) (a7 : Jk) (a8 : Jk) (a9 : Jk) (a10 : Jk) => (((((((((((ρ.set 1 ((Jk.s a0))).set 2 ((Jk.s a1))).set 3 ((Jk.s a2))).set 4 ((Jk.s a3))).set 5 ((Jk.s a4))).set 6 ((Jk.s a5))).set 7 ((Jk.s a6))).set 8 ((Jk.s a7))).set 9 ((Jk.s a8))).set 10 ((Jk.s a9))).set 11 ((Jk.s a10)))) _ _ _ _ _ _ _ _ _ _ _ rfl (fun s x => ?_) (fun s => ?_) <;> (refine x_of (b := ?_) ?_ ?_; rotate_left; (array_get_dec; exact rfl))) | (with_reducible refine g_for ⟨90, 8, 96, 28⟩ ?_; refine x_for3 ⟨90, 8, 96, 28⟩ (fun ρ => fun (a0 : (List Nat) × (List Nat)) (a1 : Jk) (a2 : Jk) => (((ρ.set 9 (Jk.s (Jk.f (inj (a0))))).set 7 ((Jk.s a1))).set 11 ((Jk.s a2)))) _ _ _ rfl (fun s x => ?_) (fun s => ?_) <;> (refine x_of (b := ?_) ?_ ?_; rotate_left; (array_get_dec; exact rfl))) | (with_reducible refine x_sqif ⟨81, 8, 82, 24⟩ ?_ ?_ <;> (refine x_of (b := ?_) ?_ ?_; rotate_left; (array_get_dec; exact rfl))) | (with_reducible refine x_sqif ⟨83, 8, 84, 24⟩ ?_ ?_ <;> (refine x_of (b := ?_) ?_ ?_; rotate_left; (array_get_dec; exact rfl))) | (with_reducible refine x_sqif ⟨87, 8, 88, 24⟩ ?_ ?_ <;> (refine x_of (b := ?_) ?_ ?_; rotate_left; (array_get_dec; exact rfl))) | (with_reducible refine x_sqif ⟨97, 8, 98, 24⟩ ?_ ?_ <;> (refine x_of (b := ?_) ?_ ?_; rotate_left; (array_get_dec; exact rfl))) | (with_reducible refine x_sqif ⟨91, 12, 92, 28⟩ ?_ ?_ <;> (refine x_of (b := ?_) ?_ ?_; rotate_left; (array_get_dec; exact rfl))) | (with_reducible refine x_sqif ⟨95, 12, 96, 28⟩ ?_ ?_ <;> (refine x_of (b := ?_) ?_ ?_; rotate_left; (array_get_dec; exact rfl))) | (with_reducible refine g_comp ⟨83, 11, 83, 82⟩ ?_; refine x_comp0 (γ := Int) ⟨83, 11, 83, 82⟩ (fun ρ => ρ)  rfl (fun s x => ?_) (fun ds s => ?_) <;> (refine x_of (b := ?_) ?_ ?_; rotate_left; (array_get_dec; exact rfl))) | (with_reducible refine g_comp ⟨86, 15, 86, 87⟩ ?_; refine x_comp0 (γ := Int) ⟨86, 15, 86, 87⟩ (fun ρ => ρ)  rfl (fun s x => ?_) (fun ds s => ?_) <;> (refine x_of (b := ?_) ?_ ?_; rotate_left; (array_get_dec; exact rfl))) | (refine x_of (b := ?_) ?_ ?_; rotate_left; (first | (simp only [s_0, s_1, s_2, s_3, s_4, s_6, s_7, s_8, s_9, s_10, Nat.reduceLeDiff]; array_get_dec; exact rfl) | (array_get_dec; exact rfl)); (first | (first | with_reducible refine x_ite ?_ ?_ | (with_reducible refine x_osO ?_ (fun _ => ?_) <;> (refine x_of (b := ?_) ?_ ?_; rotate_left; (array_get_dec; exact rfl))) | with_reducible refine x_os (fun _ => ?_) | with_reducible refine x_bind (fun _ => ?_) | with_reducible refine x_bindN (fun _ => ?_) | (with_reducible refine x_and ?_ (fun _ => ?_) <;> (refine x_of (b := ?_) ?_ ?_; rotate_left; (array_get_dec; exact rfl))) | (with_reducible refine x_or ?_ (fun _ => ?_) <;> (refine x_of (b := ?_) ?_ ?_; rotate_left; (array_get_dec; exact rfl))) | (with_reducible refine x_andV ?_ (fun _ => ?_) <;> (refine x_of (b := ?_) ?_ ?_; rotate_left; (array_get_dec; exact rfl))) | (with_reducible refine x_orV ?_ (fun _ => ?_) <;> (refine x_of (b := ?_) ?_ ?_; rotate_left; (array_get_dec; exact rfl))) | (with_reducible refine x_rite ?_ ?_ <;> (refine x_of (b := ?_) ?_ ?_; rotate_left; (array_get_dec; exact rfl))) | (with_reducible refine g_ad ?_; exact x_ad _ () rfl rfl) | with_reducible refine x_fin ?_ | with_reducible refine x_finS ?_ | with_reducible exact x_noC | with_reducible exact x_noO) | (with_reducible refine g_retO ?_; exact x_retO _ rfl) | (with_reducible refine g_nx ?_; exact x_nx11 _ (Jk.o _) _ _ _ _ _ _ _ _ _ rfl) | (with_reducible refine g_bk ?_; exact x_bk11 _ (Jk.o _) _ _ _ _ _ _ _ _ _ rfl) | (with_reducible refine g_nx ?_; exact x_nx3 _ _ _ rfl) | (with_reducible refine g_bk ?_; exact x_bk3 _ _ _ rfl) | (with_reducible refine g_nx ?_; exact x_nx11 _ _ _ _ _ _ _ _ _ _ _ rfl) | (with_reducible refine g_bk ?_; exact x_bk11 _ _ _ _ _ _ _ _ _ _ _ rfl) | (with_reducible refine g_sk ?_; exact x_sk0  rfl) | (with_reducible refine g_ad ?_; exact x_ad0 _  rfl rfl) | (with_reducible refine g_for ⟨76, 4, 98, 24⟩ ?_; refine x_for11 ⟨76, 4, 98, 24⟩ (fun ρ => fun (a0 : Jk) (a1 : Jk) (a2 : Jk) (a3 : Jk) (a4 : Jk) (a5 : Jk) (a6 : Jk) (a7 : Jk) (a8 : Jk) (a9 : Jk) (a10 : Jk) => (((((((((((ρ.set 1 ((Jk.s a0))).set 2 ((Jk.s a1))).set 3 ((Jk.s a2))).set 4 ((Jk.s a3))).set 5 ((Jk.s a4))).set 6 ((Jk.s a5))).set 7 ((Jk.s a6))).set 8 ((Jk.s a7))).set 9 ((Jk.s a8))).set 10 ((Jk.s a9))).set 11 ((Jk.s a10)))) _ _ _ _ _ _ _ _ _ _ _ rfl (fun s x => ?_) (fun s => ?_) <;> (refine x_of (b := ?_) ?_ ?_; rotate_left; (array_get_dec; exact rfl))) | (with_reducible refine g_for ⟨90, 8, 96, 28⟩ ?_; refine x_for3 ⟨90, 8, 96, 28⟩ (fun ρ => fun (a0 : (List Nat) × (List Nat)) (a1 : Jk) (a2 : Jk) => (((ρ.set 9 (Jk.s (Jk.f (inj (a0))))).set 7 ((Jk.s a1))).set 11 ((Jk.s a2)))) _ _ _ rfl (fun s x => ?_) (fun s => ?_) <;> (refine x_of (b := ?_) ?_ ?_; rotate_left; (array_get_dec; exact rfl))) | (with_reducible refine x_sqif ⟨81, 8, 82, 24⟩ ?_ ?_ <;> (refine x_of (b := ?_) ?_ ?_; rotate_left; (array_get_dec; exact rfl))) | (with_reducible refine x_sqif ⟨83, 8, 84, 24⟩ ?_ ?_ <;> (refine x_of (b := ?_) ?_ ?_; rotate_left; (array_get_dec; exact rfl))) | (with_reducible refine x_sqif ⟨87, 8, 88, 24⟩ ?_ ?_ <;> (refine x_of (b := ?_) ?_ ?_; rotate_left; (array_get_dec; exact rfl))) | (with_reducible refine x_sqif ⟨97, 8, 98, 24⟩ ?_ ?_ <;> (refine x_of (b := ?_) ?_ ?_; rotate_left; (array_get_dec; exact rfl))) | (with_reducible refine x_sqif ⟨91, 12, 92, 28⟩ ?_ ?_ <;> (refine x_of (b := ?_) ?_ ?_; rotate_left; (array_get_dec; exact rfl))) | (with_reducible refine x_sqif ⟨95, 12, 96, 28⟩ ?_ ?_ <;> (refine x_of (b := ?_) ?_ ?_; rotate_left; (array_get_dec; exact rfl))) | (with_reducible refine g_comp ⟨83, 11, 83, 82⟩ ?_; refine x_comp0 (γ := Int) ⟨83, 11, 83, 82⟩ (fun ρ => ρ)  rfl (fun s x => ?_) (fun ds s => ?_) <;> (refine x_of (b := ?_) ?_ ?_; rotate_left; (array_get_dec; exact rfl))) | (with_reducible refine g_comp ⟨86, 15, 86, 87⟩ ?_; refine x_comp0 (γ := Int) ⟨86, 15, 86, 87⟩ (fun ρ => ρ)  rfl (fun s x => ?_) (fun ds s => ?_) <;> (refine x_of (b := ?_) ?_ ?_; rotate_left; (array_get_dec; exact rfl))))))
def mm_11 : {m : (List Int) → Option (Bool) // ∀ (n : Nat) (x_script : List Int), (cm_11 n x_script).1 = m x_script} := by
  apply Subtype.mk; intro n x_script; dsimp only [cm_11, x_noC, x_noO, x_retO, g_retO, AO, g_sk, g_ad, AC, AB, AS, x_of, x_no, x_ex, x_ite, x_osO, x_splB, x_splD, x_spl, x_os, x_bind, x_bindN, x_ret, x_nx, x_bk, x_fin, x_sk, x_ad, x_finS, x_for, x_while, x_comp, x_join, x_ieJ, x_optV, x_and, x_or, x_andV, x_orV, x_sqif, x_rite, x_ieq, g_for, g_while, g_comp, g_nx, g_bk, g_ret, x_nx0, x_nx1, x_nx2, x_nx3, x_nx4, x_nx5, x_nx6, x_nx7, x_nx8, x_nx9, x_nx10, x_nx11, x_nx12, x_bk0, x_bk1, x_bk2, x_bk3, x_bk4, x_bk5, x_bk6, x_bk7, x_bk8, x_bk9, x_bk10, x_bk11, x_bk12, x_sk0, x_sk1, x_sk2, x_sk3, x_sk4, x_sk5, x_sk6, x_sk7, x_sk8, x_sk9, x_sk10, x_sk11, x_sk12, x_ad0, x_ad1, x_ad2, x_ad3, x_ad4, x_ad5, x_ad6, x_ad7, x_ad8, x_ad9, x_ad10, x_ad11, x_ad12, x_for0, x_for1, x_for2, x_for3, x_for4, x_for5, x_for6, x_for7, x_for8, x_for9, x_for10, x_for11, x_for12, x_while0, x_while1, x_while2, x_while3, x_while4, x_while5, x_while6, x_while7, x_while8, x_while9, x_while10, x_while11, x_while12, x_comp0, x_comp1, x_comp2, x_comp3, x_comp4, x_comp5, x_comp6, x_comp7, x_comp8, x_comp9, x_comp10, x_comp11, x_comp12, x_join0, x_join1, x_join2, x_join3, x_join4, x_join5, x_join6, x_join7, x_join8, x_join9, x_join10, x_join11, x_join12, x_ieJ0, x_ieJ1, x_ieJ2, x_ieJ3, x_ieJ4, x_ieJ5, x_ieJ6, x_ieJ7, x_ieJ8, x_ieJ9, x_ieJ10, x_ieJ11, x_ieJ12]; try exact rfl
def m_11 (x_script : List Int) : Option (Bool) := mm_11.1 x_script
theorem s_11 {N : Nat} (h : 4 ≤ N) (x_script : List Int) : callI N 11 [⟨.fz, inj x_script⟩] = outO (fun a : Bool => CR.ok (inj a) false []) (m_11 x_script) := by
  obtain ⟨n, rfl⟩ := Nat.exists_eq_add_of_le' h
  exact (cm_11 n x_script).2.trans (congrArg (outO (fun a : Bool => CR.ok (inj a) false [])) (mm_11.2 n x_script))
end L_k14

set_option Elab.async false
set_option maxRecDepth 100000
set_option maxHeartbeats 1000000
/-! TD1: mirrors that many laws share, and what they give: the draws. -/
namespace TM
open PySem TW
/-! ### the mirrors -/
def drawF (x_m : MS) (x_below : Int) : Option (Int × MS) :=
  if decide (0 < x_m.L) = true then
    if ¬x_below = 0 then
      if divOk x_below = true then
        some (x_m.L.fmod x_below, { L := x_m.L.fdiv x_below, S := x_m.S, cs := x_m.cs, p := x_m.p })
      else none
    else none
  else
    if mulOk 40503 x_m.p = true then
      if mulOk (40503 * x_m.p) x_m.p = true then
        if ¬(x_m.cs.length : Int) = 0 then
          osM none (L2.atI x_m.cs (x_m.p.fmod (x_m.cs.length : Int))) fun b =>
            if mulOk 2 x_m.p = true then
              if mulOk b (2 * x_m.p + 3) = true then
                if mulOk ((b * (2 * x_m.p + 3) + (x_m.S + 40503 * x_m.p * x_m.p)).fmod 2147483647) ((b * (2 * x_m.p + 3) + (x_m.S + 40503 * x_m.p * x_m.p)).fmod 2147483647) = true then
                  if mulOk 69621 x_m.p = true then
                    if mulOk (((b * (2 * x_m.p + 3) + (x_m.S + 40503 * x_m.p * x_m.p)).fmod 2147483647 * (b * (2 * x_m.p + 3) + (x_m.S + 40503 * x_m.p * x_m.p)).fmod 2147483647 + 69621 * x_m.p + x_m.S).fmod 2147483629) 48271 = true then
                      if divOk 11 = true then
                        if ¬x_below = 0 then
                          some
                            ((((((b * (2 * x_m.p + 3) + (x_m.S + 40503 * x_m.p * x_m.p)).fmod 2147483647 * (b * (2 * x_m.p + 3) + (x_m.S + 40503 * x_m.p * x_m.p)).fmod 2147483647 + 69621 * x_m.p + x_m.S).fmod 2147483629 * 48271 + x_m.p).fmod 2147483647).fdiv 11).fmod x_below,
                              { L := x_m.L, S := x_m.S, cs := x_m.cs, p := x_m.p + 1 })
                        else none
                      else none
                    else none
                  else none
                else none
              else none
            else none
        else none
      else none
    else none
def begunF (x_script : List Int) (x_k : Int) : Option MS :=
  if szOk ((cutL x_script (some x_k) none).length + (cutL x_script none (some x_k)).length) = true then
    compV none
      (fun s x => if powOk 10 18 = true then if 10 ^ Int.toNat 18 ≤ x then TC.ad x () else TC.sk () else TC.fin none)
      (fun ds (s : Unit) =>
        loopV
          (fun s x =>
            if mulOk s.fst 48271 = true then TB.nx ((s.fst * 48271 + x).fmod 2147483647, Jk.f (inj x)) else TB.fin none)
          (fun (s : Int × Jk) =>
              if (!ds.isEmpty) = true then
                osM none (L2.atI ds 0) fun b =>
                  if mulOk 53 x_k = true then
                    if szOk ((cutL x_script (some x_k) none ++ cutL x_script none (some x_k)).length + 1) = true then
                      some
                        { L := b, S := s.fst,
                          cs := cutL x_script (some x_k) none ++ cutL x_script none (some x_k) ++ [53 * x_k + 11],
                          p := 0 }
                    else none
                  else none
              else
                if mulOk 53 x_k = true then
                  if szOk ((cutL x_script (some x_k) none ++ cutL x_script none (some x_k)).length + 1) = true then
                    some
                      { L := 0, S := s.fst,
                        cs := cutL x_script (some x_k) none ++ cutL x_script none (some x_k) ++ [53 * x_k + 11],
                        p := 0 }
                  else none
                else none)
          (cutL x_script (some x_k) none ++ cutL x_script none (some x_k)) (71 + x_k, Jk.n))
      (cutL x_script (some x_k) none ++ cutL x_script none (some x_k)) [] sizeLine ()
  else none
def ofF {α : Type} (x_m : MS) (x_some : List α) : Option (α × MS) :=
  osM none (drawF x_m (x_some.length : Int)) fun b => osM none (L2.atI x_some b.fst) fun c => some (c, b.snd)
def stringF (x_m : MS) (x_size : Int) : Option (List Nat × MS) :=
  if rngOk 0 x_size = true then
    compV none
      (fun s x =>
        osM (TC.fin none) (drawF s 2) fun b =>
          if b.fst.natAbs.log2 < 1920 then TC.ad (strT b.fst) b.snd else TC.fin none)
      (fun ds s => if joinOk [] ds = true then some (joinN [] ds, s) else none) (rngI 0 x_size) [] sizeLine x_m
  else none
/-! ### loops by what holds -/
theorem loopV_inv {S β M : Type} {body : S → β → TB S M} {done : S → M} {R : M → Prop} (P : Nat → S → Prop) : ∀ (xs : List β) (k : Nat) (s : S), P k s →
    (∀ i x s, xs[i]? = some x → P (k + i) s → (∃ s', body s x = .nx s' ∧ P (k + i + 1) s') ∨ (∃ s', body s x = .bk s' ∧ R (done s')) ∨ ∃ m, body s x = .fin m ∧ R m) →
    (∀ s, P (k + xs.length) s → R (done s)) → R (loopV body done xs s)
  | [], k, s, h0, _, hd => hd s h0
  | x :: xs, k, s, h0, hs, hd => by
    rw [loopV_c]
    rcases hs 0 x s rfl h0 with ⟨s', e, h⟩ | ⟨s', e, h⟩ | ⟨m, e, h⟩
    · rw [e]
      exact loopV_inv P xs (k + 1) s' h (fun i y s hy hp => by
        have := hs (i + 1) y s (by simpa using hy) (by rw [show k + (i + 1) = k + 1 + i by omega]; exact hp)
        rw [show k + (i + 1) = k + 1 + i by omega] at this
        exact this) (fun s hp => hd s (by rw [List.length_cons, show k + (xs.length + 1) = k + 1 + xs.length by omega]; exact hp))
    · rw [e]; exact h
    · rw [e]; exact h
theorem compV_inv {S β γ M : Type} {no : M} {body : S → β → TC S γ M} {done : List γ → S → M} {R : M → Prop} (P : Nat → List γ → S → Prop) : ∀ (xs : List β) (k : Nat) (acc : List γ) (n : Nat) (s : S), P k acc.reverse s → xs.length ≤ n →
    (∀ i x acc s, xs[i]? = some x → P (k + i) acc s → (∃ s', body s x = .sk s' ∧ P (k + i + 1) acc s') ∨ (∃ v s', body s x = .ad v s' ∧ P (k + i + 1) (acc ++ [v]) s') ∨ ∃ m, body s x = .fin m ∧ R m) →
    (∀ ds s, P (k + xs.length) ds s → R (done ds s)) → R (compV no body done xs acc n s)
  | [], k, acc, n, s, h0, _, _, hd => hd _ s h0
  | x :: xs, k, acc, n, s, h0, hn, hs, hd => by
    rw [compV_c]
    have rest : ∀ acc n s', P (k + 1) acc.reverse s' → xs.length ≤ n → R (compV no body done xs acc n s') := fun acc n s' h hn => compV_inv P xs (k + 1) acc n s' h hn (fun i y acc s hy hp => by
        have := hs (i + 1) y acc s (by simpa using hy) (by rw [show k + (i + 1) = k + 1 + i by omega]; exact hp)
        rw [show k + (i + 1) = k + 1 + i by omega] at this
        exact this) (fun ds s hp => hd ds s (by rw [List.length_cons, show k + (xs.length + 1) = k + 1 + xs.length by omega]; exact hp))
    rw [List.length_cons] at hn
    rcases hs 0 x acc.reverse s rfl h0 with ⟨s', e, h⟩ | ⟨v, s', e, h⟩ | ⟨m, e, h⟩
    · rw [e]
      exact rest acc n s' h (by omega)
    · rw [e]
      cases n with
      | zero => omega
      | succ n => exact rest (v :: acc) n s' (by rw [List.reverse_cons]; exact h) (by omega)
    · rw [e]; exact h
theorem optM_none {β M : Type} {n : M} {k : β → M} : optM none n k = n := (rfl)
theorem optM_some {β M : Type} {n : M} {b : β} {k : β → M} : optM (some b) n k = k b := (rfl)
/-! ### numbers -/
theorem fmod_bd {a b : Int} (h : 0 < b) : 0 ≤ a.fmod b ∧ a.fmod b < b := ⟨Int.fmod_nonneg_of_pos a h, Int.fmod_lt_of_pos a h⟩
theorem mulS {i j : Int} (h : (-18446744073709551616 < i ∧ i < 18446744073709551616) ∨ (-18446744073709551616 < j ∧ j < 18446744073709551616)) : mulOk i j = true := mulOk_small h
theorem divS {j : Int} (h0 : 0 < j) (h : j < 18446744073709551616) : divOk j = true := divOk_small (by omega) (by
  have : j.natAbs < 18446744073709551616 := by omega
  exact Nat.lt_of_lt_of_le this (by decide))
theorem szS {n : Nat} (h : n ≤ 16777216) : szOk n = true := (szOk_eq n).symm ▸ h
theorem atI_some {α : Type} {l : List α} {i : Int} (h0 : 0 ≤ i) (h1 : i < (l.length : Nat)) : ∃ a, L2.atI l i = some a ∧ a ∈ l := by
  have hj : i.toNat < l.length := by omega
  refine ⟨l[i.toNat], ?_, List.getElem_mem hj⟩
  unfold L2.atI L2.ixN
  rw [if_pos h0, if_pos h1]
  exact List.getElem?_eq_getElem hj
theorem rngS {a b : Int} (h1 : -1000000000 ≤ a) (h2 : a < 1000000000) (h3 : -1000000000 ≤ b) (h4 : b < 1000000000) : rngOk a b = true := by
  unfold rngOk
  simp
  omega
theorem rngI_len {a b : Int} : (rngI a b).length = (b - a).toNat := by
  unfold rngI
  rw [List.length_map, List.length_range]
theorem rngI_get {a b : Int} {i : Nat} {x : Int} (h : (rngI a b)[i]? = some x) : x = a + i ∧ i < (b - a).toNat := by
  unfold rngI at h
  rw [List.getElem?_map] at h
  cases e : (List.range (b - a).toNat)[i]? with
  | none => rw [e] at h; cases h
  | some j =>
    rw [e] at h
    cases h
    obtain ⟨h1, h2⟩ := List.getElem?_eq_some_iff.mp e
    rw [List.getElem_range] at h2
    subst h2
    exact ⟨rfl, by simpa using h1⟩
/-! ### the draws -/
/-- a state of the draws, at most q spots on -/
structure Dr (q : Int) (m : MS) : Prop where
  c : m.cs ≠ []
  p0 : 0 ≤ m.p
  p1 : m.p ≤ q
theorem Dr.mono {q r : Int} {m : MS} (h : Dr q m) (hq : q ≤ r) : Dr r m := ⟨h.c, h.p0, by have := h.p1; omega⟩
theorem draw_ok {q b : Int} {m : MS} (h : Dr q m) (hq : q < 1000000) (hb : 0 < b) (hb2 : b < 18446744073709551616) : ∃ r m', drawF m b = some (r, m') ∧ 0 ≤ r ∧ r < b ∧ Dr (q + 1) m' := by
  obtain ⟨L, S, cs, p⟩ := m
  obtain ⟨hc, hp0, hp1⟩ := h
  simp only at hc hp0 hp1
  unfold drawF
  simp only
  by_cases hL : 0 < L
  · rw [if_pos (decide_eq_true hL), if_pos (by omega), if_pos (divS hb hb2)]
    exact ⟨_, _, rfl, (fmod_bd hb).1, (fmod_bd hb).2, ⟨hc, hp0, by simp only; omega⟩⟩
  · have hn : 0 < ((cs.length : Nat) : Int) := by
      cases cs with
      | nil => exact (hc rfl).elim
      | cons c cs => simp
    obtain ⟨c, e, _⟩ := atI_some (l := cs) (fmod_bd (a := p) hn).1 (fmod_bd hn).2
    have h1 := fmod_bd (a := c * (2 * p + 3) + (S + 40503 * p * p)) (b := 2147483647) (by decide)
    generalize hB : (c * (2 * p + 3) + (S + 40503 * p * p)).fmod 2147483647 = B at h1
    have k1 : mulOk 40503 p = true := mulS (.inl ⟨by decide, by decide⟩)
    have k2 : mulOk (40503 * p) p = true := mulS (.inr ⟨by omega, by omega⟩)
    have k3 : mulOk 2 p = true := mulS (.inl ⟨by decide, by decide⟩)
    have k4 : mulOk c (2 * p + 3) = true := mulS (.inr ⟨by omega, by omega⟩)
    have k5 : mulOk B B = true := mulS (.inr ⟨by omega, by omega⟩)
    have k6 : mulOk 69621 p = true := mulS (.inl ⟨by decide, by decide⟩)
    have k7 : mulOk ((B * B + 69621 * p + S).fmod 2147483629) 48271 = true := mulS (.inr ⟨by decide, by decide⟩)
    have k8 : divOk 11 = true := divS (by decide) (by decide)
    rw [if_neg (by simpa using hL), if_pos k1, if_pos k2, if_pos (by omega), e]
    refine ⟨_, ⟨L, S, cs, p + 1⟩, ?_, (fmod_bd (a := (((B * B + 69621 * p + S).fmod 2147483629 * 48271 + p).fmod 2147483647).fdiv 11) hb).1, (fmod_bd hb).2, ⟨hc, by simp only; omega, by simp only; omega⟩⟩
    show (if mulOk 2 p = true then _ else none) = _
    simp only [hB, k3, k4, k5, k6, k7, k8, if_true]
    rw [if_pos (by omega)]
theorem of_ok {α : Type} {q : Int} {m : MS} {xs : List α} (h : Dr q m) (hq : q < 1000000) (hx : xs ≠ []) (hl : xs.length < 1000000) : ∃ x m', ofF m xs = some (x, m') ∧ x ∈ xs ∧ Dr (q + 1) m' := by
  have hn : 0 < ((xs.length : Nat) : Int) := by
    cases xs with
    | nil => exact (hx rfl).elim
    | cons c cs => simp
  obtain ⟨r, m', e, h0, h1, hd⟩ := draw_ok h hq hn (by omega)
  obtain ⟨a, e2, ha⟩ := atI_some h0 h1
  refine ⟨a, m', ?_, ha, hd⟩
  unfold ofF
  rw [e]
  show osM none (L2.atI xs r) _ = _
  rw [e2]
  rfl

theorem cutL_len {α : Type} {xs : List α} {lo hi : Option Int} : (cutL xs lo hi).length ≤ xs.length := by
  unfold cutL
  rw [List.length_take, List.length_drop]
  omega
theorem ne_nil {ds : List Int} : cmpP CmpOp.NotEq (inj ds) (PyData.list []) = some (!decide (ds = [])) := e_ne (α := List Int) (a := ds) (b := []) (by decide)
theorem begun_ok {ns : List Int} {k : Int} (h : ns.length ≤ 63) : ∃ m, begunF ns k = some m ∧ Dr 0 m := by
  unfold begunF
  have hl : (cutL ns (some k) none).length + (cutL ns none (some k)).length ≤ 126 := by
    have h1 := cutL_len (xs := ns) (lo := some k) (hi := none)
    have h2 := cutL_len (xs := ns) (lo := none) (hi := some k)
    omega
  rw [if_pos (szS (by omega))]
  have hl2 : (cutL ns (some k) none ++ cutL ns none (some k)).length ≤ 126 := by rw [List.length_append]; exact hl
  generalize cutL ns (some k) none ++ cutL ns none (some k) = cells at hl2
  have hp : powOk 10 18 = true := by decide
  have hm : mulOk 53 k = true := mulS (.inl ⟨by decide, by decide⟩)
  have hz : szOk (cells.length + 1) = true := szS (by omega)
  refine compV_inv (R := fun m => ∃ m', m = some m' ∧ Dr 0 m') (fun _ _ _ => True) cells 0 [] sizeLine () trivial (by
    have : (126 : Nat) ≤ sizeLine := by decide
    omega) ?_ ?_
  · intro i x acc s _ _
    rw [if_pos hp]
    by_cases hx : 10 ^ Int.toNat 18 ≤ x
    · rw [if_pos hx]
      exact .inr (.inl ⟨x, (), rfl, trivial⟩)
    · rw [if_neg hx]
      exact .inl ⟨(), rfl, trivial⟩
  · intro ds s _
    refine loopV_inv (R := fun m => ∃ m', m = some m' ∧ Dr 0 m') (fun _ _ => True) cells 0 _ trivial ?_ ?_
    · intro i x s _ _
      rw [if_pos (mulS (.inr ⟨by decide, by decide⟩))]
      exact .inl ⟨_, rfl, trivial⟩
    · intro s _
      have hne : ∀ x : Int, cells ++ [x] ≠ [] := fun x => by simp
      cases ds with
      | nil =>
        rw [if_neg (by simp), if_pos hm, if_pos hz]
        exact ⟨_, rfl, hne _, Int.le_refl 0, Int.le_refl 0⟩
      | cons d ds =>
        rw [if_pos (by simp)]
        have e : L2.atI (d :: ds) 0 = some d := by
          unfold L2.atI L2.ixN
          simp
        rw [e]
        dsimp only [osM]
        rw [if_pos hm, if_pos hz]
        exact ⟨_, rfl, hne _, Int.le_refl 0, Int.le_refl 0⟩
/-- a digit's text -/
def bitC (b : Bool) : Nat := if b then 49 else 48
theorem strT_bit (b : Bool) : strT (if b = true then 1 else 0) = [bitC b] := by
  cases b <;> decide +kernel
theorem joinN_one : ∀ bs : List Bool, joinN [] (bs.map fun b => [bitC b]) = bs.map bitC
  | [] => rfl
  | [b] => rfl
  | b :: c :: bs => by
    have ih := joinN_one (c :: bs)
    show [bitC b] ++ [] ++ joinN [] ((c :: bs).map fun b => [bitC b]) = _
    rw [ih]
    rfl
theorem string_ok {q n : Int} {m : MS} (h : Dr q m) (hn : 0 ≤ n) (hn2 : n < 1000) (hq : q + n < 1000000) : ∃ (bs : List Bool) (m' : MS), stringF m n = some (bs.map bitC, m') ∧ bs.length = n.toNat ∧ Dr (q + n) m' := by
  unfold stringF
  rw [if_pos (rngS (by omega) (by omega) (by omega) (by omega))]
  have hlen : (rngI 0 n).length = n.toNat := by rw [rngI_len, Int.sub_zero]
  refine compV_inv (R := fun r => ∃ (bs : List Bool) (m' : MS), r = some (bs.map bitC, m') ∧ bs.length = n.toNat ∧ Dr (q + n) m') (fun i acc s => ∃ bs : List Bool, acc = (bs.map fun b => [bitC b]) ∧ bs.length = i ∧ Dr (q + i) s) (rngI 0 n) 0 [] sizeLine m ⟨[], rfl, rfl, by simpa using h⟩ (by
    have : (1000 : Nat) ≤ sizeLine := by decide
    omega) ?_ ?_
  · rintro i x acc s hx ⟨bs, ha, hl, hd⟩
    have hi := (rngI_get hx).2
    obtain ⟨r, m', e, h0, h1, hd2⟩ := draw_ok (b := 2) hd (by omega) (by decide) (by decide)
    refine .inr (.inl ⟨[bitC (decide (r = 1))], m', ?_, bs ++ [decide (r = 1)], by rw [ha]; simp, by simp [hl], ?_⟩)
    · rw [e]
      show (if r.natAbs.log2 < 1920 then TC.ad (strT r) m' else TC.fin none) = _
      have hr : r = if decide (r = 1) = true then 1 else 0 := by
        by_cases h : r = 1
        · simp [h]
        · have : r = 0 := by omega
          simp [this]
      rw [if_pos (by
        have : r = 0 ∨ r = 1 := by omega
        rcases this with rfl | rfl <;> decide)]
      conv => lhs; rw [hr, strT_bit]
    · have e1 : q + ((0 + i + 1 : Nat) : Int) = q + ((0 + i : Nat) : Int) + 1 := by omega
      rw [e1]
      exact hd2
  · rintro ds s ⟨bs, ha, hl, hd⟩
    rw [Nat.zero_add, hlen] at hl hd
    refine ⟨bs, s, ?_, hl, ?_⟩
    · have hj : joinOk [] ds = true := by
        unfold joinOk
        apply szS
        rw [ha, List.map_map, List.length_nil, Nat.zero_mul, Nat.add_zero]
        have : ∀ bs : List Bool, (bs.map (List.length ∘ fun b => [bitC b])).sum = bs.length := fun bs => by
          induction bs with
          | nil => rfl
          | cons b bs ih =>
            rw [List.map_cons, List.sum_cons, ih, List.length_cons]
            simp
            omega
        rw [this]
        omega
      rw [if_pos hj, ha, joinN_one]
    · have e2 : q + ((n.toNat : Nat) : Int) = q + n := by omega
      rw [← e2]
      exact hd
end TM

set_option Elab.async false
set_option maxRecDepth 100000
set_option maxHeartbeats 1000000
/-! TD2: mirrors that many laws share: Euclid, ratios, places. -/
namespace TM
open PySem TW
def twosF (x_count : Int) : Option Int :=
  if rngOk 0 x_count = true then
    loopV (fun (s : Int × Jk) (x : Int) => if mulOk 2 s.fst = true then TB.nx (2 * s.fst, Jk.f (inj x)) else TB.fin none)
      (fun s => some s.fst) (rngI 0 x_count) (1, Jk.n)
  else none
def sharedF (x_a x_b : Int) : Option Int :=
  if rngOk 0 400 = true then
    loopV
      (fun (s : Int × Int × Jk) (x : Int) =>
        if decide (s.snd.fst = 0) = true then TB.fin (some s.fst)
        else if ¬s.snd.fst = 0 then TB.nx (s.snd.fst, s.fst.fmod s.snd.fst, Jk.f (inj x)) else TB.fin none)
      (fun s => some s.fst) (rngI 0 400) (x_a, x_b, Jk.n)
  else none
def lratioF (x_a x_b : Int) : Option (Int × Int) :=
  osM none (sharedF (if x_a < 0 then -x_a else x_a) x_b) fun b =>
    if divOk b = true then if divOk b = true then some (x_a.fdiv b, x_b.fdiv b) else none else none
def binaryF (x_head x_cycle : List Nat) : Option (Int × Int) :=
  loopV
    (fun s x =>
      if mulOk 2 s.fst = true then osM (TB.fin none) (intT x) fun b => TB.nx (2 * s.fst + b, Jk.f (inj x))
      else TB.fin none)
    (fun (s : Int × Jk) =>
      loopV
        (fun s x =>
          if mulOk 2 s.fst = true then osM (TB.fin none) (intT x) fun b => TB.nx (2 * s.fst + b, Jk.f (inj x))
          else TB.fin none)
        (fun (s_1 : Int × Jk) =>
          if szOk x_cycle.length = true then
            osM none (twosF (x_cycle.length : Int)) fun b =>
              if szOk x_head.length = true then
                osM none (twosF (x_head.length : Int)) fun b_1 =>
                  if mulOk b_1 (b - 1) = true then
                    if mulOk s.fst (b - 1) = true then
                      if ¬b_1 * (b - 1) = 0 then
                        osM none (lratioF ((s.fst * (b - 1) + s_1.fst).fmod (b_1 * (b - 1))) (b_1 * (b - 1)))
                          fun b => some b
                      else none
                    else none
                  else none
              else none
          else none)
        (chars x_cycle) (0, s.snd))
    (chars x_head) (0, Jk.n)
def placeF (x_m : MS) (x_ahead x_again : Int) : Option ((Int × Int) × MS) :=
  osM none (stringF x_m x_ahead) fun b =>
    osM none (stringF b.snd x_again) fun b_1 => osM none (binaryF b.fst b_1.fst) fun b => some (b, b_1.2)
def anyPlaceF (x_m : MS) (x_limit : Int) : Option ((Int × Int) × MS) :=
  osM none (drawF x_m x_limit) fun b =>
    osM none (drawF b.snd (x_limit - (1 + b.fst) + 1)) fun b_1 =>
      osM none (placeF b_1.snd b_1.fst (1 + b.fst)) fun b => some (b.fst, b.snd)
/-! ### what they give -/
theorem osM_some {β M : Type} {no : M} {a : β} {k : β → M} : osM no (some a) k = k a := (rfl)
theorem pow_pos2 (n : Nat) : (0 : Int) < 2 ^ n := Int.pow_pos (by decide)
theorem twos_ok {n : Nat} (hn : n < 1000000) : twosF (n : Int) = some (2 ^ n) := by
  unfold twosF
  rw [if_pos (rngS (by omega) (by omega) (by omega) (by omega))]
  refine loopV_inv (R := fun r => r = some ((2 : Int) ^ n)) (fun i (s : Int × Jk) => s.1 = 2 ^ i) (rngI 0 n) 0 _ rfl ?_ ?_
  · intro i x s hx hs
    rw [if_pos (mulS (.inl ⟨by decide, by decide⟩))]
    refine .inl ⟨_, rfl, ?_⟩
    show 2 * s.1 = _
    rw [hs, Int.pow_succ, Int.mul_comm]
  · intro s hs
    rw [rngI_len, Nat.zero_add] at hs
    show some s.1 = _
    rw [hs]
    congr 2
def eucN : Nat → Nat → Nat → Nat
  | 0, a, _ => a
  | n + 1, a, b => if b = 0 then a else eucN n b (a % b)
theorem eucN_zero (n a : Nat) : eucN n a 0 = a := by
  cases n with
  | zero => rfl
  | succ n => unfold eucN; rw [if_pos rfl]
theorem eucN_gcd : ∀ (k n a b : Nat), 2 * k + 1 ≤ n → b < 2 ^ k → eucN n a b = Nat.gcd a b
  | 0, n, a, b, _, h => by
    have : b = 0 := by omega
    subst this
    rw [eucN_zero, Nat.gcd_zero_right]
  | k + 1, n, a, b, hn, h => by
    by_cases h0 : b = 0
    · subst h0
      rw [eucN_zero, Nat.gcd_zero_right]
    · obtain ⟨n, rfl⟩ : ∃ m, n = m + 2 := ⟨n - 2, by omega⟩
      have e1 : Nat.gcd a b = Nat.gcd b (a % b) := by rw [Nat.gcd_comm, Nat.gcd_rec, Nat.gcd_comm]
      unfold eucN
      rw [if_neg h0, e1]
      have hr : a % b < b := Nat.mod_lt _ (by omega)
      generalize a % b = r at hr
      by_cases hr0 : r = 0
      · subst hr0
        rw [eucN_zero, Nat.gcd_zero_right]
      · unfold eucN
        rw [if_neg hr0]
        have e2 : Nat.gcd b r = Nat.gcd r (b % r) := by rw [Nat.gcd_comm, Nat.gcd_rec, Nat.gcd_comm]
        rw [e2]
        refine eucN_gcd k n r (b % r) (by omega) ?_
        have h1 : b % r < r := Nat.mod_lt _ (by omega)
        have h2 : r + b % r ≤ b := by
          have := Nat.div_add_mod b r
          have h3 : 1 ≤ b / r := Nat.div_pos (by omega) (by omega)
          have h4 : r * 1 ≤ r * (b / r) := Nat.mul_le_mul_left r h3
          omega
        rw [Nat.pow_succ] at h
        omega
theorem shared_ok {a b : Nat} (hb : b < 2 ^ 199) : sharedF (a : Int) (b : Int) = some ((Nat.gcd a b : Nat) : Int) := by
  unfold sharedF
  rw [if_pos (by decide)]
  have hg := eucN_gcd 199 400 a b (by decide) hb
  refine loopV_inv (R := fun r => r = some ((Nat.gcd a b : Nat) : Int)) (fun i (s : Int × Int × Jk) => ∃ x y : Nat, s.1 = x ∧ s.2.1 = y ∧ eucN (400 - i) x y = eucN 400 a b) (rngI 0 400) 0 _ ⟨a, b, rfl, rfl, rfl⟩ ?_ ?_
  · rintro i z ⟨x', y', j⟩ hz ⟨x, y, hx, hy, he⟩
    simp only at hx hy ⊢
    subst hx hy
    have hi := (rngI_get hz).2
    have hi : i < 400 := by simpa using hi
    by_cases h0 : y = 0
    · subst h0
      rw [if_pos (by simp)]
      rw [eucN_zero, hg] at he
      exact .inr (.inr ⟨_, rfl, by rw [he]⟩)
    · rw [if_neg (by simp; omega), if_pos (by omega)]
      refine .inl ⟨_, rfl, y, x % y, rfl, by rw [Int.fmod_eq_emod_of_nonneg _ (by omega)]; rfl, ?_⟩
      rw [← he]
      obtain ⟨n, hn⟩ : ∃ n, 400 - (0 + i) = n + 1 := ⟨399 - i, by omega⟩
      rw [hn, show 400 - (0 + i + 1) = n by omega]
      conv => rhs; unfold eucN
      rw [if_neg h0]
  · rintro ⟨x', y', j⟩ ⟨x, y, hx, hy, he⟩
    simp only at hx hy ⊢
    have hl : (rngI 0 400).length = 400 := by rw [rngI_len]; rfl
    rw [hl] at he
    have he : x = eucN 400 a b := he
    rw [hx, he, hg]
theorem divG {g : Nat} (h : 0 < g) (h2 : g < 2 ^ 8000) : divOk (g : Int) = true := divOk_small (by omega) (by simpa using h2)
theorem lratio_ok {a b : Nat} (h0 : 0 < b) (hb : b < 2 ^ 199) : lratioF (a : Int) (b : Int) = some (((a / Nat.gcd a b : Nat) : Int), ((b / Nat.gcd a b : Nat) : Int)) := by
  unfold lratioF
  rw [if_neg (by omega), shared_ok hb]
  have hg : 0 < Nat.gcd a b := Nat.gcd_pos_of_pos_right _ h0
  have hg2 : Nat.gcd a b ≤ b := Nat.gcd_le_right _ h0
  have hd : divOk ((Nat.gcd a b : Nat) : Int) = true := divG hg (Nat.lt_of_le_of_lt hg2 (Nat.lt_trans hb (Nat.pow_lt_pow_right (by decide) (by decide))))
  dsimp only [osM]
  rw [if_pos hd, if_pos hd, Int.fdiv_eq_ediv_of_nonneg _ (by omega), Int.fdiv_eq_ediv_of_nonneg _ (by omega)]
  rfl
/-- a place of at most so great a denominator -/
structure Pl (N : Nat) (x : Int × Int) : Prop where
  a : 0 ≤ x.1
  b : x.1 < x.2
  n : x.2 ≤ N
  g : Int.gcd x.1 x.2 = 1
/-- the number with these digits -/
def binN (bs : List Bool) : Nat := bs.foldl (fun x b => 2 * x + (if b = true then 1 else 0)) 0
theorem binN_snoc (bs : List Bool) (b : Bool) : binN (bs ++ [b]) = 2 * binN bs + (if b = true then 1 else 0) := by
  unfold binN
  rw [List.foldl_append]
  rfl
theorem intT_bit (b : Bool) : intT [bitC b] = some (if b = true then 1 else 0) := by
  cases b <;> decide +kernel
theorem chars_bits (bs : List Bool) : chars (bs.map bitC) = bs.map fun b => [bitC b] := by
  unfold chars
  rw [List.map_map]
  rfl
theorem digits_loop {M : Type} {no : M} {R : M → Prop} {done : Int × Jk → M} (bs : List Bool) (j : Jk) (hd : ∀ j, R (done ((binN bs : Nat), j))) :
    R (loopV (fun (s : Int × Jk) (x : List Nat) => if mulOk 2 s.fst = true then osM (TB.fin no) (intT x) fun b => TB.nx (2 * s.fst + b, Jk.f (inj x)) else TB.fin no) done (chars (bs.map bitC)) (0, j)) := by
  rw [chars_bits]
  refine loopV_inv (fun i (s : Int × Jk) => s.1 = (binN (bs.take i) : Nat)) _ 0 _ rfl ?_ ?_
  · intro i x s hx hs
    rw [if_pos (mulS (.inl ⟨by decide, by decide⟩))]
    rw [List.getElem?_map] at hx
    cases e : bs[i]? with
    | none => rw [e] at hx; cases hx
    | some b =>
      rw [e] at hx
      cases hx
      rw [intT_bit]
      refine .inl ⟨_, rfl, ?_⟩
      rw [Nat.zero_add] at hs ⊢
      show 2 * s.1 + _ = _
      rw [hs, List.take_add_one, e]
      show _ = ((binN (bs.take i ++ [b]) : Nat) : Int)
      rw [binN_snoc]
      cases b <;> simp
  · rintro ⟨s, j'⟩ hs
    rw [List.length_map, Nat.zero_add, List.take_length] at hs
    simp only at hs
    rw [hs]
    exact hd j'
theorem binary_ok {hs cs : List Bool} (hc : cs ≠ []) (hl : hs.length + cs.length ≤ 24) : ∃ x, binaryF (hs.map bitC) (cs.map bitC) = some x ∧ Pl (16777216) x := by
  unfold binaryF
  refine digits_loop (R := fun r => ∃ x, r = some x ∧ Pl (16777216) x) hs Jk.n fun j => ?_
  refine digits_loop (R := fun r => ∃ x, r = some x ∧ Pl (16777216) x) cs j fun j2 => ?_
  have hc1 : 1 ≤ cs.length := by
    cases cs with
    | nil => exact (hc rfl).elim
    | cons c cs => simp
  rw [List.length_map, List.length_map, if_pos (szS (by omega)), twos_ok (by omega)]
  rw [osM_some]
  rw [if_pos (szS (by omega)), twos_ok (by omega)]
  rw [osM_some]
  obtain ⟨w, hw⟩ : ∃ w : Nat, w + 1 = 2 ^ cs.length := ⟨2 ^ cs.length - 1, by have := Nat.pos_of_ne_zero (Nat.pos_iff_ne_zero.mp (Nat.pow_pos (n := cs.length) (show 0 < 2 by decide))); omega⟩
  have hw1 : 1 ≤ w := by
    have : 2 ^ 1 ≤ 2 ^ cs.length := Nat.pow_le_pow_right (by decide) hc1
    omega
  have ew : ((2 : Int) ^ cs.length - 1) = (w : Nat) := by
    have : ((2 ^ cs.length : Nat) : Int) = (2 : Int) ^ cs.length := by simp
    rw [← this, ← hw]
    simp
  have eh : ((2 : Int) ^ hs.length) = ((2 ^ hs.length : Nat) : Int) := by simp
  rw [ew, eh]
  have hB : 2 ^ hs.length * w < 16777216 := by
    have h1 : 2 ^ hs.length * (w + 1) ≤ 16777216 := by
      rw [hw, ← Nat.pow_add]
      have h3 : 2 ^ (hs.length + cs.length) ≤ 2 ^ 24 := Nat.pow_le_pow_right (by decide) hl
      exact Nat.le_trans h3 (by decide)
    have h2 : 0 < 2 ^ hs.length := Nat.pow_pos (by decide)
    rw [Nat.mul_add, Nat.mul_one] at h1
    omega
  have hB0 : 0 < 2 ^ hs.length * w := Nat.mul_pos (Nat.pow_pos (by decide)) (by omega)
  have hw24 : w < 16777216 := by
    have : w * 1 ≤ 2 ^ hs.length * w := by rw [Nat.mul_comm]; exact Nat.mul_le_mul_right w (Nat.pow_pos (by decide))
    omega
  have hwi : ((w : Nat) : Int) < 18446744073709551616 := by omega
  rw [if_pos (mulS (.inr ⟨by omega, hwi⟩)), if_pos (mulS (.inr ⟨by omega, hwi⟩))]
  have em : ((2 ^ hs.length : Nat) : Int) * ((w : Nat) : Int) = ((2 ^ hs.length * w : Nat) : Int) := by simp
  rw [em]
  generalize 2 ^ hs.length * w = B at hB hB0
  rw [if_pos (by omega)]
  have ef : (((binN hs : Nat) : Int) * ((w : Nat) : Int) + ((binN cs : Nat) : Int)).fmod ((B : Nat) : Int) = (((binN hs * w + binN cs) % B : Nat) : Int) := by
    rw [Int.fmod_eq_emod_of_nonneg _ (by omega)]
    simp
  rw [ef]
  have ht : (binN hs * w + binN cs) % B < B := Nat.mod_lt _ hB0
  generalize (binN hs * w + binN cs) % B = t at ht
  rw [lratio_ok hB0 (Nat.lt_trans hB (by decide +kernel))]
  refine ⟨_, rfl, ?_⟩
  have hg : 0 < Nat.gcd t B := Nat.gcd_pos_of_pos_right _ hB0
  have hd1 : Nat.gcd t B ∣ t := Nat.gcd_dvd_left _ _
  have hd2 : Nat.gcd t B ∣ B := Nat.gcd_dvd_right _ _
  refine ⟨Int.natCast_nonneg _, ?_, ?_, ?_⟩
  · simp only
    have : t / Nat.gcd t B < B / Nat.gcd t B := Nat.div_lt_div_of_lt_of_dvd hd2 ht
    omega
  · simp only
    have : B / Nat.gcd t B ≤ B := Nat.div_le_self _ _
    omega
  · simp only
    rw [Int.gcd_natCast_natCast]
    exact Nat.gcd_div_gcd_div_gcd_of_pos_right hB0

/-- the place with these digits, exactly -/
theorem binary_eq {hs cs : List Bool} (hc : cs ≠ []) (hl : hs.length + cs.length ≤ 24) : binaryF (hs.map bitC) (cs.map bitC) = some ((((binN hs * (2 ^ cs.length - 1) + binN cs) % (2 ^ hs.length * (2 ^ cs.length - 1)) / Nat.gcd ((binN hs * (2 ^ cs.length - 1) + binN cs) % (2 ^ hs.length * (2 ^ cs.length - 1))) (2 ^ hs.length * (2 ^ cs.length - 1)) : Nat) : Int), ((2 ^ hs.length * (2 ^ cs.length - 1) / Nat.gcd ((binN hs * (2 ^ cs.length - 1) + binN cs) % (2 ^ hs.length * (2 ^ cs.length - 1))) (2 ^ hs.length * (2 ^ cs.length - 1)) : Nat) : Int)) := by
  unfold binaryF
  refine digits_loop (R := fun r => r = some ((((binN hs * (2 ^ cs.length - 1) + binN cs) % (2 ^ hs.length * (2 ^ cs.length - 1)) / Nat.gcd ((binN hs * (2 ^ cs.length - 1) + binN cs) % (2 ^ hs.length * (2 ^ cs.length - 1))) (2 ^ hs.length * (2 ^ cs.length - 1)) : Nat) : Int), ((2 ^ hs.length * (2 ^ cs.length - 1) / Nat.gcd ((binN hs * (2 ^ cs.length - 1) + binN cs) % (2 ^ hs.length * (2 ^ cs.length - 1))) (2 ^ hs.length * (2 ^ cs.length - 1)) : Nat) : Int))) hs Jk.n fun j => ?_
  refine digits_loop (R := fun r => r = some ((((binN hs * (2 ^ cs.length - 1) + binN cs) % (2 ^ hs.length * (2 ^ cs.length - 1)) / Nat.gcd ((binN hs * (2 ^ cs.length - 1) + binN cs) % (2 ^ hs.length * (2 ^ cs.length - 1))) (2 ^ hs.length * (2 ^ cs.length - 1)) : Nat) : Int), ((2 ^ hs.length * (2 ^ cs.length - 1) / Nat.gcd ((binN hs * (2 ^ cs.length - 1) + binN cs) % (2 ^ hs.length * (2 ^ cs.length - 1))) (2 ^ hs.length * (2 ^ cs.length - 1)) : Nat) : Int))) cs j fun j2 => ?_
  have hc1 : 1 ≤ cs.length := by
    cases cs with
    | nil => exact (hc rfl).elim
    | cons c cs => simp
  rw [List.length_map, List.length_map, if_pos (szS (by omega)), twos_ok (by omega)]
  rw [osM_some]
  rw [if_pos (szS (by omega)), twos_ok (by omega)]
  rw [osM_some]
  obtain ⟨w, hw⟩ : ∃ w : Nat, w + 1 = 2 ^ cs.length := ⟨2 ^ cs.length - 1, by have := Nat.pos_of_ne_zero (Nat.pos_iff_ne_zero.mp (Nat.pow_pos (n := cs.length) (show 0 < 2 by decide))); omega⟩
  have hw0 : 2 ^ cs.length - 1 = w := by omega
  rw [hw0]
  have hw1 : 1 ≤ w := by
    have : 2 ^ 1 ≤ 2 ^ cs.length := Nat.pow_le_pow_right (by decide) hc1
    omega
  have ew : ((2 : Int) ^ cs.length - 1) = (w : Nat) := by
    have : ((2 ^ cs.length : Nat) : Int) = (2 : Int) ^ cs.length := by simp
    rw [← this, ← hw]
    simp
  have eh : ((2 : Int) ^ hs.length) = ((2 ^ hs.length : Nat) : Int) := by simp
  rw [ew, eh]
  have hB : 2 ^ hs.length * w < 16777216 := by
    have h1 : 2 ^ hs.length * (w + 1) ≤ 16777216 := by
      rw [hw, ← Nat.pow_add]
      have h3 : 2 ^ (hs.length + cs.length) ≤ 2 ^ 24 := Nat.pow_le_pow_right (by decide) hl
      exact Nat.le_trans h3 (by decide)
    have h2 : 0 < 2 ^ hs.length := Nat.pow_pos (by decide)
    rw [Nat.mul_add, Nat.mul_one] at h1
    omega
  have hB0 : 0 < 2 ^ hs.length * w := Nat.mul_pos (Nat.pow_pos (by decide)) (by omega)
  have hw24 : w < 16777216 := by
    have : w * 1 ≤ 2 ^ hs.length * w := by rw [Nat.mul_comm]; exact Nat.mul_le_mul_right w (Nat.pow_pos (by decide))
    omega
  have hwi : ((w : Nat) : Int) < 18446744073709551616 := by omega
  rw [if_pos (mulS (.inr ⟨by omega, hwi⟩)), if_pos (mulS (.inr ⟨by omega, hwi⟩))]
  have em : ((2 ^ hs.length : Nat) : Int) * ((w : Nat) : Int) = ((2 ^ hs.length * w : Nat) : Int) := by simp
  rw [em]
  generalize 2 ^ hs.length * w = B at hB hB0
  rw [if_pos (by omega)]
  have ef : (((binN hs : Nat) : Int) * ((w : Nat) : Int) + ((binN cs : Nat) : Int)).fmod ((B : Nat) : Int) = (((binN hs * w + binN cs) % B : Nat) : Int) := by
    rw [Int.fmod_eq_emod_of_nonneg _ (by omega)]
    simp
  rw [ef]
  have ht : (binN hs * w + binN cs) % B < B := Nat.mod_lt _ hB0
  generalize (binN hs * w + binN cs) % B = t at ht
  rw [lratio_ok hB0 (Nat.lt_trans hB (by decide +kernel))]
  rfl
/-- a place of these ways in and periods -/
def mkPl (a n : Nat) (t : Nat) : Int × Int := (((t / Nat.gcd t (2 ^ a * (2 ^ n - 1)) : Nat) : Int), ((2 ^ a * (2 ^ n - 1) / Nat.gcd t (2 ^ a * (2 ^ n - 1)) : Nat) : Int))
theorem binary_mk {hs cs : List Bool} (hc : cs ≠ []) (hl : hs.length + cs.length ≤ 24) : ∃ t, t < 2 ^ hs.length * (2 ^ cs.length - 1) ∧ binaryF (hs.map bitC) (cs.map bitC) = some (mkPl hs.length cs.length t) := by
  refine ⟨(binN hs * (2 ^ cs.length - 1) + binN cs) % (2 ^ hs.length * (2 ^ cs.length - 1)), Nat.mod_lt _ ?_, binary_eq hc hl⟩
  have hc1 : 1 ≤ cs.length := by
    cases cs with
    | nil => exact (hc rfl).elim
    | cons c cs => simp
  have : 2 ^ 1 ≤ 2 ^ cs.length := Nat.pow_le_pow_right (by decide) hc1
  exact Nat.mul_pos (Nat.pow_pos (by decide)) (by omega)
theorem place_ok {q a g : Int} {m : MS} (h : Dr q m) (ha : 0 ≤ a) (hg : 1 ≤ g) (hs : a + g ≤ 24) (hq : q < 900000) : ∃ x m', placeF m a g = some (x, m') ∧ Pl 16777216 x ∧ Dr (q + 24) m' := by
  obtain ⟨hs1, m1, e1, l1, d1⟩ := string_ok h ha (by omega) (by omega)
  obtain ⟨hs2, m2, e2, l2, d2⟩ := string_ok d1 (n := g) (by omega) (by omega) (by omega)
  obtain ⟨x, e3, hp⟩ := binary_ok (hs := hs1) (cs := hs2) (by
    intro e
    subst e
    simp at l2
    omega) (by omega)
  refine ⟨x, m2, ?_, hp, d2.mono (by omega)⟩
  unfold placeF
  rw [e1, osM_some, e2, osM_some, e3, osM_some]
theorem anyPlace_ok {q l : Int} {m : MS} (h : Dr q m) (hl : 1 ≤ l) (hl2 : l ≤ 24) (hq : q < 800000) : ∃ x m', anyPlaceF m l = some (x, m') ∧ Pl 16777216 x ∧ Dr (q + 26) m' := by
  obtain ⟨r, m1, e1, r0, r1, d1⟩ := draw_ok h (b := l) (by omega) (by omega) (by omega)
  obtain ⟨t, m2, e2, t0, t1, d2⟩ := draw_ok d1 (b := l - (1 + r) + 1) (by omega) (by omega) (by omega)
  obtain ⟨x, m3, e3, hp, d3⟩ := place_ok d2 (a := t) (g := 1 + r) t0 (by omega) (by omega) (by omega)
  refine ⟨x, m3, ?_, hp, d3.mono (by omega)⟩
  unfold anyPlaceF
  rw [e1, osM_some, e2, osM_some, e3, osM_some]
theorem place_mk {q a g : Int} {m : MS} (h : Dr q m) (ha : 0 ≤ a) (hg : 1 ≤ g) (hs : a + g ≤ 24) (hq : q < 900000) : ∃ t m', t < 2 ^ a.toNat * (2 ^ g.toNat - 1) ∧ placeF m a g = some (mkPl a.toNat g.toNat t, m') ∧ Dr (q + 24) m' := by
  obtain ⟨hs1, m1, e1, l1, d1⟩ := string_ok h ha (by omega) (by omega)
  obtain ⟨hs2, m2, e2, l2, d2⟩ := string_ok d1 (n := g) (by omega) (by omega) (by omega)
  obtain ⟨t, ht, e3⟩ := binary_mk (hs := hs1) (cs := hs2) (by
    intro e
    subst e
    simp at l2
    omega) (by omega)
  rw [l1, l2] at ht e3
  refine ⟨t, m2, ht, ?_, d2.mono (by omega)⟩
  unfold placeF
  rw [e1, osM_some, e2, osM_some, e3, osM_some]
end TM

set_option Elab.async false
set_option maxRecDepth 100000
set_option maxHeartbeats 4000000
/-! TD6: unlike marks, addresses, star words (mirrors that many laws share). -/
open PySem TW TM
namespace TM
def unlikeF (x_marks : List Nat) (x_m : Int) : Option (Option Int) :=
  if szOk x_marks.length = true then
    if rngOk (x_m + 1) (x_m + (x_marks.length : Int) + 1) = true then
      loopV
        (fun (s : Jk) (x : Int) =>
          if ¬(x_marks.length : Int) = 0 then
            if szOk x_marks.length = true then
              osM (TB.fin none) (L2.atI x_marks ((x - 1).fmod (x_marks.length : Int))) fun b =>
                if ¬(x_marks.length : Int) = 0 then
                  if szOk x_marks.length = true then
                    osM (TB.fin none) (L2.atI x_marks ((x - x_m - 1).fmod (x_marks.length : Int))) fun b_1 =>
                      if ¬[b] = [b_1] then TB.fin (some (some x)) else TB.nx (Jk.f (inj x))
                  else TB.fin none
                else TB.fin none
            else TB.fin none
          else TB.fin none)
        (fun s => some none) (rngI (x_m + 1) (x_m + (x_marks.length : Int) + 1)) Jk.n
    else none
  else none
def addressF (x_marks : List Nat) : Option (Tp Int) :=
  osM none (unlikeF x_marks 1) fun b =>
    optM b
      (whileV none
        (fun (s : List Int × Option Int) =>
          optM s.snd (TB.bk (s.fst, none)) fun b =>
            if szOk x_marks.length = true then
              if b ≤ (x_marks.length : Int) then
                if szOk (s.fst.length + 1) = true then
                  osM (TB.fin none) (unlikeF x_marks b) fun b_1 =>
                    optM b_1 (TB.nx (s.fst ++ [b], none)) fun b_2 => TB.nx (s.fst ++ [b], some b_2)
                else TB.fin none
              else TB.bk (s.fst, some b)
            else TB.fin none)
        (fun s => optM s.snd (some { l := s.fst }) fun b => some { l := s.fst }) WF ([1], none))
      fun b =>
      whileV none
        (fun (s : List Int × Option Int) =>
          optM s.snd (TB.bk (s.fst, none)) fun b =>
            if szOk x_marks.length = true then
              if b ≤ (x_marks.length : Int) then
                if szOk (s.fst.length + 1) = true then
                  osM (TB.fin none) (unlikeF x_marks b) fun b_1 =>
                    optM b_1 (TB.nx (s.fst ++ [b], none)) fun b_2 => TB.nx (s.fst ++ [b], some b_2)
                else TB.fin none
              else TB.bk (s.fst, some b)
            else TB.fin none)
        (fun s => optM s.snd (some { l := s.fst }) fun b => some { l := s.fst }) WF ([1], some b)
def lmarkAtF (x_marks : List Nat) (x_k : Int) : Option (List Nat) :=
  if szOk x_marks.length = true then
    if ¬(x_marks.length : Int) = 0 then
      if szOk x_marks.length = true then osM none (L2.atI x_marks ((x_k - 1).fmod (x_marks.length : Int))) fun b => some [b]
      else none
    else none
  else none
def lunlikeF (x_marks : List Nat) (x_m : Int) : Option (Option Int) :=
  if szOk x_marks.length = true then
    if mulOk 3 (x_marks.length : Int) = true then
      if rngOk (x_m + 1) (x_m + 3 * (x_marks.length : Int) + 2) = true then
        loopV
          (fun (s : Jk) (x : Int) =>
            osM (TB.fin none) (lmarkAtF x_marks x) fun b =>
              osM (TB.fin none) (lmarkAtF x_marks (x - x_m)) fun b_1 =>
                if ¬b = b_1 then TB.fin (some (some x)) else TB.nx (Jk.f (inj x)))
          (fun s => some none) (rngI (x_m + 1) (x_m + 3 * (x_marks.length : Int) + 2)) Jk.n
      else none
    else none
  else none
def lchainF (x_marks : List Nat) (x_begin x_most : Int) : Option (List Int) :=
  if rngOk 0 (x_most + 1) = true then
    loopV
      (fun (s : List Int × Option Int × Jk) (x : Int) =>
        optM s.snd.fst (TB.nx (s.fst, none, Jk.f (inj x))) fun b =>
          if b ≤ x_most then
            if szOk (s.fst.length + 1) = true then
              osM (TB.fin none) (lunlikeF x_marks b) fun b_1 =>
                optM b_1 (TB.nx (s.fst ++ [b], none, Jk.f (inj x))) fun b_2 =>
                  TB.nx (s.fst ++ [b], some b_2, Jk.f (inj x))
            else TB.fin none
          else TB.nx (s.fst, some b, Jk.f (inj x)))
      (fun s => optM s.snd.fst (some s.fst) fun b => some s.fst) (rngI 0 (x_most + 1)) ([], some x_begin, Jk.n)
  else none
def laddressF (x_marks : List Nat) : Option (Tp Int) :=
  if szOk x_marks.length = true then osM none (lchainF x_marks 1 (x_marks.length : Int)) fun b => some { l := b } else none
def lwordF (x_m : MS) (x_most : Int) : Option (List Nat × MS) :=
  osM none (drawF x_m x_most) fun b =>
    if decide (1 + b.fst = 1) = true then some ([42], b.2)
    else
      osM none (stringF b.snd (1 + b.fst - 2)) fun b =>
        if szOk (1 + b.fst.length) = true then
          if szOk (b.fst.length + 1 + 1) = true then some (49 :: (b.fst ++ [42]), b.2) else none
        else none
theorem joinC_ad {S γ M : Type} {no : M} {v : γ} {s : S} {k : γ → M} : joinC no (TC.ad v s) k = k v := (rfl)
theorem joinS_ad {S γ M : Type} {no : M} {v : γ} {s : S} {k : γ → S → M} : joinS no (TC.ad v s) k = k v s := (rfl)
/-! ### marks of a string that goes on for ever -/
def F (w : List Nat) (k : Int) : Nat := w.getD ((k - 1).fmod (w.length : Int)).toNat 0
theorem atI_pos {α : Type} {l : List α} {i : Int} (h0 : 0 ≤ i) (h1 : i < (l.length : Nat)) : L2.atI l i = l[i.toNat]? := by
  unfold L2.atI L2.ixN
  rw [if_pos h0, if_pos h1]
  rfl
theorem atI_last {α : Type} {l : List α} (h : l ≠ []) : L2.atI l (-1) = l.getLast? := by
  have hl : 0 < l.length := List.length_pos_iff.mpr h
  unfold L2.atI L2.ixN
  rw [if_neg (by decide), if_pos (by omega)]
  rw [List.getLast?_eq_getElem?]
  show l[_]? = _
  congr 1
  omega
theorem F_at {w : List Nat} (h : 0 < w.length) (k : Int) : L2.atI w ((k - 1).fmod (w.length : Int)) = some (F w k) := by
  have hb := fmod_bd (a := k - 1) (b := (w.length : Int)) (by omega)
  rw [atI_pos hb.1 hb.2]
  unfold F
  rw [List.getD_eq_getElem?_getD]
  have : ((k - 1).fmod (w.length : Int)).toNat < w.length := by omega
  rw [List.getElem?_eq_getElem this]
  rfl
theorem fm {a n : Int} (h : 0 < n) : a.fmod n = a % n := Int.fmod_eq_emod_of_nonneg a (Int.le_of_lt h)
theorem F_per {w : List Nat} (h : 0 < w.length) (k : Int) : F w (k + w.length) = F w k := by
  unfold F
  have hn : (0 : Int) < w.length := by omega
  rw [fm hn, fm hn]
  have : (k + (w.length : Int) - 1) % (w.length : Int) = (k - 1) % (w.length : Int) := by
    rw [show k + (w.length : Int) - 1 = (k - 1) + w.length by omega, Int.add_emod_right]
  rw [this]
theorem F_dbl {w : List Nat} (h : 0 < w.length) (k : Int) : F (w ++ w) k = F w k := by
  unfold F
  have hn : (0 : Int) < w.length := by omega
  have hn2 : (0 : Int) < (w ++ w).length := by rw [List.length_append]; omega
  rw [fm hn, fm hn2]
  have e2 : (((w ++ w).length : Nat) : Int) = 2 * w.length := by rw [List.length_append]; omega
  have hb := Int.emod_nonneg (k - 1) (show (((w ++ w).length : Nat) : Int) ≠ 0 by omega)
  have hb2 := Int.emod_lt_of_pos (k - 1) hn2
  have em : (k - 1) % (((w ++ w).length : Nat) : Int) % (w.length : Int) = (k - 1) % (w.length : Int) := Int.emod_emod_of_dvd _ (by rw [e2]; exact ⟨2, by omega⟩)
  rw [← em]
  generalize (k - 1) % (((w ++ w).length : Nat) : Int) = i at hb hb2
  rw [e2] at hb2
  rw [List.getD_eq_getElem?_getD, List.getD_eq_getElem?_getD]
  by_cases q : i < w.length
  · rw [Int.emod_eq_of_lt hb q, List.getElem?_append_left (by omega)]
  · have e3 : i % (w.length : Int) = i - w.length := by
      have : i = (i - w.length) + w.length := by omega
      rw [this, Int.add_emod_right, Int.emod_eq_of_lt (by omega) (by omega)]
      omega
    rw [e3, List.getElem?_append_right (by omega)]
    congr 2
    omega
def U (w : List Nat) (m k : Int) : Bool := decide (F w k ≠ F w (k - m))
theorem U_per {w : List Nat} (h : 0 < w.length) (m k : Int) : U w m (k + w.length) = U w m k := by
  unfold U
  rw [F_per h, show k + (w.length : Int) - m = (k - m) + w.length by omega, F_per h]
/-! ### the first that is so -/
structure Lst (p : Int → Bool) (a b : Int) (o : Option Int) : Prop where
  n : o = none → ∀ j, a ≤ j → j < b → p j = false
  s : ∀ k, o = some k → a ≤ k ∧ k < b ∧ p k = true ∧ ∀ j, a ≤ j → j < k → p j = false
theorem Lst.ofSome {p : Int → Bool} {a b k : Int} (h1 : a ≤ k) (h2 : k < b) (h3 : p k = true) (h4 : ∀ j, a ≤ j → j < k → p j = false) : Lst p a b (some k) := by
  refine ⟨(fun e => by cases e), fun k' e => ?_⟩
  cases e
  exact ⟨h1, h2, h3, h4⟩
theorem find_rng (p : Int → Bool) : ∀ (n : Nat) (a b : Int), (b - a).toNat = n → Lst p a b ((rngI a b).find? p) := by
  intro n
  induction n with
  | zero =>
    intro a b h
    have e : rngI a b = [] := by
      unfold rngI
      rw [h]
      rfl
    rw [e]
    exact ⟨fun _ j h1 h2 => by omega, fun k e => by cases e⟩
  | succ n ih =>
    intro a b h
    have e : rngI a b = a :: rngI (a + 1) b := by
      unfold rngI
      rw [show (b - a).toNat = (b - (a + 1)).toNat + 1 by omega, List.range_succ_eq_map, List.map_cons, List.map_map]
      congr 1
      · simp
      · apply List.map_congr_left
        intro i _
        simp only [Function.comp]
        omega
    rw [e, List.find?_cons]
    have q := ih (a + 1) b (by omega)
    cases hp : p a with
    | true =>
      refine ⟨(fun e => by cases e), fun k e => ?_⟩
      cases e
      exact ⟨Int.le_refl _, by omega, hp, fun j h1 h2 => by omega⟩
    | false =>
      simp only
      refine ⟨fun e j h1 h2 => ?_, fun k e => ?_⟩
      · by_cases z : j = a
        · rw [z]; exact hp
        · exact q.n e j (by omega) h2
      · obtain ⟨q1, q2, q3, q4⟩ := q.s k e
        refine ⟨by omega, q2, q3, fun j h1 h2 => ?_⟩
        by_cases z : j = a
        · rw [z]; exact hp
        · exact q4 j (by omega) h2
theorem Lst.uniq {p : Int → Bool} {a b c : Int} {o o' : Option Int} (h : Lst p a b o) (h' : Lst p a c o') (hbc : b ≤ c) (no : (∀ j, a ≤ j → j < b → p j = false) → ∀ j, a ≤ j → j < c → p j = false) : o = o' := by
  cases o with
  | none =>
    cases o' with
    | none => rfl
    | some k =>
      obtain ⟨q1, q2, q3, _⟩ := h'.s k rfl
      have := no (h.n rfl) k q1 q2
      rw [this] at q3
      cases q3
  | some k =>
    obtain ⟨q1, q2, q3, q4⟩ := h.s k rfl
    cases o' with
    | none =>
      have := h'.n rfl k q1 (by omega)
      rw [this] at q3
      cases q3
    | some k' =>
      obtain ⟨r1, r2, r3, r4⟩ := h'.s k' rfl
      congr 1
      by_cases z : k < k'
      · rw [r4 k q1 z] at q3; cases q3
      · by_cases z2 : k' < k
        · rw [q4 k' r1 z2] at r3; cases r3
        · omega
/-- the next unlike number -/
def Nx (w : List Nat) (m : Int) : Option Int := (rngI (m + 1) (m + w.length + 1)).find? (U w m)
theorem Nx_lst (w : List Nat) (m : Int) : Lst (U w m) (m + 1) (m + w.length + 1) (Nx w m) := find_rng _ _ _ _ rfl
theorem all_far {w : List Nat} (h : 0 < w.length) {m : Int} (q : ∀ j, m + 1 ≤ j → j < m + w.length + 1 → U w m j = false) : ∀ (n : Nat) (j : Int), (j - (m + 1)).toNat = n → m + 1 ≤ j → U w m j = false := by
  intro n
  induction n using Nat.strongRecOn with
  | ind n ih =>
    intro j hj h1
    by_cases z : j < m + w.length + 1
    · exact q j h1 z
    · have := ih ((j - w.length) - (m + 1)).toNat (by omega) (j - w.length) rfl (by omega)
      rw [← U_per h, show j - (w.length : Int) + w.length = j by omega] at this
      exact this
theorem Nx_any {w : List Nat} (h : 0 < w.length) {m c : Int} {o : Option Int} (hc : m + w.length + 1 ≤ c) (q : Lst (U w m) (m + 1) c o) : o = Nx w m :=
  ((Nx_lst w m).uniq q hc fun z j h1 h2 => all_far h z _ j rfl h1).symm
theorem find_loop {S : Type} {p : Int → Bool} {body : S → Int → TB S (Option (Option Int))} {done : S → Option (Option Int)} {f : S → Int → S} (hb : ∀ s x, body s x = if p x = true then TB.fin (some (some x)) else TB.nx (f s x)) (hd : ∀ s, done s = some none) : ∀ (xs : List Int) (s : S), loopV body done xs s = some (xs.find? p)
  | [], s => hd s
  | x :: xs, s => by
    rw [loopV_c, hb, List.find?_cons]
    cases p x with
    | true => rfl
    | false => exact find_loop hb hd xs _
theorem U_iff {w : List Nat} {m k : Int} : (¬ [F w k] = [F w (k - m)]) ↔ U w m k = true := by
  unfold U
  simp
theorem unlike_eq {w : List Nat} (h : 0 < w.length) (h2 : w.length ≤ 1000) {m : Int} (hm : 0 ≤ m) (hm2 : m ≤ 1000) : unlikeF w m = some (Nx w m) := by
  show (if szOk w.length = true then _ else none) = _
  rw [if_pos (szS (by omega)), if_pos (rngS (by omega) (by omega) (by omega) (by omega))]
  refine find_loop (p := U w m) (f := fun _ x => Jk.f (inj x)) (fun s x => ?_) (fun _ => rfl) _ _
  have hn : ¬ ((w.length : Nat) : Int) = 0 := by omega
  rw [if_pos hn, if_pos (szS (by omega)), F_at h, osM_some, if_pos hn, if_pos (szS (by omega)), F_at h, osM_some]
  by_cases q : U w m x = true
  · rw [if_pos q, if_pos (U_iff.mpr q)]
  · rw [if_neg q, if_neg (fun z => q (U_iff.mp z))]
theorem lmarkAt_eq {w : List Nat} (h : 0 < w.length) (h2 : w.length ≤ 1000) (k : Int) : lmarkAtF w k = some [F w k] := by
  show (if szOk w.length = true then _ else none) = _
  have hn : ¬ ((w.length : Nat) : Int) = 0 := by omega
  rw [if_pos (szS (by omega)), if_pos hn, if_pos (szS (by omega)), F_at h]
  rfl
theorem lunlike_eq {w : List Nat} (h : 0 < w.length) (h2 : w.length ≤ 1000) {m : Int} (hm : 0 ≤ m) (hm2 : m ≤ 1000) : lunlikeF w m = some (Nx w m) := by
  show (if szOk w.length = true then _ else none) = _
  have h3 : mulOk 3 (w.length : Int) = true := mulS (.inl ⟨by decide, by decide⟩)
  rw [if_pos (szS (by omega)), if_pos h3, if_pos (rngS (by omega) (by omega) (by omega) (by omega))]
  refine (find_loop (p := U w m) (f := fun _ x => Jk.f (inj x)) (fun s x => ?_) (fun _ => rfl) _ _).trans ?_
  · rw [lmarkAt_eq h h2, lmarkAt_eq h h2]
    show (if ¬ [F w x] = [F w (x - m)] then _ else _) = _
    by_cases q : U w m x = true
    · rw [if_pos q, if_pos (U_iff.mpr q)]
    · rw [if_neg q, if_neg (fun z => q (U_iff.mp z))]
  · congr 1
    exact Nx_any h (c := m + 3 * w.length + 2) (by omega) (find_rng _ _ _ _ rfl)
/-! ### the numbers from one on -/
def ch (w : List Nat) : Nat → Option Int → List Int
  | 0, _ => []
  | _ + 1, none => []
  | f + 1, some b => if b ≤ w.length then b :: ch w f (Nx w b) else []
theorem ch_none (w : List Nat) (f : Nat) : ch w f none = [] := by cases f <;> rfl
theorem ch_far {w : List Nat} {b : Int} (h : ¬ b ≤ w.length) (f : Nat) : ch w f (some b) = [] := by
  cases f with
  | zero => rfl
  | succ f => show (if b ≤ w.length then _ else _) = _; rw [if_neg h]
theorem ch_near {w : List Nat} {b : Int} (h : b ≤ w.length) (f : Nat) : ch w (f + 1) (some b) = b :: ch w f (Nx w b) := by
  show (if b ≤ w.length then _ else _) = _; rw [if_pos h]
theorem Nx_gt {w : List Nat} {m k : Int} (h : Nx w m = some k) : m < k := by
  have := ((Nx_lst w m).s k h).1
  omega
theorem ch_stable (w : List Nat) : ∀ (f f' : Nat) (o : Option Int), (∀ b, o = some b → 1 ≤ b ∧ (w.length + 1 - b).toNat < f ∧ (w.length + 1 - b).toNat < f') → ch w f o = ch w f' o := by
  intro f
  induction f with
  | zero =>
    intro f' o h
    cases o with
    | none => rw [ch_none, ch_none]
    | some b => have := h b rfl; omega
  | succ f ih =>
    intro f' o h
    cases o with
    | none => rw [ch_none, ch_none]
    | some b =>
      obtain ⟨h1, h2, h3⟩ := h b rfl
      by_cases q : b ≤ w.length
      · cases f' with
        | zero => omega
        | succ f' =>
          rw [ch_near q, ch_near q]
          congr 1
          refine ih f' _ fun k hk => ?_
          have := Nx_gt hk
          omega
      · rw [ch_far q, ch_far q]
theorem ch_mem (w : List Nat) : ∀ (f : Nat) (o : Option Int) (lo : Int), (∀ b, o = some b → lo < b) → (ch w f o).Pairwise (· < ·) ∧ ∀ x ∈ ch w f o, lo < x ∧ x ≤ w.length
  | 0, _, _, _ => ⟨.nil, fun _ h => nomatch h⟩
  | f + 1, none, _, _ => ⟨.nil, fun _ h => nomatch h⟩
  | f + 1, some b, lo, h => by
    by_cases q : b ≤ w.length
    · rw [ch_near q]
      obtain ⟨h1, h2⟩ := ch_mem w f (Nx w b) b fun k hk => Nx_gt hk
      have hb := h b rfl
      refine ⟨List.pairwise_cons.mpr ⟨fun y hy => (h2 y hy).1, h1⟩, fun x hx => ?_⟩
      rcases List.mem_cons.mp hx with rfl | hx
      · exact ⟨hb, q⟩
      · have := h2 x hx
        exact ⟨by omega, this.2⟩
    · rw [ch_far q]
      exact ⟨.nil, fun _ h => nomatch h⟩
def A (w : List Nat) : List Int := ch w (w.length + 1) (some 1)
theorem while_ch {w : List Nat} {body : List Int × Option Int → TB (List Int × Option Int) (Option (Tp Int))} {done : List Int × Option Int → Option (Tp Int)}
    (hb0 : ∀ acc, body (acc, none) = .bk (acc, none)) (hb1 : ∀ acc (b : Int), (acc.length : Int) ≤ b → 1 ≤ b → b ≤ w.length → body (acc, some b) = .nx (acc ++ [b], Nx w b)) (hb2 : ∀ acc (b : Int), ¬ b ≤ w.length → body (acc, some b) = .bk (acc, some b))
    (hd : ∀ acc o, done (acc, o) = some ⟨acc⟩) : ∀ (f : Nat) (acc : List Int) (o : Option Int), 0 < f → (∀ b, o = some b → 1 ≤ b ∧ (acc.length : Int) ≤ b ∧ (w.length + 1 - b).toNat < f) → whileV none body done f (acc, o) = some ⟨acc ++ ch w f o⟩ := by
  intro f
  induction f with
  | zero => intro acc o h; omega
  | succ f ih =>
    intro acc o _ h
    rw [whileV_c]
    cases o with
    | none => rw [hb0, ch_none, List.append_nil]; exact hd _ _
    | some b =>
      obtain ⟨h1, h3, h2⟩ := h b rfl
      by_cases q : b ≤ w.length
      · rw [hb1 acc b h3 h1 q, ch_near q]
        show whileV none body done f (acc ++ [b], Nx w b) = _
        rw [ih (acc ++ [b]) (Nx w b) (by omega) (fun k hk => by
          have := Nx_gt hk
          rw [List.length_append]
          refine ⟨by omega, by simp; omega, by omega⟩)]
        rw [List.append_assoc]
        rfl
      · rw [hb2 acc b q, ch_far q, List.append_nil]
        exact hd _ _
theorem address_eq {w : List Nat} (h : 0 < w.length) (h2 : w.length ≤ 1000) : addressF w = some ⟨A w⟩ := by
  have hA : A w = [1] ++ ch w WF (Nx w 1) := by
    show ch w (w.length + 1) (some 1) = _
    rw [ch_stable w (w.length + 1) (WF + 1) (some 1) (fun b hb => by cases hb; unfold WF; omega), ch_near (by omega)]
    rfl
  rw [hA]
  show osM none (unlikeF w 1) _ = _
  rw [unlike_eq h h2 (by decide) (by decide), osM_some]
  have key : ∀ (body : List Int × Option Int → TB (List Int × Option Int) (Option (Tp Int))) (done : List Int × Option Int → Option (Tp Int)),
      (∀ acc, body (acc, none) = .bk (acc, none)) → (∀ acc (b : Int), (acc.length : Int) ≤ b → 1 ≤ b → b ≤ w.length → body (acc, some b) = .nx (acc ++ [b], Nx w b)) → (∀ acc (b : Int), ¬ b ≤ w.length → body (acc, some b) = .bk (acc, some b)) → (∀ acc o, done (acc, o) = some ⟨acc⟩) → whileV none body done WF ([1], Nx w 1) = some ⟨[1] ++ ch w WF (Nx w 1)⟩ := fun body done a b c d =>
    while_ch a b c d WF [1] (Nx w 1) (by decide) fun b hb => by
      have := Nx_gt hb
      unfold WF
      simp
      omega
  have go : ∀ (acc : List Int) (b : Int), (acc.length : Int) ≤ b → 1 ≤ b → b ≤ w.length → (if szOk w.length = true then if b ≤ (w.length : Int) then if szOk (acc.length + 1) = true then osM (TB.fin none) (unlikeF w b) fun b_1 => optM b_1 (TB.nx (acc ++ [b], none)) fun b_2 => TB.nx (acc ++ [b], some b_2) else TB.fin none else TB.bk (acc, some b) else TB.fin (S := List Int × Option Int) (M := Option (Tp Int)) none) = .nx (acc ++ [b], Nx w b) := fun acc b h0 h1 h3 => by
    rw [if_pos (szS (by omega)), if_pos h3, if_pos (szS (by omega)), unlike_eq h h2 (by omega) (by omega), osM_some]
    cases Nx w b <;> rfl
  have no : ∀ (acc : List Int) (b : Int), ¬ b ≤ w.length → (if szOk w.length = true then if b ≤ (w.length : Int) then if szOk (acc.length + 1) = true then osM (TB.fin none) (unlikeF w b) fun b_1 => optM b_1 (TB.nx (acc ++ [b], none)) fun b_2 => TB.nx (acc ++ [b], some b_2) else TB.fin none else TB.bk (acc, some b) else TB.fin (S := List Int × Option Int) (M := Option (Tp Int)) none) = .bk (acc, some b) := fun acc b h3 => by
    rw [if_pos (szS (by omega)), if_neg h3]
  cases e : Nx w 1 with
  | none =>
    rw [e] at key
    rw [optM_none]
    exact key _ _ (fun _ => rfl) (fun acc b h0 h1 h3 => go acc b h0 h1 h3) (fun acc b h3 => no acc b h3) (fun acc o => by cases o <;> rfl)
  | some b0 =>
    rw [e] at key
    rw [optM_some]
    exact key _ _ (fun _ => rfl) (fun acc b h0 h1 h3 => go acc b h0 h1 h3) (fun acc b h3 => no acc b h3) (fun acc o => by cases o <;> rfl)
theorem for_ch {w : List Nat} {body : List Int × Option Int × Jk → Int → TB (List Int × Option Int × Jk) (Option (List Int))} {done : List Int × Option Int × Jk → Option (List Int)} {g : Int → Jk}
    (hb0 : ∀ acc j x, body (acc, none, j) x = .nx (acc, none, g x)) (hb1 : ∀ acc (b : Int) j x, (acc.length : Int) ≤ b → 1 ≤ b → b ≤ w.length → body (acc, some b, j) x = .nx (acc ++ [b], Nx w b, g x)) (hb2 : ∀ acc (b : Int) j x, ¬ b ≤ w.length → body (acc, some b, j) x = .nx (acc, some b, g x))
    (hd : ∀ acc o j, done (acc, o, j) = some acc) : ∀ (xs : List Int) (acc : List Int) (o : Option Int) (j : Jk), (∀ b, o = some b → 1 ≤ b ∧ (acc.length : Int) ≤ b) → loopV body done xs (acc, o, j) = some (acc ++ ch w xs.length o)
  | [], acc, o, j, _ => by show done _ = _; rw [hd]; show _ = some (acc ++ []); rw [List.append_nil]
  | x :: xs, acc, none, j, h => by
    rw [loopV_c, hb0, ch_none]
    show loopV body done xs (acc, none, g x) = _
    rw [for_ch hb0 hb1 hb2 hd xs acc none _ h, ch_none]
  | x :: xs, acc, some b, j, h => by
    obtain ⟨h1, h2⟩ := h b rfl
    rw [loopV_c]
    by_cases q : b ≤ w.length
    · rw [hb1 acc b j x h2 h1 q, List.length_cons, ch_near q]
      show loopV body done xs (acc ++ [b], Nx w b, g x) = _
      rw [for_ch hb0 hb1 hb2 hd xs _ _ _ (fun k hk => by
        have := Nx_gt hk
        rw [List.length_append]
        simp
        omega), List.append_assoc]
      rfl
    · rw [hb2 acc b j x q, ch_far q]
      show loopV body done xs (acc, some b, g x) = _
      rw [for_ch hb0 hb1 hb2 hd xs _ _ _ h, ch_far q]
theorem laddress_eq {w : List Nat} (h : 0 < w.length) (h2 : w.length ≤ 900) : laddressF w = some ⟨A w⟩ := by
  show (if szOk w.length = true then osM none (lchainF w 1 (w.length : Int)) _ else none) = _
  rw [if_pos (szS (by omega))]
  have e : lchainF w 1 (w.length : Int) = some (A w) := by
    unfold lchainF
    rw [if_pos (rngS (by omega) (by omega) (by omega) (by omega))]
    have hl : (rngI 0 ((w.length : Int) + 1)).length = w.length + 1 := by rw [rngI_len]; omega
    have hx : ([] : List Int) ++ ch w (rngI 0 ((w.length : Int) + 1)).length (some 1) = A w := by
      rw [hl, List.nil_append]
      unfold A
      rfl
    rw [← hx]
    generalize rngI 0 ((w.length : Int) + 1) = xs
    refine (for_ch (w := w) (g := fun x => Jk.f (inj x)) (fun acc j x => rfl) (fun acc b j x h0 h1 h3 => ?_) (fun acc b j x h3 => ?_) (fun acc o j => by cases o <;> rfl) _ [] (some 1) _ (fun b hb => by cases hb; simp))
    · show (if b ≤ (w.length : Int) then if szOk (acc.length + 1) = true then osM (TB.fin none) (lunlikeF w b) _ else _ else _) = _
      rw [if_pos h3, if_pos (szS (by omega)), lunlike_eq h (by omega) (by omega) (by omega), osM_some]
      cases Nx w b <;> rfl
    · show (if b ≤ (w.length : Int) then _ else _) = _
      rw [if_neg h3]
  rw [e]
  rfl
/-! ### the numbers' properties -/
theorem A_one {w : List Nat} (h : 0 < w.length) : A w = 1 :: ch w w.length (Nx w 1) := ch_near (by omega) _
theorem A_asc (w : List Nat) : (A w).Pairwise (· < ·) ∧ ∀ x ∈ A w, 0 < x ∧ x ≤ w.length := ch_mem w _ _ 0 fun b hb => by cases hb; decide
theorem A_len (w : List Nat) : (A w).length ≤ w.length + 1 := by
  have : ∀ f o, (ch w f o).length ≤ f := fun f => by
    induction f with
    | zero => intro o; exact Nat.zero_le _
    | succ f ih =>
      intro o
      cases o with
      | none => exact Nat.zero_le _
      | some b =>
        by_cases q : b ≤ w.length
        · rw [ch_near q, List.length_cons]; have := ih (Nx w b); omega
        · rw [ch_far q]; exact Nat.zero_le _
  exact this _ _
/-- a word whose star stands at the end alone -/
structure Star (w : List Nat) : Prop where
  n : 0 < w.length
  l : w.length ≤ 24
  z : w[w.length - 1]? = some 42
  o : ∀ j, j < w.length - 1 → w[j]? ≠ some 42
theorem F_small {w : List Nat} {k : Int} (h1 : 1 ≤ k) (h2 : k ≤ w.length) : F w k = w.getD (k - 1).toNat 0 := by
  unfold F
  rw [fm (by omega), Int.emod_eq_of_lt (by omega) (by omega)]
theorem Star.far {w : List Nat} (s : Star w) {b : Int} (h1 : 1 ≤ b) (h2 : b < w.length) : ∃ k, Nx w b = some k ∧ k ≤ w.length := by
  have hn := s.n
  have hU : U w b (w.length : Int) = true := by
    unfold U
    rw [F_small (k := (w.length : Int)) (by omega) (by omega), F_small (by omega) (by omega), List.getD_eq_getElem?_getD, List.getD_eq_getElem?_getD, show ((w.length : Int) - 1).toNat = w.length - 1 by omega, s.z]
    apply decide_eq_true
    intro e
    have := s.o ((w.length : Int) - b - 1).toNat (by omega)
    rw [List.getElem?_eq_getElem (by omega)] at e this
    exact this (congrArg some e.symm)
  have q := Nx_lst w b
  cases e : Nx w b with
  | none =>
    have := q.n e (w.length : Int) (by omega) (by omega)
    rw [this] at hU
    cases hU
  | some k =>
    refine ⟨k, rfl, ?_⟩
    obtain ⟨q1, q2, q3, q4⟩ := q.s k e
    by_cases z : (w.length : Int) < k
    · have := q4 (w.length : Int) (by omega) z
      rw [this] at hU
      cases hU
    · omega
theorem Star.last {w : List Nat} (s : Star w) : (A w).getLast? = some (w.length : Int) := by
  have hn := s.n
  have key : ∀ (f : Nat) (b : Int), 1 ≤ b → b ≤ w.length → (w.length - b).toNat < f → (ch w f (some b)).getLast? = some (w.length : Int) := by
    intro f
    induction f with
    | zero => intro b _ _ h; omega
    | succ f ih =>
      intro b h1 h2 h3
      rw [ch_near h2, List.getLast?_cons]
      by_cases q : b = w.length
      · have : ch w f (Nx w b) = [] := by
          cases e : Nx w b with
          | none => exact ch_none _ _
          | some k =>
            have := Nx_gt e
            exact ch_far (by omega) _
        rw [this, q]
        rfl
      · obtain ⟨k, e, hk⟩ := s.far h1 (by omega)
        have := Nx_gt e
        rw [e, ih k (by omega) hk (by omega)]
        rfl
  exact key _ 1 (by decide) (by omega) (by omega)
/-! ### the draws -/
theorem word_ok {q : Int} {m : MS} (h : Dr q m) (hq : q < 900000) : ∃ w m', lwordF m 24 = some (w, m') ∧ Star w ∧ Dr (q + 30) m' := by
  unfold lwordF
  obtain ⟨r, m1, e1, h0, h1, d1⟩ := draw_ok (b := 24) h (by omega) (by decide) (by decide)
  rw [e1, osM_some]
  dsimp only
  by_cases z : r = 0
  · rw [z, if_pos (by simp)]
    refine ⟨_, _, rfl, ⟨by decide, by decide, by decide, fun j hj => ?_⟩, d1.mono (by omega)⟩
    simp at hj
  · rw [if_neg (by simp; omega)]
    obtain ⟨bs, m2, e2, hl, d2⟩ := string_ok (n := 1 + r - 2) d1 (by omega) (by omega) (by omega)
    rw [e2, osM_some]
    dsimp only
    rw [if_pos (szS (by simp; omega)), if_pos (szS (by simp; omega))]
    refine ⟨_, _, rfl, ⟨by simp, by simp; omega, ?_, fun j hj => ?_⟩, d2.mono (by omega)⟩
    · simp
    · simp only [List.length_cons, List.length_append, List.length_map, List.length_nil] at hj
      cases j with
      | zero => simp
      | succ j =>
        rw [List.getElem?_cons_succ, List.getElem?_append_left (by simp; omega), List.getElem?_map]
        cases bs[j]? with
        | none => simp
        | some b => cases b <;> simp [bitC]
theorem joinN_single : ∀ cs : List Nat, joinN [] (cs.map fun c => [c]) = cs
  | [] => rfl
  | [c] => rfl
  | c :: d :: cs => by
    have ih := joinN_single (d :: cs)
    show [c] ++ [] ++ joinN [] ((d :: cs).map fun c => [c]) = _
    rw [ih]
    rfl
theorem joinOk_single {cs : List Nat} (h : cs.length ≤ 1000) : joinOk [] (cs.map fun c => [c]) = true := by
  unfold joinOk
  apply szS
  rw [List.map_map, List.length_nil, Nat.zero_mul, Nat.add_zero]
  have : ∀ cs : List Nat, (cs.map (List.length ∘ fun c : Nat => [c])).sum = cs.length := fun cs => by
    induction cs with
    | nil => rfl
    | cons c cs ih =>
      rw [List.map_cons, List.sum_cons, ih, List.length_cons]
      simp
      omega
  rw [this]
  omega
theorem word_sh {q : Int} {m : MS} (h : Dr q m) (hq : q < 900000) : ∃ w m', lwordF m 24 = some (w, m') ∧ (w = [42] ∨ ∃ u : List Nat, w = u ++ [42] ∧ 0 < u.length ∧ u.length ≤ 23 ∧ ∀ x ∈ u, x = 48 ∨ x = 49) ∧ Dr (q + 30) m' := by
  unfold lwordF
  obtain ⟨r, m1, e1, h0, h1, d1⟩ := draw_ok (b := 24) h (by omega) (by decide) (by decide)
  rw [e1, osM_some]
  dsimp only
  by_cases z : r = 0
  · rw [z, if_pos (by simp)]
    exact ⟨_, _, rfl, .inl rfl, d1.mono (by omega)⟩
  · rw [if_neg (by simp; omega)]
    obtain ⟨bs, m2, e2, hl, d2⟩ := string_ok (n := 1 + r - 2) d1 (by omega) (by omega) (by omega)
    rw [e2, osM_some]
    dsimp only
    rw [if_pos (szS (by simp; omega)), if_pos (szS (by simp; omega))]
    refine ⟨_, _, rfl, .inr ⟨49 :: bs.map bitC, by simp, by simp, by simp; omega, fun x hx => ?_⟩, d2.mono (by omega)⟩
    rcases List.mem_cons.mp hx with rfl | hx
    · exact .inr rfl
    · obtain ⟨b, _, rfl⟩ := List.mem_map.mp hx
      cases b
      · exact .inl rfl
      · exact .inr rfl
theorem star_of {u : List Nat} (h0 : u.length ≤ 23) (h : ∀ x ∈ u, x = 48 ∨ x = 49) : Star (u ++ [42]) := by
  refine ⟨by simp, by simp; omega, by simp, fun j hj => ?_⟩
  simp only [List.length_append, List.length_cons, List.length_nil] at hj
  rw [List.getElem?_append_left (by omega), List.getElem?_eq_getElem (by omega)]
  intro e
  have e2 := Option.some.inj e
  rcases h _ (List.getElem_mem (show j < u.length by omega)) with e3 | e3 <;> omega
theorem cut_last {w : List Nat} {c : Nat} : cutL (w ++ [c]) none (some (-1)) = w := by
  unfold cutL HT.sIx
  simp
  rw [show (-1 + ((w.length : Int) + 1)).toNat = w.length by omega]
  simp
theorem memB_iff {α : Type} [Ty α] {a : α} {l : List α} : memB a l = true ↔ a ∈ l := by
  unfold memB
  rw [List.any_eq_true]
  constructor
  · rintro ⟨x, hx, e⟩
    have := @of_decide_eq_true _ (Ty.de x a) e
    rw [← this]
    exact hx
  · intro h
    exact ⟨a, h, @decide_eq_true _ (Ty.de a a) rfl⟩
theorem F_front {u : List Nat} {s : Nat} {j : Int} (h1 : 1 ≤ j) (h2 : j ≤ u.length) : F (u ++ [s]) j = u.getD (j - 1).toNat 0 := by
  rw [F_small h1 (by simp; omega), List.getD_eq_getElem?_getD, List.getD_eq_getElem?_getD, List.getElem?_append_left (by omega)]
theorem F_end {u : List Nat} {s : Nat} : F (u ++ [s]) ((u.length : Int) + 1) = s := by
  rw [F_small (by omega) (by simp), List.getD_eq_getElem?_getD, show ((u.length : Int) + 1 - 1).toNat = u.length by omega]
  simp
/-- of the two marks just one leads to the length -/
theorem upper_key {u : List Nat} (h0 : u.length ≤ 23) (hu : ∀ x ∈ u, x = 48 ∨ x = 49) : ∀ (f : Nat) (b : Int), 1 ≤ b → b ≤ u.length → (u.length + 1 - b).toNat < f → ∃ d, (d = 48 ∨ d = 49) ∧ ∀ s, ((u.length : Int) + 1) ∈ ch (u ++ [s]) f (some b) ↔ s ≠ d := by
  have hl : ∀ s, (((u ++ [s]).length : Nat) : Int) = u.length + 1 := fun s => by simp
  have st := star_of h0 hu
  intro f
  induction f with
  | zero => intro b _ _ h; omega
  | succ f ih =>
    intro b h1 h2 h3
    have step : ∀ s, ((u.length : Int) + 1) ∈ ch (u ++ [s]) (f + 1) (some b) ↔ ((u.length : Int) + 1) ∈ ch (u ++ [s]) f (Nx (u ++ [s]) b) := fun s => by
      rw [ch_near (by rw [hl]; omega), List.mem_cons]
      exact ⟨fun h => h.resolve_left (by omega), .inr⟩
    obtain ⟨k, ek, hk⟩ := st.far h1 (by rw [hl]; omega)
    rw [hl] at hk
    have hk1 := Nx_gt ek
    have q := (Nx_lst (u ++ [42]) b).s k ek
    have same : ∀ s j, b < j → j ≤ u.length → U (u ++ [s]) b j = U (u ++ [42]) b j := fun s j a c => by
      unfold U
      rw [F_front (by omega) c, F_front (by omega) (by omega), F_front (by omega) c, F_front (by omega) (by omega)]
    by_cases z : k ≤ u.length
    · obtain ⟨d, hd, e⟩ := ih k (by omega) z (by omega)
      refine ⟨d, hd, fun s => ?_⟩
      have : Nx (u ++ [s]) b = some k := by
        have r : Lst (U (u ++ [s]) b) (b + 1) (k + 1) (some k) := .ofSome (by omega) (by omega) (by rw [same s k hk1 z]; exact q.2.2.1) (fun j a c => by rw [same s j (by omega) (by omega)]; exact q.2.2.2 j a c)
        refine (r.uniq (Nx_lst (u ++ [s]) b) (by rw [hl]; omega) fun all => ?_).symm
        have := all k (by omega) (by omega)
        rw [same s k hk1 z, q.2.2.1] at this
        cases this
      rw [step, this]
      exact e s
    · have kn : k = (u.length : Int) + 1 := by omega
      have dm : F (u ++ [42]) ((u.length : Int) + 1 - b) ∈ u := by
        rw [F_front (by omega) (by omega), List.getD_eq_getElem?_getD, List.getElem?_eq_getElem (by omega)]
        exact List.getElem_mem _
      refine ⟨F (u ++ [42]) ((u.length : Int) + 1 - b), hu _ dm, fun s => ?_⟩
      have no : ∀ j, b + 1 ≤ j → j < (u.length : Int) + 1 → U (u ++ [s]) b j = false := fun j a c => by
        rw [same s j (by omega) (by omega)]
        exact q.2.2.2 j a (by omega)
      have hU : U (u ++ [s]) b ((u.length : Int) + 1) = decide (s ≠ F (u ++ [42]) ((u.length : Int) + 1 - b)) := by
        unfold U
        rw [F_end, F_front (s := s) (by omega) (by omega), F_front (s := 42) (by omega) (by omega)]
      rw [step]
      have p := Nx_lst (u ++ [s]) b
      cases f with
      | zero => omega
      | succ f =>
        by_cases y : s = F (u ++ [42]) ((u.length : Int) + 1 - b)
        · rw [decide_eq_false (fun z => z y)] at hU
          have : ch (u ++ [s]) (f + 1) (Nx (u ++ [s]) b) = [] := by
            cases e : Nx (u ++ [s]) b with
            | none => exact ch_none _ _
            | some k' =>
              obtain ⟨p1, p2, p3, p4⟩ := p.s k' e
              refine ch_far (fun c => ?_) _
              rw [hl] at c
              by_cases c2 : k' < (u.length : Int) + 1
              · rw [no k' p1 c2] at p3; cases p3
              · rw [show k' = (u.length : Int) + 1 by omega, hU] at p3; cases p3
          rw [this]
          exact ⟨(fun h => by cases h), fun h => (h y).elim⟩
        · rw [decide_eq_true y] at hU
          have : Nx (u ++ [s]) b = some ((u.length : Int) + 1) := by
            have r : Lst (U (u ++ [s]) b) (b + 1) ((u.length : Int) + 2) (some ((u.length : Int) + 1)) := .ofSome (by omega) (by omega) hU no
            refine (r.uniq p (by rw [hl]; omega) fun all => ?_).symm
            have := all ((u.length : Int) + 1) (by omega) (by omega)
            rw [hU] at this
            cases this
          rw [this, ch_near (by rw [hl]; omega)]
          exact ⟨fun _ => y, fun _ => List.mem_cons_self⟩
/-- a comprehension over two -/
theorem comp_two {β γ M : Type} {no : M} {body : Unit → β → TC Unit γ M} {done : List γ → Unit → M} {x1 x2 : β} {v1 v2 : γ} {b1 b2 : Bool} {n : Nat} (hn : 2 ≤ n) (h1 : body () x1 = if b1 = true then TC.ad v1 () else TC.sk ()) (h2 : body () x2 = if b2 = true then TC.ad v2 () else TC.sk ()) :
    compV no body done [x1, x2] [] n () = done ((if b1 = true then [v1] else []) ++ (if b2 = true then [v2] else [])) () := by
  obtain ⟨k, rfl⟩ : ∃ k, n = k + 2 := ⟨n - 2, by omega⟩
  rw [compV_c, h1]
  cases b1 with
  | true =>
    rw [if_pos rfl]
    simp only
    rw [compV_c, h2]
    cases b2 <;> rfl
  | false =>
    rw [if_neg (by decide)]
    simp only
    rw [compV_c, h2]
    cases b2 <;> rfl
theorem joinT_nx {S M : Type} {s : S} {k : S → M} : joinT (TB.nx s) k = k s := (rfl)
end TM

set_option Elab.async false
set_option maxRecDepth 100000
set_option maxHeartbeats 4000000
/-! TD7: rows of marks that repeat, their least forms. -/
open PySem TW TM
namespace TM
/-- mark number n of c repeated -/
def cyc (c : List Nat) (n : Nat) : Nat := c.getD (n % c.length) 0
def seqR (h c : List Nat) (n : Nat) : Nat := if n < h.length then h.getD n 0 else cyc c (n - h.length)
def Per (c : List Nat) (d : Nat) : Prop := ∀ n, cyc c (n + d) = cyc c n
theorem cyc_len {c : List Nat} (n : Nat) : cyc c (n + c.length) = cyc c n := by
  unfold cyc
  rw [Nat.add_mod_right]
theorem cyc_mul {c : List Nat} (n k : Nat) : cyc c (n + k * c.length) = cyc c n := by
  unfold cyc
  rw [Nat.add_mul_mod_self_right]
theorem cyc_small {c : List Nat} {n : Nat} (h : n < c.length) : cyc c n = c.getD n 0 := by
  unfold cyc
  rw [Nat.mod_eq_of_lt h]
theorem Per.mul {c : List Nat} {d : Nat} (h : Per c d) (k n : Nat) : cyc c (n + k * d) = cyc c n := by
  induction k with
  | zero => simp
  | succ k ih => rw [Nat.succ_mul, ← Nat.add_assoc, h, ih]
theorem Per.gcd {c : List Nat} (hc : 0 < c.length) {a b : Nat} (ha : Per c a) (hb : Per c b) : Per c (Nat.gcd a b) := by
  induction a, b using Nat.gcd.induction with
  | H0 n => rw [Nat.gcd_zero_left]; exact hb
  | H1 m n hm ih =>
    rw [Nat.gcd_rec]
    refine ih ?_ ha
    intro k
    have e : k + n % m + (n / m) * m = k + n := by
      have := Nat.mod_add_div n m
      rw [Nat.mul_comm] at this
      omega
    rw [← ha.mul (n / m) (k + n % m), e, hb]
structure Least (h c : List Nat) : Prop where
  n : 0 < c.length
  p : ∀ d, 0 < d → d < c.length → d ∣ c.length → ¬ Per c d
  l : h = [] ∨ h.getLast? ≠ c.getLast?
theorem seqR_far {h c : List Nat} (n : Nat) : seqR h c (n + h.length) = cyc c n := by
  unfold seqR
  rw [if_neg (by omega)]
  congr 1
  omega
theorem seqR_per {h c : List Nat} {n : Nat} (hn : h.length ≤ n) : seqR h c (n + c.length) = seqR h c n := by
  obtain ⟨k, rfl⟩ : ∃ k, n = k + h.length := ⟨n - h.length, by omega⟩
  rw [show k + h.length + c.length = (k + c.length) + h.length by omega, seqR_far, seqR_far, cyc_len]
theorem last_cyc {c : List Nat} (h : 0 < c.length) : c.getLast? = some (cyc c (c.length - 1)) := by
  rw [cyc_small (by omega), List.getLast?_eq_getElem?, List.getD_eq_getElem?_getD, List.getElem?_eq_getElem (by omega)]
  rfl
/-- two rows in least form with the same marks are one -/
theorem least_uniq {h c h' c' : List Nat} (L : Least h c) (L' : Least h' c') (e : ∀ n, seqR h c n = seqR h' c' n) : h = h' ∧ c = c' := by
  have key : ∀ {h c h' c' : List Nat}, Least h c → Least h' c' → (∀ n, seqR h c n = seqR h' c' n) → Per c c'.length := fun {h c h' c'} L L' e n => by
    have M : ∃ M, h.length ≤ n + M * c.length + h.length ∧ h'.length ≤ n + M * c.length + h.length := ⟨h'.length, by omega, by
      have : h'.length * 1 ≤ h'.length * c.length := Nat.mul_le_mul_left _ L.n
      omega⟩
    obtain ⟨M, _, h2⟩ := M
    rw [← cyc_mul (n + c'.length) M, ← cyc_mul n M, ← seqR_far (h := h), ← seqR_far (h := h), e, e, show n + c'.length + M * c.length + h.length = (n + M * c.length + h.length) + c'.length by omega, seqR_per h2]
  have lens : ∀ {h c h' c' : List Nat}, Least h c → Least h' c' → (∀ n, seqR h c n = seqR h' c' n) → c.length ≤ c'.length := fun {h c h' c'} L L' e => by
    have g := (key L L' e).gcd L.n (fun n => cyc_len n)
    have hg0 : 0 < Nat.gcd c'.length c.length := Nat.gcd_pos_of_pos_left _ L'.n
    have hgd : Nat.gcd c'.length c.length ∣ c.length := Nat.gcd_dvd_right _ _
    have hgl : Nat.gcd c'.length c.length ≤ c'.length := Nat.gcd_le_left _ L'.n
    by_cases z : Nat.gcd c'.length c.length < c.length
    · exact (L.p _ hg0 z hgd g).elim
    · omega
  have hc : c.length = c'.length := Nat.le_antisymm (lens L L' e) (lens L' L fun n => (e n).symm)
  have hh : ∀ {h c h' c' : List Nat}, Least h c → Least h' c' → (∀ n, seqR h c n = seqR h' c' n) → c.length = c'.length → h'.length ≤ h.length := fun {h c h' c'} L L' e hc => by
    by_cases z : h'.length ≤ h.length
    · exact z
    · have z : h.length < h'.length := by omega
      rcases L'.l with q | q
      · rw [q] at z; simp at z
      · refine (q ?_).elim
        have h0 : 0 < h'.length := by omega
        rw [last_cyc L'.n, List.getLast?_eq_getElem?, List.getElem?_eq_getElem (by omega)]
        congr 1
        have e1 : h'[h'.length - 1] = seqR h' c' (h'.length - 1) := by
          unfold seqR
          rw [if_pos (by omega), List.getD_eq_getElem?_getD, List.getElem?_eq_getElem (by omega)]
          rfl
        have e2 : cyc c' (c'.length - 1) = seqR h' c' (h'.length - 1 + c'.length) := by
          rw [← seqR_far (h := h')]
          have := L'.n
          congr 1
          omega
        rw [e1, e2, ← e, ← e, ← hc, seqR_per (by omega)]
  have hl : h.length = h'.length := Nat.le_antisymm (hh L' L (fun n => (e n).symm) hc.symm) (hh L L' e hc)
  constructor
  · apply List.ext_getElem hl
    intro i h1 h2
    have := e i
    unfold seqR at this
    rw [if_pos h1, if_pos h2, List.getD_eq_getElem?_getD, List.getD_eq_getElem?_getD, List.getElem?_eq_getElem h1, List.getElem?_eq_getElem h2] at this
    exact this
  · apply List.ext_getElem hc
    intro i h1 h2
    have := e (i + h.length)
    rw [seqR_far] at this
    rw [hl, seqR_far, cyc_small h1, cyc_small h2, List.getD_eq_getElem?_getD, List.getD_eq_getElem?_getD, List.getElem?_eq_getElem h1, List.getElem?_eq_getElem h2] at this
    exact this
/-- rows that are alike long enough are alike -/
theorem alike_far {h c h' c' : List Nat} (hc : 0 < c.length) (hc' : 0 < c'.length) {M N : Nat} (h1 : h.length ≤ M) (h2 : h'.length ≤ M) (hN : M + c.length + c'.length ≤ N) (e : ∀ n, n < N → seqR h c n = seqR h' c' n) : ∀ n, seqR h c n = seqR h' c' n := by
  -- the second one has the period of the first one, too
  have down : ∀ (h c : List Nat), 0 < c.length → h.length ≤ M → ∀ n, M ≤ n → ∃ r, M ≤ r ∧ r < M + c.length ∧ ∀ d, seqR h c (n + d) = seqR h c (r + d) := fun h c hc hM n => by
    induction n using Nat.strongRecOn with
    | ind n ih =>
      intro hn
      by_cases z : n < M + c.length
      · exact ⟨n, hn, z, fun _ => rfl⟩
      · obtain ⟨r, r1, r2, r3⟩ := ih (n - c.length) (by omega) (by omega)
        refine ⟨r, r1, r2, fun d => ?_⟩
        rw [← r3, ← seqR_per (n := n - c.length + d) (by omega)]
        congr 1
        omega
  have p2 : ∀ n, M ≤ n → seqR h' c' (n + c.length) = seqR h' c' n := fun n hn => by
    obtain ⟨r, r1, r2, r3⟩ := down h' c' hc' h2 n hn
    rw [r3, ← Nat.add_zero n, r3 0, Nat.add_zero, ← e _ (by omega), ← e _ (by omega), seqR_per (by omega)]
  intro n
  induction n using Nat.strongRecOn with
  | ind n ih =>
    by_cases z : n < N
    · exact e n z
    · have := ih (n - c.length) (by omega)
      rw [← seqR_per (n := n - c.length) (by omega), ← p2 (n - c.length) (by omega), show n - c.length + c.length = n by omega] at this
      exact this
/-! ### turned by one -/
def rotR (c : List Nat) : List Nat := c.getLast?.getD 0 :: c.dropLast
theorem rotR_len {c : List Nat} (h : 0 < c.length) : (rotR c).length = c.length := by
  unfold rotR
  rw [List.length_cons, List.length_dropLast]
  omega
theorem rotR_cyc {c : List Nat} (h : 0 < c.length) (n : Nat) : cyc (rotR c) (n + 1) = cyc c n := by
  have hl := rotR_len h
  unfold cyc
  rw [hl]
  have hm := Nat.mod_lt n h
  by_cases z : n % c.length + 1 < c.length
  · have e : (n + 1) % c.length = n % c.length + 1 := by
      have h1 := Nat.mod_add_div n c.length
      generalize n % c.length = r at h1 z
      generalize n / c.length = q at h1
      rw [show n + 1 = (r + 1) + c.length * q by omega, Nat.add_mul_mod_self_left, Nat.mod_eq_of_lt z]
    rw [e]
    unfold rotR
    rw [List.getD_eq_getElem?_getD, List.getElem?_cons_succ, List.getElem?_dropLast, if_pos (by omega), List.getD_eq_getElem?_getD]
  · have e0 : n % c.length = c.length - 1 := by omega
    have e : (n + 1) % c.length = 0 := by
      have : n + 1 = c.length * (n / c.length) + c.length := by
        have := Nat.mod_add_div n c.length
        omega
      rw [this, Nat.add_mod_right, Nat.mul_mod_right]
    rw [e, e0]
    unfold rotR
    rw [List.getD_cons_zero, last_cyc h, cyc_small (by omega)]
    rfl
theorem Per.rot {c : List Nat} (h : 0 < c.length) {d : Nat} (q : Per (rotR c) d) : Per c d := fun n => by
  rw [← rotR_cyc h, ← rotR_cyc h, show n + d + 1 = n + 1 + d by omega, q]
/-- the strip of a head's end -/
def strip : Nat → List Nat → List Nat → List Nat × List Nat
  | 0, h, c => (h, c)
  | f + 1, h, c => if h ≠ [] ∧ h.getLast? = c.getLast? then strip f h.dropLast (rotR c) else (h, c)
theorem strip_ok : ∀ (f : Nat) (h c : List Nat), 0 < c.length → (∀ d, 0 < d → d < c.length → d ∣ c.length → ¬ Per c d) → h.length ≤ f →
    Least (strip f h c).1 (strip f h c).2 ∧ ∀ n, seqR (strip f h c).1 (strip f h c).2 n = seqR h c n
  | 0, h, c, hc, hp, hf => ⟨⟨hc, hp, .inl (List.eq_nil_of_length_eq_zero (by show h.length = 0; omega))⟩, fun _ => rfl⟩
  | f + 1, h, c, hc, hp, hf => by
    by_cases q : h ≠ [] ∧ h.getLast? = c.getLast?
    · have e : strip (f + 1) h c = strip f h.dropLast (rotR c) := by
        show (if h ≠ [] ∧ h.getLast? = c.getLast? then _ else _) = _
        rw [if_pos q]
      have hl := rotR_len hc
      have hh : 0 < h.length := List.length_pos_iff.mpr q.1
      obtain ⟨a, b⟩ := strip_ok f h.dropLast (rotR c) (by omega) (fun d d0 d1 d2 z => hp d d0 (by omega) (by rw [← hl]; exact d2) (z.rot hc)) (by rw [List.length_dropLast]; omega)
      rw [e]
      refine ⟨a, fun n => ?_⟩
      rw [b]
      unfold seqR
      rw [List.length_dropLast]
      by_cases z : n < h.length - 1
      · rw [if_pos z, if_pos (by omega), List.getD_eq_getElem?_getD, List.getElem?_dropLast, if_pos z, List.getD_eq_getElem?_getD]
      · rw [if_neg z]
        by_cases y : n < h.length
        · rw [if_pos y, show n - (h.length - 1) = 0 by omega]
          have e1 : h.getD n 0 = h.getLast?.getD 0 := by
            rw [List.getLast?_eq_getElem?, List.getD_eq_getElem?_getD, show n = h.length - 1 by omega]
          rw [e1, q.2]
          unfold cyc
          rw [Nat.zero_mod]
          rfl
        · rw [if_neg y, show n - (h.length - 1) = (n - h.length) + 1 by omega, rotR_cyc hc]
    · have e : strip (f + 1) h c = (h, c) := by
        show (if h ≠ [] ∧ h.getLast? = c.getLast? then _ else _) = _
        rw [if_neg q]
      rw [e]
      refine ⟨⟨hc, hp, ?_⟩, fun _ => rfl⟩
      by_cases z : h = []
      · exact .inl z
      · exact .inr fun y => q ⟨z, y⟩
end TM

set_option Elab.async false
set_option maxRecDepth 100000
set_option maxHeartbeats 4000000
/-! TD8: the least form of a row, as the program and the laws make it. -/
open PySem TW TM
namespace TM
def leastRowF (x_head x_cycle : List Nat) : Option (List Nat × List Nat) :=
  if szOk x_cycle.length = true then
    if rngOk 1 ((x_cycle.length : Int) + 1) = true then
      loopV
        (fun (s : List Nat × Jk) (x : Int) =>
          if szOk s.fst.length = true then
            if ¬x = 0 then
              joinC (TB.fin none)
                (if ((s.fst.length : Int)).fmod x = 0 then
                  if szOk s.fst.length = true then
                    if szOk s.fst.length = true then
                      if divOk x = true then
                        if repOk (cutL s.fst none (some x)) (((s.fst.length : Int)).fdiv x) = true then
                          TC.ad (decide (repL (cutL s.fst none (some x)) (((s.fst.length : Int)).fdiv x).toNat = s.fst)) ()
                        else TC.fin (TB.fin none)
                      else TC.fin (TB.fin none)
                    else TC.fin (TB.fin none)
                  else TC.fin (TB.fin none)
                else TC.ad false ())
                fun v =>
                if v = true then
                  if szOk s.fst.length = true then TB.bk (cutL s.fst none (some x), Jk.f (inj x)) else TB.fin none
                else TB.nx (s.fst, Jk.f (inj x))
            else TB.fin none
          else TB.fin none)
        (fun s =>
          whileV none
            (fun (s : List Nat × List Nat) =>
              joinC (TB.fin none)
                (if ¬s.fst = [] then
                  if szOk s.fst.length = true then
                    osM (TC.fin (TB.fin none)) (L2.atI s.fst (-1)) fun b =>
                      if szOk s.snd.length = true then
                        osM (TC.fin (TB.fin none)) (L2.atI s.snd (-1)) fun b_1 => TC.ad (decide ([b] = [b_1])) ()
                      else TC.fin (TB.fin none)
                  else TC.fin (TB.fin none)
                else TC.ad false ())
                fun v =>
                if v = true then
                  if szOk s.fst.length = true then
                    if szOk s.snd.length = true then
                      osM (TB.fin none) (L2.atI s.snd (-1)) fun b =>
                        if szOk s.snd.length = true then
                          if szOk (1 + (cutL s.snd none (some (-1))).length) = true then
                            TB.nx (cutL s.fst none (some (-1)), b :: cutL s.snd none (some (-1)))
                          else TB.fin none
                        else TB.fin none
                    else TB.fin none
                  else TB.fin none
                else TB.bk (s.fst, s.snd))
            (fun s => some (s.fst, s.snd)) WF (x_head, s.fst))
        (rngI 1 ((x_cycle.length : Int) + 1)) (x_cycle, Jk.n)
    else none
  else none
def lleastRowF (x_head x_cycle : List Nat) : Option (List Nat × List Nat) :=
  if szOk x_cycle.length = true then
    if rngOk 1 ((x_cycle.length : Int) + 1) = true then
      loopV
        (fun (s : List Nat × Jk) (x : Int) =>
          if szOk s.fst.length = true then
            if ¬x = 0 then
              joinC (TB.fin none)
                (if ((s.fst.length : Int)).fmod x = 0 then
                  if szOk s.fst.length = true then
                    if szOk s.fst.length = true then
                      if divOk x = true then
                        if repOk (cutL s.fst none (some x)) (((s.fst.length : Int)).fdiv x) = true then
                          TC.ad (decide (s.fst = repL (cutL s.fst none (some x)) (((s.fst.length : Int)).fdiv x).toNat)) ()
                        else TC.fin (TB.fin none)
                      else TC.fin (TB.fin none)
                    else TC.fin (TB.fin none)
                  else TC.fin (TB.fin none)
                else TC.ad false ())
                fun v =>
                if v = true then
                  if szOk s.fst.length = true then TB.bk (cutL s.fst none (some x), Jk.f (inj x)) else TB.fin none
                else TB.nx (s.fst, Jk.f (inj x))
            else TB.fin none
          else TB.fin none)
        (fun s =>
          if szOk x_head.length = true then
            if rngOk 0 (x_head.length : Int) = true then
              loopV
                (fun (s : List Nat × List Nat × Jk) (x : Int) =>
                  joinC (TB.fin none)
                    (if ¬s.fst = [] then
                      if szOk s.fst.length = true then
                        osM (TC.fin (TB.fin none)) (L2.atI s.fst (-1)) fun b =>
                          if szOk s.snd.fst.length = true then
                            osM (TC.fin (TB.fin none)) (L2.atI s.snd.fst (-1)) fun b_1 =>
                              TC.ad (decide ([b] = [b_1])) ()
                          else TC.fin (TB.fin none)
                      else TC.fin (TB.fin none)
                    else TC.ad false ())
                    fun v =>
                    if v = true then
                      if szOk s.fst.length = true then
                        if szOk s.snd.fst.length = true then
                          osM (TB.fin none) (L2.atI s.snd.fst (-1)) fun b =>
                            if szOk s.snd.fst.length = true then
                              if szOk (1 + (cutL s.snd.fst none (some (-1))).length) = true then
                                TB.nx (cutL s.fst none (some (-1)), b :: cutL s.snd.fst none (some (-1)), Jk.f (inj x))
                              else TB.fin none
                            else TB.fin none
                        else TB.fin none
                      else TB.fin none
                    else TB.nx (s.fst, s.snd.fst, Jk.f (inj x)))
                (fun s => some (s.fst, s.snd.fst)) (rngI 0 (x_head.length : Int)) (x_head, s.fst, Jk.n)
            else none
          else none)
        (rngI 1 ((x_cycle.length : Int) + 1)) (x_cycle, Jk.n)
    else none
  else none
/-! ### parts repeated -/
theorem repL_len (x : List Nat) (n : Nat) : (repL x n).length = n * x.length := by
  unfold repL
  simp [List.length_flatten]
theorem repL_get {x : List Nat} (hx : 0 < x.length) : ∀ (n i : Nat), i < n * x.length → (repL x n)[i]? = x[i % x.length]?
  | 0, i, h => by omega
  | n + 1, i, h => by
    have e : repL x (n + 1) = x ++ repL x n := by
      unfold repL
      rw [List.replicate_succ, List.flatten_cons]
    rw [e]
    by_cases z : i < x.length
    · rw [List.getElem?_append_left z, Nat.mod_eq_of_lt z]
    · rw [List.getElem?_append_right (by omega), repL_get hx n (i - x.length) (by rw [Nat.succ_mul] at h; omega), ← Nat.mod_eq_sub_mod (by omega)]
theorem rep_iff {c : List Nat} {d : Nat} (h0 : 0 < d) (h1 : d ≤ c.length) (hd : d ∣ c.length) : repL (c.take d) (c.length / d) = c ↔ Per c d := by
  have hl : (c.take d).length = d := by rw [List.length_take]; omega
  have hm : c.length / d * d = c.length := Nat.div_mul_cancel hd
  constructor
  · intro e n
    have get : ∀ i, i < c.length → c[i]? = c[i % d]? := fun i hi => by
      have := repL_get (x := c.take d) (by omega) (c.length / d) i (by rw [hl, hm]; exact hi)
      rw [e, hl, List.getElem?_take, if_pos (Nat.mod_lt _ h0)] at this
      exact this
    unfold cyc
    rw [List.getD_eq_getElem?_getD, List.getD_eq_getElem?_getD, get _ (Nat.mod_lt _ (by omega)), get (n % c.length) (Nat.mod_lt _ (by omega)), Nat.mod_mod_of_dvd _ hd, Nat.mod_mod_of_dvd _ hd, Nat.add_mod_right]
  · intro p
    apply List.ext_getElem?
    intro i
    by_cases hi : i < c.length
    · rw [repL_get (by omega) _ _ (by rw [hl, hm]; exact hi), hl, List.getElem?_take, if_pos (Nat.mod_lt _ h0)]
      have hid : i % d < c.length := Nat.lt_of_lt_of_le (Nat.mod_lt _ h0) h1
      have e := p.mul (i / d) (i % d)
      rw [show i % d + i / d * d = i by rw [Nat.mul_comm]; exact Nat.mod_add_div i d, cyc_small hi, cyc_small hid, List.getD_eq_getElem?_getD, List.getD_eq_getElem?_getD, List.getElem?_eq_getElem hi, List.getElem?_eq_getElem hid] at e
      rw [List.getElem?_eq_getElem hi, List.getElem?_eq_getElem hid]
      exact congrArg some e.symm
    · rw [List.getElem?_eq_none (show (repL (c.take d) (c.length / d)).length ≤ i by rw [repL_len, hl, hm]; omega), List.getElem?_eq_none (show c.length ≤ i by omega)]
theorem take_cyc {c : List Nat} {d : Nat} (h0 : 0 < d) (h1 : d ≤ c.length) (hd : d ∣ c.length) (p : Per c d) (n : Nat) : cyc (c.take d) n = cyc c n := by
  have hl : (c.take d).length = d := by rw [List.length_take]; omega
  have hid : n % d < c.length := Nat.lt_of_lt_of_le (Nat.mod_lt _ h0) h1
  have e := p.mul (n / d) (n % d)
  rw [show n % d + n / d * d = n by rw [Nat.mul_comm]; exact Nat.mod_add_div n d] at e
  rw [e, cyc_small hid]
  unfold cyc
  rw [hl, List.getD_eq_getElem?_getD, List.getElem?_take, if_pos (Nat.mod_lt _ h0), List.getD_eq_getElem?_getD]
/-! ### numbers -/
theorem fmod_nat {a b : Nat} (h : 0 < b) : ((a : Int)).fmod (b : Int) = ((a % b : Nat) : Int) := by
  rw [Int.fmod_eq_emod_of_nonneg _ (by omega)]
  rfl
theorem fdiv_nat {a b : Nat} : ((a : Int)).fdiv (b : Int) = ((a / b : Nat) : Int) := by
  rw [Int.fdiv_eq_ediv_of_nonneg _ (by omega)]
  rfl
theorem cut_to {α : Type} {c : List α} {d : Nat} : cutL c none (some (d : Int)) = c.take d := by
  unfold cutL
  rw [HT.sIx_nat, HT.sIx_none, List.drop_zero, Nat.sub_zero]
  by_cases h : d ≤ c.length
  · rw [Nat.min_eq_left h]
  · rw [Nat.min_eq_right (by omega), List.take_length, List.take_of_length_le (by omega)]
theorem cut_drop {α : Type} {c : List α} (h : c ≠ []) : cutL c none (some (-1)) = c.dropLast := by
  have hl : 0 < c.length := List.length_pos_iff.mpr h
  unfold cutL
  rw [HT.sIx_none, List.drop_zero, Nat.sub_zero, List.dropLast_eq_take]
  congr 1
  have : ∀ n : Nat, HT.sIx n n (some (-1)) = n - 1 := fun n => by
    show (if (-1 : Int) < 0 then ((-1 : Int) + (n : Int)).toNat else min (-1 : Int).toNat n) = n - 1
    rw [if_pos (by decide)]
    omega
  rw [this]
theorem atI_end {α : Type} {l : List α} (h : 0 < l.length) : ∃ a, L2.atI l (-1) = some a ∧ l.getLast? = some a := by
  have hn : l ≠ [] := List.length_pos_iff.mp h
  exact ⟨l.getLast hn, by rw [atI_last hn, List.getLast?_eq_some_getLast hn], List.getLast?_eq_some_getLast hn⟩
/-- a turn of the strip: any states that carry the two strings -/
theorem strip_test {S M : Type} {h c : List Nat} (hc : 0 < c.length) (h1 : h.length ≤ 1000) (h2 : c.length ≤ 1000) {no : TB S M} {k : Bool → TB S M} :
    joinC no (if ¬h = [] then
        if szOk h.length = true then
          osM (TC.fin no) (L2.atI h (-1)) fun b =>
            if szOk c.length = true then
              osM (TC.fin no) (L2.atI c (-1)) fun b_1 => TC.ad (decide ([b] = [b_1])) ()
            else TC.fin no
        else TC.fin no
      else TC.ad false ()) k = k (decide (h ≠ [] ∧ h.getLast? = c.getLast?)) := by
  obtain ⟨b, e1, e2⟩ := atI_end hc
  by_cases z : h = []
  · rw [if_neg (fun y => y z), joinC_ad, decide_eq_false (fun y => y.1 z)]
  · obtain ⟨a, f1, f2⟩ := atI_end (List.length_pos_iff.mpr z)
    rw [if_pos z, if_pos (szS (by omega)), f1, osM_some, if_pos (szS (by omega)), e1, osM_some, joinC_ad, f2, e2]
    congr 1
    by_cases y : a = b
    · subst y
      rw [decide_eq_true rfl, decide_eq_true ⟨z, rfl⟩]
    · rw [decide_eq_false (by simpa using y), decide_eq_false (fun q => y (Option.some.inj q.2))]
theorem strip_while {no : Option (List Nat × List Nat)} {body : List Nat × List Nat → TB (List Nat × List Nat) (Option (List Nat × List Nat))} {done : List Nat × List Nat → Option (List Nat × List Nat)} {L : Nat}
    (hb : ∀ h c, 0 < c.length → c.length ≤ L → h.length ≤ L → body (h, c) = if h ≠ [] ∧ h.getLast? = c.getLast? then TB.nx (h.dropLast, rotR c) else TB.bk (h, c)) (hd : ∀ h c, done (h, c) = some (h, c)) :
    ∀ (f : Nat) (h c : List Nat), 0 < c.length → c.length ≤ L → h.length ≤ L → h.length < f → whileV no body done f (h, c) = some (strip f h c)
  | 0, h, c, _, _, _, hf => by omega
  | f + 1, h, c, hc, hL, hh, hf => by
    rw [whileV_c, hb h c hc hL hh]
    show _ = some (if h ≠ [] ∧ h.getLast? = c.getLast? then strip f h.dropLast (rotR c) else (h, c))
    by_cases q : h ≠ [] ∧ h.getLast? = c.getLast?
    · have hp := List.length_pos_iff.mpr q.1
      rw [if_pos q, if_pos q]
      exact strip_while hb hd f h.dropLast (rotR c) (by rw [rotR_len hc]; exact hc) (by rw [rotR_len hc]; exact hL) (by rw [List.length_dropLast]; omega) (by rw [List.length_dropLast]; omega)
    · rw [if_neg q, if_neg q]
      exact hd h c
theorem strip_for {β : Type} {M : Type} {body : List Nat × List Nat × Jk → β → TB (List Nat × List Nat × Jk) (Option (List Nat × List Nat))} {done : List Nat × List Nat × Jk → Option (List Nat × List Nat)} {L : Nat} {g : β → Jk}
    (hb : ∀ h c j x, 0 < c.length → c.length ≤ L → h.length ≤ L → body (h, c, j) x = if h ≠ [] ∧ h.getLast? = c.getLast? then TB.nx (h.dropLast, rotR c, g x) else TB.nx (h, c, g x)) (hd : ∀ h c j, done (h, c, j) = some (h, c)) :
    ∀ (xs : List β) (h c : List Nat) (j : Jk), 0 < c.length → c.length ≤ L → h.length ≤ L → loopV body done xs (h, c, j) = some (strip xs.length h c)
  | [], h, c, j, _, _, _ => hd h c j
  | x :: xs, h, c, j, hc, hL, hh => by
    rw [loopV_c, hb h c j x hc hL hh]
    show _ = some (if h ≠ [] ∧ h.getLast? = c.getLast? then strip xs.length h.dropLast (rotR c) else (h, c))
    by_cases q : h ≠ [] ∧ h.getLast? = c.getLast?
    · rw [if_pos q, if_pos q]
      exact strip_for (M := M) hb hd xs h.dropLast (rotR c) _ (by rw [rotR_len hc]; exact hc) (by rw [rotR_len hc]; exact hL) (by rw [List.length_dropLast]; omega)
    · rw [if_neg q, if_neg q]
      show loopV body done xs (h, c, g x) = _
      rw [strip_for (M := M) hb hd xs h c _ hc hL hh]
      congr 1
      have : ∀ f, strip f h c = (h, c) := fun f => by
        cases f with
        | zero => rfl
        | succ f => show (if _ then _ else _) = _; rw [if_neg q]
      exact this _
theorem strip_len : ∀ (f : Nat) (h c : List Nat), 0 < c.length → (strip f h c).1.length ≤ h.length ∧ (strip f h c).2.length = c.length
  | 0, h, c, _ => ⟨Nat.le_refl _, rfl⟩
  | f + 1, h, c, hc => by
    show (if h ≠ [] ∧ h.getLast? = c.getLast? then strip f h.dropLast (rotR c) else (h, c)).1.length ≤ _ ∧ (if h ≠ [] ∧ h.getLast? = c.getLast? then strip f h.dropLast (rotR c) else (h, c)).2.length = _
    by_cases q : h ≠ [] ∧ h.getLast? = c.getLast?
    · rw [if_pos q]
      have := strip_len f h.dropLast (rotR c) (by rw [rotR_len hc]; exact hc)
      rw [rotR_len hc, List.length_dropLast] at this
      exact ⟨by omega, this.2⟩
    · rw [if_neg q]
      exact ⟨Nat.le_refl _, rfl⟩
/-- the least form of a row -/
def IsLF (h c : List Nat) (r : List Nat × List Nat) : Prop := Least r.1 r.2 ∧ (∀ n, seqR r.1 r.2 n = seqR h c n) ∧ r.1.length ≤ h.length ∧ r.2.length ≤ c.length
theorem IsLF.uniq {h c h' c' : List Nat} {r r' : List Nat × List Nat} (a : IsLF h c r) (b : IsLF h' c' r') (e : ∀ n, seqR h c n = seqR h' c' n) : r = r' := by
  obtain ⟨e1, e2⟩ := least_uniq a.1 b.1 fun n => by rw [a.2.1, b.2.1, e]
  exact Prod.ext e1 e2
/-- the first part: the shortest period -/
theorem prim_loop {M : Type} {c : List Nat} (hc : 0 < c.length) (hL : c.length ≤ 1000) {body : List Nat × Jk → Int → TB (List Nat × Jk) M} {done : List Nat × Jk → M} {R : M → Prop} {g : Int → Jk} {j0 : Jk}
    (hb : ∀ j (d : Nat), 0 < d → d ≤ c.length → ((d ∣ c.length ∧ Per c d) ∧ body (c, j) (d : Int) = TB.bk (c.take d, g d)) ∨ (¬ (d ∣ c.length ∧ Per c d) ∧ body (c, j) (d : Int) = TB.nx (c, g d)))
    (hd : ∀ d j, 0 < d → d ≤ c.length → d ∣ c.length → Per c d → (∀ e, 0 < e → e < d → e ∣ c.length → ¬ Per c e) → R (done (c.take d, j))) : R (loopV body done (rngI 1 ((c.length : Int) + 1)) (c, j0)) := by
  refine loopV_inv (R := R) (fun i s => s.1 = c ∧ ∀ e, 0 < e → e ≤ i → e ∣ c.length → ¬ Per c e) _ 0 _ ⟨rfl, fun e a b => by omega⟩ ?_ ?_
  · rintro i x ⟨c2, j⟩ hx ⟨h0, hp⟩
    obtain rfl : c2 = c := h0
    obtain ⟨rfl, hi⟩ := rngI_get hx
    have e0 : (1 : Int) + (i : Nat) = ((i + 1 : Nat) : Int) := by omega
    rw [e0]
    rcases hb j (i + 1) (by omega) (by omega) with ⟨q, e⟩ | ⟨q, e⟩
    · rw [e]
      exact .inr (.inl ⟨_, rfl, hd (i + 1) _ (by omega) (by omega) q.1 q.2 fun e a b => hp e a (by omega)⟩)
    · rw [e]
      refine .inl ⟨_, rfl, rfl, fun e a b c => ?_⟩
      by_cases z : e = i + 1
      · subst z; exact fun p => q ⟨c, p⟩
      · exact hp e a (by omega) c
  · rintro ⟨c2, j⟩ ⟨rfl, hp⟩
    exfalso
    have hr := rngI_len (a := 1) (b := (c2.length : Int) + 1)
    exact hp c2.length hc (by simp only [] at hr ⊢; omega) (Nat.dvd_refl _) (fun n => cyc_len n)
theorem prim_test {S M : Type} {c : List Nat} (hL : c.length ≤ 1000) {d : Nat} (h0 : 0 < d) (h1 : d ≤ c.length) {no : TB S M} {k : Bool → TB S M} {t : List Nat → List Nat → Bool} (ht : ∀ a b, t a b = decide (a = b)) :
    joinC no (if ((c.length : Int)).fmod (d : Int) = 0 then
        if szOk c.length = true then
          if szOk c.length = true then
            if divOk (d : Int) = true then
              if repOk (cutL c none (some (d : Int))) (((c.length : Int)).fdiv (d : Int)) = true then
                TC.ad (t (repL (cutL c none (some (d : Int))) (((c.length : Int)).fdiv (d : Int)).toNat) c) ()
              else TC.fin no
            else TC.fin no
          else TC.fin no
        else TC.fin no
      else TC.ad false ()) k = k (decide (d ∣ c.length ∧ repL (c.take d) (c.length / d) = c)) := by
  rw [fmod_nat h0, fdiv_nat, cut_to, ht]
  by_cases z : d ∣ c.length
  · have hm : c.length % d = 0 := Nat.mod_eq_zero_of_dvd z
    have hdv : c.length / d * d = c.length := Nat.div_mul_cancel z
    have hr : repOk (c.take d) ((c.length / d : Nat) : Int) = true := by
      unfold repOk
      have hq : c.length / d ≤ c.length := Nat.div_le_self _ _
      rw [Bool.and_eq_true]
      refine ⟨?_, szS ?_⟩
      · have : ((c.length / d : Nat) : Int) ≤ 1000 := by omega
        have t2 : (0 : Int) ≤ ((c.length / d : Nat) : Int) := Int.natCast_nonneg _
        generalize ((c.length / d : Nat) : Int) = z at this t2 ⊢
        unfold smallI
        rw [Bool.and_eq_true]
        exact ⟨decide_eq_true (by omega), decide_eq_true (by omega)⟩
      · rw [List.length_take, Nat.min_eq_left h1, Int.toNat_natCast, Nat.mul_comm, hdv]
        omega
    rw [if_pos (show ((c.length % d : Nat) : Int) = 0 by omega)]
    rw [if_pos (szS (by omega))]
    rw [if_pos (szS (by omega))]
    rw [if_pos (divS (by omega) (by omega))]
    have hr2 : (if repOk (c.take d) ((c.length / d : Nat) : Int) = true then (TC.ad (decide (repL (c.take d) ((c.length / d : Nat) : Int).toNat = c)) () : TC Unit Bool (TB S M)) else TC.fin no) = TC.ad (decide (repL (c.take d) (c.length / d) = c)) () := by
      rw [if_pos hr]
      rfl
    refine (congrArg (fun z => joinC no z k) hr2).trans ?_
    rw [joinC_ad]
    refine congrArg k ?_
    by_cases y : repL (c.take d) (c.length / d) = c
    · rw [decide_eq_true y, decide_eq_true ⟨z, y⟩]
    · rw [decide_eq_false y, decide_eq_false (fun q => y q.2)]
  · have hm : c.length % d ≠ 0 := fun e => z (Nat.dvd_of_mod_eq_zero e)
    rw [if_neg (by omega), joinC_ad, decide_eq_false (fun q => z q.1)]
theorem leastRow_ok {h c : List Nat} (hc : 0 < c.length) (h1 : h.length ≤ 1000) (h2 : c.length ≤ 1000) : ∃ r, leastRowF h c = some r ∧ IsLF h c r := by
  unfold leastRowF
  rw [if_pos (szS (by omega)), if_pos (rngS (by omega) (by omega) (by omega) (by omega))]
  refine prim_loop (R := fun o => ∃ r, o = some r ∧ IsLF h c r) (g := fun x => Jk.f (inj x)) hc h2 (fun j d d0 d1 => ?_) (fun d j d0 d1 dd dp dm => ?_)
  · dsimp only
    rw [if_pos (szS (by omega)), if_pos (by omega)]
    rw [prim_test h2 d0 d1 (t := fun a b => decide (a = b)) (fun _ _ => rfl)]
    by_cases z : d ∣ c.length ∧ Per c d
    · rw [if_pos (decide_eq_true ⟨z.1, (rep_iff d0 d1 z.1).mpr z.2⟩), if_pos (szS (by omega)), cut_to]
      exact .inl ⟨z, rfl⟩
    · rw [if_neg (by
        intro q
        have := of_decide_eq_true q
        exact z ⟨this.1, (rep_iff d0 d1 this.1).mp this.2⟩)]
      exact .inr ⟨z, rfl⟩
  · have hl : (c.take d).length = d := by rw [List.length_take]; omega
    have key := strip_while (no := none) (L := 1000) (body := (fun (s : List Nat × List Nat) =>
              joinC (TB.fin none)
                (if ¬s.fst = [] then
                  if szOk s.fst.length = true then
                    osM (TC.fin (TB.fin none)) (L2.atI s.fst (-1)) fun b =>
                      if szOk s.snd.length = true then
                        osM (TC.fin (TB.fin none)) (L2.atI s.snd (-1)) fun b_1 => TC.ad (decide ([b] = [b_1])) ()
                      else TC.fin (TB.fin none)
                  else TC.fin (TB.fin none)
                else TC.ad false ())
                fun v =>
                if v = true then
                  if szOk s.fst.length = true then
                    if szOk s.snd.length = true then
                      osM (TB.fin none) (L2.atI s.snd (-1)) fun b =>
                        if szOk s.snd.length = true then
                          if szOk (1 + (cutL s.snd none (some (-1))).length) = true then
                            TB.nx (cutL s.fst none (some (-1)), b :: cutL s.snd none (some (-1)))
                          else TB.fin none
                        else TB.fin none
                    else TB.fin none
                  else TB.fin none
                else TB.bk (s.fst, s.snd))) (done := fun s => some (s.fst, s.snd)) (fun h c hc hL hh => by
      dsimp only
      rw [strip_test hc hh hL]
      obtain ⟨b, e1, e2⟩ := atI_end hc
      have hne : c ≠ [] := List.length_pos_iff.mp hc
      by_cases q : h ≠ [] ∧ h.getLast? = c.getLast?
      · rw [decide_eq_true q, if_pos rfl, if_pos q, if_pos (szS (by omega)), if_pos (szS (by omega)), e1, osM_some, if_pos (szS (by omega)), cut_drop hne, cut_drop q.1, if_pos (szS (by rw [List.length_dropLast]; omega))]
        unfold rotR
        rw [e2]
        rfl
      · rw [decide_eq_false q, if_neg (by decide), if_neg q]) (fun _ _ => rfl) WF h (c.take d) (by omega) (by omega) h1 (by
        have : (1000 : Nat) < WF := by decide
        omega)
    refine ⟨strip WF h (c.take d), key, ?_⟩
    obtain ⟨a, b⟩ := strip_ok WF h (c.take d) (by omega) (fun e e0 e1 e2 ep => dm e e0 (by omega) (Nat.dvd_trans (by rw [hl] at e2; exact e2) dd) (fun n => by rw [← take_cyc d0 d1 dd dp, ← take_cyc d0 d1 dd dp]; exact ep n)) (by
      have : (1000 : Nat) < WF := by decide
      omega)
    have ln := fun f => strip_len f h (c.take d) (show 0 < (c.take d).length by omega)
    refine ⟨a, fun n => ?_, (ln _).1, by rw [(ln _).2]; omega⟩
    rw [b]
    unfold seqR
    rw [take_cyc d0 d1 dd dp]
theorem lleastRow_ok {h c : List Nat} (hc : 0 < c.length) (h1 : h.length ≤ 1000) (h2 : c.length ≤ 1000) : ∃ r, lleastRowF h c = some r ∧ IsLF h c r := by
  unfold lleastRowF
  rw [if_pos (szS (by omega)), if_pos (rngS (by omega) (by omega) (by omega) (by omega))]
  refine prim_loop (R := fun o => ∃ r, o = some r ∧ IsLF h c r) (g := fun x => Jk.f (inj x)) hc h2 (fun j d d0 d1 => ?_) (fun d j d0 d1 dd dp dm => ?_)
  · dsimp only
    rw [if_pos (szS (by omega)), if_pos (by omega)]
    rw [prim_test h2 d0 d1 (t := fun a b => decide (b = a)) (fun a b => by
      by_cases z : a = b
      · subst z; rfl
      · rw [decide_eq_false z, decide_eq_false (fun y => z y.symm)])]
    by_cases z : d ∣ c.length ∧ Per c d
    · rw [if_pos (decide_eq_true ⟨z.1, (rep_iff d0 d1 z.1).mpr z.2⟩), if_pos (szS (by omega)), cut_to]
      exact .inl ⟨z, rfl⟩
    · rw [if_neg (by
        intro q
        have := of_decide_eq_true q
        exact z ⟨this.1, (rep_iff d0 d1 this.1).mp this.2⟩)]
      exact .inr ⟨z, rfl⟩
  · have hl : (c.take d).length = d := by rw [List.length_take]; omega
    have hxs : (rngI 0 (h.length : Int)).length = h.length := by rw [rngI_len]; omega
    dsimp only
    rw [if_pos (szS (by omega)), if_pos (rngS (by omega) (by omega) (by omega) (by omega))]
    have key := strip_for (M := Unit) (L := 1000) (body := (fun (s : List Nat × List Nat × Jk) (x : Int) =>
                  joinC (TB.fin none)
                    (if ¬s.fst = [] then
                      if szOk s.fst.length = true then
                        osM (TC.fin (TB.fin none)) (L2.atI s.fst (-1)) fun b =>
                          if szOk s.snd.fst.length = true then
                            osM (TC.fin (TB.fin none)) (L2.atI s.snd.fst (-1)) fun b_1 =>
                              TC.ad (decide ([b] = [b_1])) ()
                          else TC.fin (TB.fin none)
                      else TC.fin (TB.fin none)
                    else TC.ad false ())
                    fun v =>
                    if v = true then
                      if szOk s.fst.length = true then
                        if szOk s.snd.fst.length = true then
                          osM (TB.fin none) (L2.atI s.snd.fst (-1)) fun b =>
                            if szOk s.snd.fst.length = true then
                              if szOk (1 + (cutL s.snd.fst none (some (-1))).length) = true then
                                TB.nx (cutL s.fst none (some (-1)), b :: cutL s.snd.fst none (some (-1)), Jk.f (inj x))
                              else TB.fin none
                            else TB.fin none
                        else TB.fin none
                      else TB.fin none
                    else TB.nx (s.fst, s.snd.fst, Jk.f (inj x)))) (done := fun s => some (s.fst, s.snd.fst)) (g := fun x => Jk.f (inj x)) (fun h c j x hc hL hh => by
      dsimp only
      rw [strip_test hc hh hL]
      obtain ⟨b, e1, e2⟩ := atI_end hc
      have hne : c ≠ [] := List.length_pos_iff.mp hc
      by_cases q : h ≠ [] ∧ h.getLast? = c.getLast?
      · rw [decide_eq_true q, if_pos rfl, if_pos q, if_pos (szS (by omega)), if_pos (szS (by omega)), e1, osM_some, if_pos (szS (by omega)), cut_drop hne, cut_drop q.1, if_pos (szS (by rw [List.length_dropLast]; omega))]
        unfold rotR
        rw [e2]
        rfl
      · rw [decide_eq_false q, if_neg (by decide), if_neg q]) (fun _ _ _ => rfl) (rngI 0 (h.length : Int)) h (c.take d) Jk.n (by omega) (by omega) h1
    rw [hxs] at key
    refine ⟨strip h.length h (c.take d), key, ?_⟩
    obtain ⟨a, b⟩ := strip_ok h.length h (c.take d) (by omega) (fun e e0 e1 e2 ep => dm e e0 (by omega) (Nat.dvd_trans (by rw [hl] at e2; exact e2) dd) (fun n => by rw [← take_cyc d0 d1 dd dp, ← take_cyc d0 d1 dd dp]; exact ep n)) (Nat.le_refl _)
    have ln := fun f => strip_len f h (c.take d) (show 0 < (c.take d).length by omega)
    refine ⟨a, fun n => ?_, (ln _).1, by rw [(ln _).2]; omega⟩
    rw [b]
    unfold seqR
    rw [take_cyc d0 d1 dd dp]
end TM

set_option Elab.async false
set_option maxRecDepth 100000
set_option maxHeartbeats 4000000
open PySem TW TM
namespace L_k14
theorem osM_some' {β M : Type} {no : M} {a : β} {k : β → M} : osM no (some a) k = k a := (rfl)
theorem l3 : m_3 = begunF := by funext a b; rfl
theorem l4 : m_4 = drawF := by funext a b; rfl
theorem l5 {α : Type} [Ty α] : m_5 (α := α) = ofF := by funext a b; rfl
theorem l0 : m_0 = leastRowF := by funext a b; rfl
theorem l7 : m_7 = lleastRowF := by funext a b; rfl
theorem repT {x : List Nat} {j : Int} (h0 : 0 ≤ j) (h1 : j ≤ 1000) (h2 : x.length ≤ 1000) : repOk x j = true := by
  unfold repOk
  rw [Bool.and_eq_true]
  refine ⟨?_, szS ?_⟩
  · unfold smallI
    rw [Bool.and_eq_true]
    exact ⟨decide_eq_true (by omega), decide_eq_true (by omega)⟩
  · have := Nat.mul_le_mul h2 (show j.toNat ≤ 1000 by omega)
    omega
/-! ### the marks of a row -/
theorem cyc_at {c : List Nat} (h : 0 < c.length) (n : Nat) : c[n % c.length]? = some (cyc c n) := by
  unfold cyc
  have := Nat.mod_lt n h
  rw [List.getD_eq_getElem?_getD, List.getElem?_eq_getElem this]
  rfl
theorem atI_nat {α : Type} {l : List α} {k : Nat} (h1 : k < l.length) : L2.atI l (k : Int) = l[k]? := by
  unfold L2.atI L2.ixN
  rw [if_pos (by omega), if_pos (by omega)]
  rfl
theorem at_ok {h c : List Nat} (hc : 0 < c.length) (h1 : h.length ≤ 1000) (h2 : c.length ≤ 1000) (k : Nat) : m_6 (h, c) (k : Int) = some [seqR h c k] := by
  unfold m_6 mm_6
  dsimp only
  unfold seqR
  rw [if_pos (szS (by omega))]
  by_cases q : k < h.length
  · rw [if_pos (decide_eq_true (by omega)), if_pos (szS (by omega)), if_pos q, atI_nat q, List.getD_eq_getElem?_getD, List.getElem?_eq_getElem q]
    rfl
  · rw [if_neg (by rw [decide_eq_true_iff]; omega), if_neg q, if_pos (szS (by omega)), if_pos (szS (by omega)), if_pos (by omega), if_pos (szS (by omega))]
    have e : ((k : Int) - (h.length : Int)).fmod (c.length : Int) = (((k - h.length) % c.length : Nat) : Int) := by
      rw [show (k : Int) - (h.length : Int) = ((k - h.length : Nat) : Int) by omega, fmod_nat hc]
    rw [e, atI_nat (Nat.mod_lt _ hc), cyc_at hc]
    rfl
theorem first_ok {h c : List Nat} (hc : 0 < c.length) (h1 : h.length ≤ 1000) (h2 : c.length ≤ 1000) : m_1 (h, c) = some [seqR h c 0] := by
  unfold m_1 mm_1
  dsimp only
  unfold seqR
  cases h with
  | nil =>
    rw [if_neg (by simp), if_pos (szS (by omega)), if_neg (by exact Nat.lt_irrefl 0)]
    have e : L2.atI c 0 = some (cyc c 0) := by
      have := cyc_at hc 0
      rw [Nat.zero_mod] at this
      rw [← this]
      exact atI_nat (k := 0) hc
    rw [e]
    rfl
  | cons a h =>
    rw [if_pos (by rw [decide_eq_false (List.cons_ne_nil a h)]; rfl), if_pos (szS (by omega)), if_pos (by rw [List.length_cons]; omega)]
    have e : L2.atI (a :: h) 0 = some a := atI_nat (k := 0) (by rw [List.length_cons]; omega)
    rw [e]
    rfl
theorem cut_from {α : Type} {l : List α} {a : Nat} : cutL l (some (a : Int)) none = l.drop a := by
  unfold cutL
  rw [HT.sIx_nat, HT.sIx_none]
  by_cases h : a ≤ l.length
  · rw [Nat.min_eq_left h, List.take_of_length_le (by rw [List.length_drop]; omega)]
  · rw [Nat.min_eq_right (by omega), List.drop_of_length_le (Nat.le_refl _), List.drop_of_length_le (by omega), List.take_nil]
/-- turned to the left by one -/
theorem rotL_cyc {a : Nat} {c : List Nat} (n : Nat) : cyc (c ++ [a]) n = cyc (a :: c) (n + 1) := by
  have hr : rotR (c ++ [a]) = a :: c := by
    unfold rotR
    rw [List.getLast?_append, List.dropLast_concat]
    rfl
  rw [← hr]
  exact (rotR_cyc (by rw [List.length_append]; show 0 < _ + 1; omega) n).symm
structure Sh (h c : List Nat) (r : List Nat × List Nat) : Prop where
  l : Least r.1 r.2
  s : ∀ n, seqR r.1 r.2 n = seqR h c (n + 1)
  a : r.1.length ≤ 1000
  b : r.2.length ≤ 1000
theorem shift_ok {h c : List Nat} (L : Least h c) (h1 : h.length ≤ 1000) (h2 : c.length ≤ 1000) : ∃ r, m_2 (h, c) = some r ∧ Sh h c r := by
  unfold m_2 mm_2
  dsimp only
  cases h with
  | nil =>
    rw [if_neg (by simp), if_pos (szS (by omega)), if_pos (szS (by omega))]
    obtain ⟨hc, hp, hl⟩ := L
    cases c with
    | nil => exact absurd hc (Nat.lt_irrefl 0)
    | cons a c =>
      have e : L2.atI (a :: c) 0 = some a := atI_nat (k := 0) (by rw [List.length_cons]; omega)
      have e2 : cutL (a :: c) (some 1) none = c := cut_from (a := 1)
      have hlen : (c ++ [a]).length = (a :: c).length := by rw [List.length_append, List.length_cons]; rfl
      rw [List.length_cons] at h2
      rw [e, osM_some', e2, if_pos (szS (by omega))]
      refine ⟨_, rfl, ⟨by rw [hlen]; exact hc, fun d d0 d1 d2 p => hp d d0 (by rw [← hlen]; exact d1) (by rw [← hlen]; exact d2) (fun n => ?_), .inl rfl⟩, fun n => ?_, by show 0 ≤ _; omega, by rw [hlen, List.length_cons]; omega⟩
      · have hn : ∃ N, n + (a :: c).length = N + 1 := ⟨n + c.length, by rw [List.length_cons]; omega⟩
        obtain ⟨N, hN⟩ := hn
        rw [← cyc_len (n + d), ← cyc_len n, show n + d + (a :: c).length = (N + d) + 1 by omega, hN, ← rotL_cyc, ← rotL_cyc]
        exact p N
      · unfold seqR
        rw [if_neg (by exact Nat.not_lt_zero _), if_neg (by exact Nat.not_lt_zero _)]
        exact rotL_cyc n
  | cons a h =>
    have e2 : cutL (a :: h) (some 1) none = h := cut_from (a := 1)
    rw [if_pos (by rw [decide_eq_false (List.cons_ne_nil a h)]; rfl), if_pos (szS (by omega)), e2]
    rw [List.length_cons] at h1
    refine ⟨_, rfl, ⟨L.n, L.p, ?_⟩, fun n => ?_, by show h.length ≤ _; omega, h2⟩
    · cases h with
      | nil => exact .inl rfl
      | cons b h =>
        refine .inr ?_
        rcases L.l with z | z
        · cases z
        · rw [List.getLast?_cons_cons] at z
          exact z
    · unfold seqR
      rw [List.length_cons]
      by_cases q : n < h.length
      · rw [if_pos q, if_pos (by omega), List.getD_cons_succ]
      · rw [if_neg q, if_neg (by omega)]
        congr 1
        show n - h.length = n + 1 - (h.length + 1)
        omega
/-! ### is it a least form -/
theorem least_yes {h c : List Nat} (L : Least h c) (h1 : h.length ≤ 1000) (h2 : c.length ≤ 1000) : m_8 (h, c) = some true := by
  unfold m_8 mm_8
  dsimp only
  have hc := L.n
  have hne : c ≠ [] := List.length_pos_iff.mp hc
  rw [if_neg hne]
  have t1 : ∀ {k : Bool → TC Unit Bool (Option Bool)}, joinC (TC.fin none) (if ¬h = [] then
          if szOk h.length = true then
            osM (TC.fin (TC.fin none)) (L2.atI h (-1)) fun b =>
              if szOk c.length = true then
                osM (TC.fin (TC.fin none)) (L2.atI c (-1)) fun b_1 => TC.ad (decide ([b] = [b_1])) ()
              else TC.fin (TC.fin none)
          else TC.fin (TC.fin none)
        else TC.ad false ()) k = k false := fun {k} => by
    obtain ⟨b, e1, e2⟩ := atI_end hc
    by_cases z : h = []
    · rw [if_neg (fun y => y z), joinC_ad]
    · obtain ⟨a, f1, f2⟩ := atI_end (List.length_pos_iff.mpr z)
      rw [if_pos z, if_pos (szS (by omega)), f1, osM_some, if_pos (szS (by omega)), e1, osM_some, joinC_ad]
      refine congrArg k (decide_eq_false fun y => ?_)
      rcases L.l with q | q
      · exact z q
      · rw [f2, e2] at q
        exact q (congrArg some (List.cons.inj y).1)
  rw [t1, joinC_ad, if_neg (by decide), if_pos (szS (by omega)), if_pos (rngS (by omega) (by omega) (by omega) (by omega))]
  refine loopV_inv (R := fun o => o = some true) (fun _ _ => True) _ 0 _ trivial ?_ (fun _ _ => rfl)
  intro i x s hx _
  obtain ⟨rfl, hi⟩ := rngI_get hx
  have e0 : (1 : Int) + (i : Nat) = ((i + 1 : Nat) : Int) := by omega
  rw [e0, if_pos (szS (by omega)), if_pos (by omega), prim_test h2 (by omega) (by omega) (t := fun a b => decide (b = a)) (fun a b => by
      by_cases z : a = b
      · subst z; rfl
      · rw [decide_eq_false z, decide_eq_false (fun y => z y.symm)])]
  rw [if_neg (by
    intro q
    have q := of_decide_eq_true q
    exact L.p (i + 1) (by omega) (by omega) q.1 ((rep_iff (by omega) (by omega) q.1).mp q.2))]
  exact .inl ⟨_, rfl, trivial⟩
end L_k14

set_option Elab.async false
set_option maxRecDepth 100000
set_option maxHeartbeats 4000000
open PySem TW TM
namespace L_k14
theorem sum_one : ∀ {ds : List (List Nat)}, (∀ d ∈ ds, d.length = 1) → (ds.map List.length).sum = ds.length ∧ (joinN [] ds).length = ds.length
  | [], _ => ⟨rfl, rfl⟩
  | [d], h => by
    have := h d (List.mem_cons_self ..)
    refine ⟨?_, this⟩
    rw [List.map_cons, List.sum_cons, this]
    rfl
  | d :: e :: ds, h => by
    have h1 := h d (List.mem_cons_self ..)
    obtain ⟨a, b⟩ := sum_one (ds := e :: ds) fun x hx => h x (List.mem_cons_of_mem _ hx)
    refine ⟨?_, ?_⟩
    · rw [List.map_cons, List.sum_cons, a, h1, List.length_cons (a := d)]
      omega
    · show (d ++ [] ++ joinN [] (e :: ds)).length = _
      rw [List.length_append, List.length_append, b, h1, List.length_cons (a := d), List.length_nil]
      omega
theorem marks_ok {q n : Int} {m : MS} (h : Dr q m) (hn : 0 ≤ n) (hn2 : n < 1000) (hq : q + n < 1000000) : ∃ (ds : List Nat) (m' : MS), m_9 m n = some (ds, m') ∧ ds.length = n.toNat ∧ Dr (q + n) m' := by
  unfold m_9 mm_9
  dsimp only
  rw [if_pos (rngS (by omega) (by omega) (by omega) (by omega))]
  have hlen : (rngI 0 n).length = n.toNat := by rw [rngI_len, Int.sub_zero]
  refine compV_inv (R := fun r => ∃ (ds : List Nat) (m' : MS), r = some (ds, m') ∧ ds.length = n.toNat ∧ Dr (q + n) m') (fun i acc s => (∀ d ∈ acc, d.length = 1) ∧ acc.length = i ∧ Dr (q + i) s) (rngI 0 n) 0 [] sizeLine m ⟨fun d hd => (nomatch hd), rfl, by simpa using h⟩ (by
    have : (1000 : Nat) ≤ sizeLine := by decide
    omega) ?_ ?_
  · rintro i x acc s hx ⟨ha, hl, hd⟩
    have hi := (rngI_get hx).2
    obtain ⟨d, m', e, hm, hd2⟩ := of_ok (xs := [[48], [49], [48], [49], [42]]) hd (by omega) (by decide) (by decide)
    refine .inr (.inl ⟨d, m', ?_, ?_, by rw [List.length_append, hl]; rfl, ?_⟩)
    · rw [l5, e]
      rfl
    · intro y hy
      rcases List.mem_append.mp hy with hy | hy
      · exact ha y hy
      · rw [List.mem_singleton.mp hy]
        have : ∀ d ∈ [[48], [49], [48], [49], [42]], d.length = 1 := by decide
        exact this d hm
    · have e1 : q + ((0 + i + 1 : Nat) : Int) = q + ((0 + i : Nat) : Int) + 1 := by omega
      rw [e1]
      exact hd2
  · rintro ds s ⟨ha, hl, hd⟩
    rw [Nat.zero_add, hlen] at hl hd
    obtain ⟨a, b⟩ := sum_one ha
    refine ⟨joinN [] ds, s, ?_, by rw [b, hl], ?_⟩
    · have hj : joinOk [] ds = true := by
        unfold joinOk
        apply szS
        rw [a, List.length_nil, Nat.zero_mul]
        omega
      rw [if_pos hj]
    · have : q + ((n.toNat : Nat) : Int) = q + n := by omega
      rw [this] at hd
      exact hd
theorem cut_to' {α : Type} {l : List α} {a : Int} (h : 0 ≤ a) : cutL l none (some a) = l.take a.toNat := by
  obtain ⟨k, rfl⟩ : ∃ k : Nat, a = k := ⟨a.toNat, by omega⟩
  exact cut_to
theorem cut_from' {α : Type} {l : List α} {a : Int} (h : 0 ≤ a) : cutL l (some a) none = l.drop a.toNat := by
  obtain ⟨k, rfl⟩ : ∃ k : Nat, a = k := ⟨a.toNat, by omega⟩
  exact cut_from
theorem other_ok {q : Int} {m : MS} {h c : List Nat} (hd : Dr q m) (hq : q < 1000) (h1 : h.length ≤ 9) (hc : 0 < c.length) (h2 : c.length ≤ 12) :
    ∃ (h' c' : List Nat) (m' : MS), m_10 m h c = some ((h', c'), m') ∧ h'.length ≤ 23 ∧ 0 < c'.length ∧ c'.length ≤ 24 := by
  unfold m_10 mm_10
  dsimp only
  rw [l4]
  obtain ⟨r1, m1, e1, a1, b1, d1⟩ := draw_ok (b := 4) hd (by omega) (by decide) (by decide)
  have f1 : 0 ≤ r1.fdiv 2 ∧ r1.fdiv 2 ≤ 1 := by
    have : r1 = 0 ∨ r1 = 1 ∨ r1 = 2 ∨ r1 = 3 := by omega
    rcases this with rfl | rfl | rfl | rfl <;> decide
  rw [e1, osM_some']
  dsimp only
  rw [if_pos (by decide), if_pos (repT f1.1 (by omega) (by omega))]
  have g1 : (repL c (r1.fdiv 2).toNat).length ≤ 12 := by
    rw [repL_len]
    have := Nat.mul_le_mul (show (r1.fdiv 2).toNat ≤ 1 by omega) h2
    omega
  rw [if_pos (szS (by omega))]
  obtain ⟨r2, m2, e2, a2, b2, d2⟩ := draw_ok (b := 2) d1 (by omega) (by decide) (by decide)
  rw [e2, osM_some']
  dsimp only
  rw [if_pos (repT (by omega) (by omega) (by omega))]
  have g2 : 0 < (repL c (1 + r2).toNat).length ∧ (repL c (1 + r2).toNat).length ≤ 24 := by
    rw [repL_len]
    have : (1 + r2).toNat = 1 ∨ (1 + r2).toNat = 2 := by omega
    rcases this with z | z <;> rw [z] <;> omega
  obtain ⟨r3, m3, e3, a3, b3, d3⟩ := draw_ok (b := 3) d2 (by omega) (by decide) (by decide)
  rw [e3, osM_some']
  dsimp only
  rw [if_pos (rngS (by omega) (by omega) (by omega) (by omega))]
  have g3 : (h ++ repL c (r1.fdiv 2).toNat).length ≤ 21 := by rw [List.length_append]; omega
  generalize h ++ repL c (r1.fdiv 2).toNat = H at g3
  generalize repL c (1 + r2).toNat = C at g2
  refine loopV_inv (R := fun r => ∃ (h' c' : List Nat) (m' : MS), r = some ((h', c'), m') ∧ h'.length ≤ 23 ∧ 0 < c'.length ∧ c'.length ≤ 24) (fun i s => s.1 = m3 ∧ s.2.1.length ≤ 21 + i ∧ 0 < s.2.2.1.length ∧ s.2.2.1.length ≤ 24) _ 0 _ ⟨rfl, g3, g2⟩ ?_ ?_
  · rintro i x ⟨m, H, C, j⟩ hx ⟨p0, p1, p2, p3⟩
    dsimp only at p0 p1 p2 p3
    have hi := (rngI_get hx).2
    dsimp only
    have e : L2.atI C 0 = some C[0] := by
      rw [show (0 : Int) = ((0 : Nat) : Int) by rfl, atI_nat p2, List.getElem?_eq_getElem p2]
    have e4 : (cutL C (some 1) none).length + 1 = C.length := by
      rw [cut_from' (by decide), List.length_drop]
      show C.length - 1 + 1 = _
      omega
    rw [if_pos (szS (by omega)), e, osM_some', if_pos (szS (by omega)), if_pos (szS (by omega)), if_pos (szS (by omega)), osM_some', if_pos (szS (by omega))]
    exact .inl ⟨_, rfl, p0, by rw [List.length_append]; show H.length + 1 ≤ _; omega, by rw [List.length_append]; show 0 < _ + 1; omega, by rw [List.length_append]; show _ + 1 ≤ _; omega⟩
  · rintro ⟨m, H, C, j⟩ ⟨p0, p1, p2, p3⟩
    dsimp only at p0 p1 p2 p3
    subst p0
    have hr := rngI_len (a := 0) (b := r3)
    obtain ⟨r4, m4, e4, a4, b4, d4⟩ := draw_ok (b := 2) d3 (by omega) (by decide) (by decide)
    dsimp only
    rw [e4, osM_some']
    dsimp only
    by_cases z : r4 = 0
    · rw [if_pos (decide_eq_true z)]
      exact ⟨H, C, m4, rfl, by omega, p2, p3⟩
    · rw [if_neg (by rw [decide_eq_false z]; decide)]
      have hl : (H ++ C).length = H.length + C.length := List.length_append
      rw [← hl]
      have hL : (H ++ C).length ≤ 47 := by omega
      have hL0 : 0 < (H ++ C).length := by omega
      generalize H ++ C = L at hl hL hL0
      rw [if_pos (szS (by omega)), if_pos (szS (by omega)), if_pos (szS (by omega))]
      obtain ⟨p, m5, e5, a5, b5, d5⟩ := draw_ok (b := (L.length : Int)) d4 (by omega) (by omega) (by omega)
      rw [e5, osM_some']
      dsimp only
      obtain ⟨x, m6, e6, hm, d6⟩ := of_ok (xs := [[48], [49], [42]]) d5 (by omega) (by decide) (by decide)
      rw [if_pos (szS (by omega)), l5, e6, osM_some']
      dsimp only
      have hx : x.length = 1 := by
        have : ∀ d ∈ [[48], [49], [42]], d.length = 1 := by decide
        exact this x hm
      rw [cut_to' a5, cut_from' (by omega)]
      have k1 : (L.take p.toNat).length = p.toNat := by rw [List.length_take]; omega
      have k2 : (L.drop (p + 1).toNat).length = L.length - (p + 1).toNat := by rw [List.length_drop]
      have k3 : (L.take p.toNat ++ x).length = p.toNat + 1 := by rw [List.length_append, k1, hx]
      have k4 : (L.take p.toNat ++ x ++ L.drop (p + 1).toNat).length = L.length := by
        rw [List.length_append, k3, k2]
        omega
      rw [← List.length_append]
      generalize L.take p.toNat ++ x ++ L.drop (p + 1).toNat = W at k4
      rw [if_pos (szS (by omega)), if_pos (szS (by omega)), if_pos (szS (by omega)), if_pos (szS (by omega)), if_pos (szS (by omega)), if_pos (szS (by omega)), if_pos (szS (by omega))]
      refine ⟨_, _, _, rfl, ?_, ?_, ?_⟩
      · rw [cut_to, List.length_take]
        omega
      · rw [cut_from, List.length_drop]
        omega
      · rw [cut_from, List.length_drop]
        omega
end L_k14

set_option Elab.async false
set_option maxRecDepth 100000
set_option maxHeartbeats 4000000
open PySem TW TM
namespace L_k14
theorem filt_ok {β : Type} [DecidableEq β] {M : Type} {no : M} {f g : Nat → β} {body : Unit → Int → TC Unit Int M} {done : List Int → Unit → M} {R : M → Prop} {N : Nat} (hN : N ≤ 1000)
    (hb : ∀ k : Nat, k < N → body () (k : Int) = if ¬ (f k = g k) then TC.ad (k : Int) () else TC.sk ())
    (hd : ∀ ds : List Int, ds.isEmpty = decide (∀ k, k < N → f k = g k) → R (done ds ())) : R (compV no body done (rngI 0 (N : Int)) [] sizeLine ()) := by
  have hlen : (rngI 0 (N : Int)).length = N := by rw [rngI_len]; omega
  refine compV_inv (R := R) (fun i acc _ => acc.isEmpty = decide (∀ k, k < i → f k = g k)) _ 0 [] sizeLine () (by
      rw [decide_eq_true (fun k hk => absurd hk (Nat.not_lt_zero _))]; rfl) (by
    have : (1000 : Nat) ≤ sizeLine := by decide
    omega) ?_ ?_
  · rintro i x acc ⟨⟩ hx ha
    obtain ⟨rfl, hi⟩ := rngI_get hx
    rw [show (0 : Int) + (i : Nat) = (i : Int) by omega, hb i (by omega)]
    rw [Nat.zero_add] at ha ⊢
    by_cases q : f i = g i
    · rw [if_neg (fun y => y q)]
      refine .inl ⟨(), rfl, ?_⟩
      rw [ha]
      apply decide_eq_decide.mpr
      constructor
      · intro y k hk
        by_cases z : k = i
        · rw [z]; exact q
        · exact y k (by omega)
      · intro y k hk
        exact y k (by omega)
    · rw [if_pos q]
      refine .inr (.inl ⟨_, (), rfl, ?_⟩)
      rw [decide_eq_false (fun y => q (y i (by omega)))]
      cases acc <;> rfl
  · rintro ds ⟨⟩ h
    rw [Nat.zero_add, hlen] at h
    exact hd ds h
theorem cut_mid {α : Type} {l : List α} {a b : Nat} (h : b ≤ l.length) (hab : a ≤ b) : cutL l (some (a : Int)) (some (b : Int)) = (l.drop a).take (b - a) := by
  unfold cutL
  rw [HT.sIx_nat, HT.sIx_nat, Nat.min_eq_left h, Nat.min_eq_left (by omega)]
/-- what is left of a row behind k marks, written with some rounds -/
theorem rest_seq {h c : List Nat} (hc : 0 < c.length) {k : Nat} (hk : k ≤ h.length + c.length) :
    ((cutL (h ++ repL c 12) (some ((k : Int) + 1)) (some ((h.length : Int) + (c.length : Int) * 3))).length ≤ h.length + c.length * 3) ∧ ∀ n, seqR (cutL (h ++ repL c 12) (some ((k : Int) + 1)) (some ((h.length : Int) + (c.length : Int) * 3))) c n = seqR h c (n + (k + 1)) := by
  have hl : (h ++ repL c 12).length = h.length + 12 * c.length := by rw [List.length_append, repL_len]
  have e : cutL (h ++ repL c 12) (some ((k : Int) + 1)) (some ((h.length : Int) + (c.length : Int) * 3)) = ((h ++ repL c 12).drop (k + 1)).take (h.length + c.length * 3 - (k + 1)) := by
    rw [show (k : Int) + 1 = ((k + 1 : Nat) : Int) by omega, show (h.length : Int) + (c.length : Int) * 3 = ((h.length + c.length * 3 : Nat) : Int) by omega]
    exact cut_mid (by omega) (by omega)
  rw [e]
  have hr : (((h ++ repL c 12).drop (k + 1)).take (h.length + c.length * 3 - (k + 1))).length = h.length + c.length * 3 - (k + 1) := by
    rw [List.length_take, List.length_drop]
    omega
  refine ⟨by omega, fun n => ?_⟩
  by_cases q : n < h.length + c.length * 3 - (k + 1)
  · have : seqR (((h ++ repL c 12).drop (k + 1)).take (h.length + c.length * 3 - (k + 1))) c n = (h ++ repL c 12).getD (n + (k + 1)) 0 := by
      unfold seqR
      rw [if_pos (by omega), List.getD_eq_getElem?_getD, List.getElem?_take, if_pos q, List.getElem?_drop, ← List.getD_eq_getElem?_getD, Nat.add_comm]
    rw [this]
    unfold seqR
    by_cases z : n + (k + 1) < h.length
    · rw [if_pos z, List.getD_eq_getElem?_getD, List.getElem?_append_left z, ← List.getD_eq_getElem?_getD]
    · rw [if_neg z, List.getD_eq_getElem?_getD, List.getElem?_append_right (by omega), repL_get hc _ _ (by omega), cyc_at hc]
      rfl
  · have : seqR (((h ++ repL c 12).drop (k + 1)).take (h.length + c.length * 3 - (k + 1))) c n = cyc c (n - (h.length + c.length * 3 - (k + 1))) := by
      unfold seqR
      rw [if_neg (by omega), hr]
    rw [this]
    unfold seqR
    rw [if_neg (by omega), ← cyc_mul (n - (h.length + c.length * 3 - (k + 1))) 3]
    congr 1
    omega
theorem line_at {h c : List Nat} (hc : 0 < c.length) {k : Nat} (hk : k ≤ h.length + c.length) : L2.atI (h ++ repL c 12) (k : Int) = some (seqR h c k) := by
  have hl : (h ++ repL c 12).length = h.length + 12 * c.length := by rw [List.length_append, repL_len]
  rw [atI_nat (by omega)]
  unfold seqR
  by_cases z : k < h.length
  · rw [if_pos z, List.getElem?_append_left z, List.getD_eq_getElem?_getD, List.getElem?_eq_getElem z]
    rfl
  · rw [if_neg z, List.getElem?_append_right (by omega), repL_get hc _ _ (by omega), cyc_at hc]
abbrev St11 := Jk × Jk × Jk × Jk × Jk × Jk × Jk × Jk × Jk × Jk × Jk
def Qo (r : TB St11 (Option Bool)) : Prop := ∃ s', r = TB.nx s' ∧ ∀ ρ, hid1 0 (s'.snd.snd.snd.snd.snd.snd.fst.s :: ρ) = true
theorem law_ok {ns : List Int} (h : ns.length ≤ 63) : m_11 ns = some true := by
  unfold m_11 mm_11
  dsimp only
  have g : ∀ z : Int, z = (if 2 < if (ns.length : Int) < 4 then (ns.length : Int) else 4 then if (ns.length : Int) < 4 then (ns.length : Int) else 4 else 2) → 0 ≤ z ∧ z < 1000 := fun z hz => by
    split at hz <;> (try split at hz) <;> omega
  have g := g _ rfl
  generalize (if 2 < if (ns.length : Int) < 4 then (ns.length : Int) else 4 then if (ns.length : Int) < 4 then (ns.length : Int) else 4 else 2) = T at g ⊢
  rw [if_pos (rngS (by omega) (by omega) (by omega) (by omega))]
  refine loopV_inv (R := fun r => r = some true) (fun _ s => ∀ ρ, hid1 0 (s.snd.snd.snd.snd.snd.snd.fst.s :: ρ) = true) _ 0 _ (fun _ => rfl) ?_ (fun _ _ => rfl)
  rintro i x s hx hs
  refine .inl (show Qo _ from ?_)
  rw [l3, l4]
  obtain ⟨m0, e0, d0⟩ := begun_ok h (k := x)
  rw [e0, osM_some']
  obtain ⟨r1, m1, e1, a1, b1, d1⟩ := draw_ok (b := 10) d0 (by omega) (by decide) (by decide)
  rw [e1, osM_some']
  dsimp only
  obtain ⟨hd, m2, e2, a2, d2⟩ := marks_ok (n := r1) d1 (by omega) (by omega) (by omega)
  rw [e2, osM_some']
  dsimp only
  obtain ⟨r3, m3, e3, a3, b3, d3⟩ := draw_ok (b := 4) d2 (by omega) (by decide) (by decide)
  rw [e3, osM_some']
  dsimp only
  obtain ⟨cc, m4, e4, a4, d4⟩ := marks_ok (n := 1 + r3) d3 (by omega) (by omega) (by omega)
  rw [e4, osM_some']
  dsimp only
  obtain ⟨r5, m5, e5, a5, b5, d5⟩ := draw_ok (b := 3) d4 (by omega) (by decide) (by decide)
  rw [e5, osM_some']
  dsimp only
  rw [if_pos (repT (by omega) (by omega) (by omega))]
  have hcl : 0 < (repL cc (1 + r5).toNat).length ∧ (repL cc (1 + r5).toNat).length ≤ 12 := by
    rw [repL_len]
    have h1 : (1 + r5).toNat = 1 ∨ (1 + r5).toNat = 2 ∨ (1 + r5).toNat = 3 := by omega
    rcases h1 with z | z | z <;> rw [z] <;> omega
  generalize repL cc (1 + r5).toNat = c at hcl
  obtain ⟨hc, hc2⟩ := hcl
  have hh : hd.length ≤ 9 := by omega
  obtain ⟨told, f1, L1⟩ := leastRow_ok (h := hd) hc (by omega) (by omega)
  obtain ⟨told', f2, L2⟩ := lleastRow_ok (h := hd) hc (by omega) (by omega)
  obtain rfl := L1.uniq L2 (fun _ => rfl)
  obtain ⟨T1, T2⟩ := told
  obtain ⟨L0, LS, LA, LB⟩ := L1
  dsimp only at L0 LS LA LB
  rw [l0, f1, osM_some', least_yes L0 (by omega) (by omega), osM_some', if_neg (by decide), l7, f2, osM_some', joinC_ad, if_neg (by rw [decide_eq_true rfl]; decide)]
  rw [if_pos (by decide), if_pos (hs _)]
  have at1 : ∀ k : Nat, m_6 (T1, T2) (k : Int) = some [seqR T1 T2 k] := fun k => at_ok L0.n (by omega) (by omega) k
  have at2 : ∀ k : Nat, m_6 (hd, c) (k : Int) = some [seqR hd c k] := fun k => at_ok hc (by omega) (by omega) k
  refine filt_ok (R := Qo) (N := 60) (f := fun k => [seqR T1 T2 k]) (g := fun k => [seqR hd c k]) (by decide) (fun k hk => by
    rw [at1, at2, osM_some', osM_some']) (fun ds hds => ?_)
  rw [decide_eq_true (fun k _ => by show [_] = [_]; rw [LS])] at hds
  rw [hds, if_neg (by decide)]
  obtain ⟨h', c', m6, e6, u1, u2, u3⟩ := other_ok (h := hd) (c := c) d5 (by omega) hh hc hc2
  rw [e6, osM_some', if_pos (by decide), if_pos (hs _)]
  dsimp only
  have at3 : ∀ k : Nat, m_6 (h', c') (k : Int) = some [seqR h' c' k] := fun k => at_ok u2 (by omega) (by omega) k
  refine filt_ok (R := Qo) (N := 80) (f := fun k => [seqR h' c' k]) (g := fun k => [seqR hd c k]) (by decide) (fun k hk => by
    rw [at3, at2, osM_some', osM_some']) (fun dt hdt => ?_)
  obtain ⟨⟨O1, O2⟩, f3, O⟩ := leastRow_ok (h := h') (c := c') u2 (by omega) (by omega)
  rw [f3, osM_some']
  have same : decide ((O1, O2) = (T1, T2)) = dt.isEmpty := by
    rw [hdt]
    apply decide_eq_decide.mpr
    constructor
    · intro q k _
      obtain ⟨rfl, rfl⟩ := Prod.mk.inj q
      rw [← O.2.1, ← LS]
    · intro q
      have far := alike_far u2 hc (M := 23) (N := 80) u1 (by omega) (by omega) (fun n hn => (List.cons.inj (q n hn)).1)
      exact O.uniq ⟨L0, LS, LA, LB⟩ far
  rw [same, if_neg (by simp)]
  rw [show (Int.toNat 12) = 12 by rfl]
  rw [if_pos (repT (by decide) (by decide) (by omega))]
  have hl : (hd ++ repL c 12).length = hd.length + 12 * c.length := by rw [List.length_append, repL_len]
  rw [← List.length_append, if_pos (szS (by omega)), if_pos (szS (by omega)), if_pos (szS (by omega)), if_pos (rngS (by omega) (by omega) (by omega) (by omega))]
  refine loopV_inv (R := Qo) 
    (fun i s => (Least s.1.1 s.1.2 ∧ (∀ n, seqR s.1.1 s.1.2 n = seqR hd c (n + i)) ∧ s.1.1.length ≤ 1000 ∧ s.1.2.length ≤ 1000) ∧ ∀ ρ, hid1 0 (s.snd.fst.s :: ρ) = true) _ 0 _ ⟨⟨L0, LS, by show T1.length ≤ _; omega, by show T2.length ≤ _; omega⟩, hs⟩ ?_ ?_
  · rintro k x ⟨⟨A, C⟩, j1, j2⟩ hx ⟨⟨p1, p2, p3, p4⟩, p5⟩
    obtain ⟨rfl, hk⟩ := rngI_get hx
    dsimp only at p1 p2 p3 p4 p5 ⊢
    rw [Nat.zero_add] at p2
    rw [show (0 : Int) + (k : Nat) = (k : Int) by omega]
    have hk : k ≤ hd.length + c.length := by omega
    rw [first_ok p1.n p3 p4, osM_some', if_pos (szS (by omega)), line_at hc hk, osM_some', p2, Nat.zero_add, if_neg (by simp)]
    obtain ⟨⟨A', C'⟩, e9, S⟩ := shift_ok p1 p3 p4
    rw [e9, osM_some', if_pos (szS (by omega)), if_pos (szS (by omega)), if_pos (mulS (.inr ⟨by decide, by decide⟩)), if_pos (szS (by omega)), least_yes S.l S.a S.b, osM_some', if_neg (by decide)]
    obtain ⟨q1, q2⟩ := rest_seq hc hk
    obtain ⟨⟨A2, C2⟩, e10, S2⟩ := lleastRow_ok (h := cutL (hd ++ repL c 12) (some ((k : Int) + 1)) (some ((hd.length : Int) + (c.length : Int) * 3))) hc (by omega) (by omega)
    have sq : ∀ n, seqR A' C' n = seqR hd c (n + (k + 1)) := fun n => by
      have := S.s n
      rw [this, p2]
      congr 1
      omega
    obtain ⟨z1, z2⟩ := least_uniq S.l S2.1 (fun n => by
      rw [S2.2.1, q2]
      exact sq n)
    dsimp only at z1 z2
    subst z1 z2
    rw [e10, osM_some', joinC_ad, if_neg (by rw [decide_eq_true rfl]; decide)]
    exact .inl ⟨_, rfl, ⟨S.l, fun n => sq n, S.a, S.b⟩, fun _ => rfl⟩
  · rintro ⟨⟨A, C⟩, j1, j2⟩ ⟨_, p5⟩
    dsimp only at p5 ⊢
    obtain ⟨⟨B1, B2⟩, e11, B⟩ := leastRow_ok (h := T1) (c := T2) L0.n (by omega) (by omega)
    obtain ⟨z1, z2⟩ := least_uniq B.1 L0 B.2.1
    dsimp only at z1 z2
    subst z1 z2
    rw [e11, osM_some', if_neg (fun y => y rfl)]
    exact ⟨_, rfl, p5⟩
end L_k14

set_option maxRecDepth 100000
set_option maxHeartbeats 4000000
open PySem TW TM
namespace L_k14
theorem law_true (ns : List Int) (h : ns.length ≤ 63) : ∃ fr back, TW.callK G 40 "law" [⟨.fz, .list (ns.map PySem.PyData.int)⟩] = .ok (.bool true) fr back := by
  rw [callI_eq]
  show ∃ fr back, callI 40 11 _ = _
  have e := s_11 (N := 40) (by decide) ns
  rw [law_ok h] at e
  exact ⟨false, [], e⟩
end L_k14

open PySem PySem.W PySem.Calls PyProof.Rows
theorem PySem.Challenge.cw_twicedial_k14_rows_in_least_form_holds : PySem.Challenge.rw_twicedial_k14_rows_in_least_form.Holds := by
  w_on; o_law
  refine HandSHeadRun.head_any (r := OpenLaw.row PySem.Challenge.rw_twicedial_k14_rows_in_least_form) (q := view (OpenLaw.row PySem.Challenge.rw_twicedial_k14_rows_in_least_form).prog [13]) (H := L_k14.hk) (ob := L_k14.ob) (M := 4000) (loose := L_k14.loose) (d := HandSHeadRun.topDef (OpenLaw.row PySem.Challenge.rw_twicedial_k14_rows_in_least_form).prog 13) (kwd := []) L_k14.ob_eq
    (by kernel_rfl) (fun s => by kernel_rfl) L_k14.run (by kernel_rfl) (by kernel_rfl) (by kernel_rfl) (by rfl) (by first | assumption | decide +kernel) (by decide +kernel) ⟨rfl, rfl, rfl, rfl, rfl, by decide +kernel⟩ ?hw ?hc
  case hw => w_witness2
  case hc =>
    refine L2.walk_ofE (l := PySem.Challenge.rw_twicedial_k14_rows_in_least_form) (n := 63) (k := 40) (x := "script") (CX := L2.CX0) rfl (by decide) (by kernel_rfl) ⟨rfl, by decide, by decide⟩ ?F (fun _ _ _ _ z => z)
    intro w mg fa h Y N hmg0
    obtain ⟨K, KX, c⟩ := Y
    have hmg : mg ("law" : PySem.Str) = some (.ref fa) := by
      have e : (HandSHeadRun.topDef (OpenLaw.row PySem.Challenge.rw_twicedial_k14_rows_in_least_form).prog 13).name = ("law" : PySem.Str) := by kernel_rfl
      rw [← e]
      exact hmg0
    obtain ⟨fd, hb, hF⟩ := TW.law_facts (P := (PySem.Challenge.rw_twicedial_k14_rows_in_least_form).prog) (w := w) (k := 40) (x := "script") (dl := L_k14.d_11) KX N c L_k14.allOk (by rfl) rfl hmg
    exact ⟨K, fd, _, KX, hb, fun H a ns hl _ hS => TW.law_sp (L_k14.law_true ns hl) hS, fun base _ _ => hF base⟩
