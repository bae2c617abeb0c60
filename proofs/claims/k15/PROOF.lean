import PyProof.Rows.All
import Wide.All
import OpenK.AllK
import Wide.FinOn
import HandS.ForMost
import HandS.ForExc
import HandS.Strs
import HandS.TupAny
import HandS.TupMul
import HandS.Text
import KE.DataEq
import HandS.Wide
import HandS.TupLe
import HandS.SetFor
import HandS.SortInts
import HandS.RaiseMore
import HandS.IsInst
import HandS.Flow
import HandS.Small
import HandS.NoneIn
import HandS.Defaults
import HandS.MakeKwOnly
import HandS.Iter
import HandS.Rev
import HandS.Zip
import HandS.Comp
import HandS.Conv
import HandS.Head0
import HandS.Head1
import HandS.Head2
import HandS.HeadEnd
import HandS.HeadHook1
import HandS.HeadHook2
import HandS.TryMany
import KE.KExcIs
import HandS.ExcInit
import HandS.ExcField
import HandS.ExcOwn
import HandS.HeadHook4
import KE.GoesMore
import KE.GoesEnum
import HandS.Style
import HandS.List
import KE.KRevSl
import HandS.Property
import PySem.Challenge.RW_brokenlamps_k15_stories_checked
set_option Elab.async false
set_option linter.all false
set_option maxRecDepth 100000
/-! DI: a small interpreter over plain values (lists and dicts by value, owned by slots). -/
namespace DI
open PySem L2

/-! ### values -/
inductive PV where
  | non | bl (b : Bool) | int (i : Int) | str (x : Str)
  | tup (vs : List PV) | lst (vs : List PV)
  | set (vs : List PV)
  | dct (ks : List Key) (vs : List PV)
  | err (c : Str) (fs : List PV)
  | fls (vs : List PV)      -- a list that nobody changes any more
instance : Inhabited PV := ⟨.non⟩
mutual
/-- nothing in it can be changed -/
def PV.imm : PV → Bool
  | .tup vs => immL vs
  | .lst _ => false
  | .set _ => false
  | .dct _ _ => false
  | .err _ _ => false
  | .fls vs => immL vs
  | _ => true
def immL : List PV → Bool
  | [] => true
  | v :: vs => v.imm && immL vs
end
mutual
/-- equality of None, bools, ints, texts, tuples, lists (True is 1) -/
def PV.eqv : PV → PV → Bool
  | .non, .non => true
  | .bl a, .bl b => a == b
  | .int a, .int b => a == b
  | .bl a, .int b => (if a then (1 : Int) else 0) == b
  | .int a, .bl b => a == (if b then (1 : Int) else 0)
  | .str a, .str b => decide (a = b)
  | .tup a, .tup b => eqvL a b
  | .lst a, .lst b => eqvL a b
  | _, _ => false
def eqvL : List PV → List PV → Bool
  | [], [] => true
  | a :: r, b :: q => a.eqv b && eqvL r q
  | _, _ => false
end
mutual
/-- such a value (the comparison is served) -/
def PV.plain : PV → Bool
  | .tup vs => plainL vs
  | .lst vs => plainL vs
  | .set _ => false
  | .dct _ _ => false
  | .err _ _ => false
  | .fls _ => false
  | _ => true
def plainL : List PV → Bool
  | [] => true
  | v :: vs => v.plain && plainL vs
end
mutual
def PV.depth : PV → Nat
  | .tup vs => depthL vs + 1
  | .lst vs => depthL vs + 1
  | _ => 0
def depthL : List PV → Nat
  | [] => 0
  | v :: vs => max v.depth (depthL vs)
end
def PV.isNon : PV → Bool
  | .non => true
  | _ => false
/-- None, a bool, an int, a text -/
def PV.flat : PV → Bool
  | .non => true
  | .bl _ => true
  | .int _ => true
  | .str _ => true
  | _ => false

/-! ### the text, without places -/
inductive BI where
  | len | abs | int | str | bool | min | max | tuple | list | set | sorted | sum | all | any | dict
  deriving DecidableEq
inductive PM where
  | join | split | splitW | count | index | startswith | replace | isascii | isdigit | partition | lstrip | strip | upper | get
  deriving DecidableEq
inductive MU where
  | append | extend | insert | reverse | sort | remove | clear | update
  deriving DecidableEq
inductive Ty where
  | int | bool | str | tuple | list | none | cls (c : Str)
  deriving DecidableEq
inductive Tg where
  | v (i : Nat) | t (ts : List Tg)
mutual
inductive E where
  | non | bl (b : Bool) | int (i : Int) | str (x : Str)
  | var (i : Nat) | glob (x : Str)
  | tup (es : List E) | lst (es : List E)
  | bin (op : Operator) (a b : E) | neg (a : E)
  | not (a : E)
  | cmp (op : CmpOp) (a b : E) | chain (op op' : CmpOp) (a b c : E)
  | chn3 (o1 o2 o3 : CmpOp) (a b c d : E)
  | rvs (a : E)      -- a[::-1]
  | binv (op : Operator) (i : Nat) (b : E)      -- a name, then b; the name's value is looked at behind b
  | rep (a k : E)      -- a list of its own, times k
  | frz (a : E)      -- a list of its own that nobody changes from here on; a ghost
  | ixv (i : Nat) (b : E)      -- a name's part, at b; the name's value is looked at behind b
  | isN (a : E) | isNN (a : E)
  | and (a b : E) | or (a b : E)
  | ife (c a b : E)
  | ix (a k : E)
  | sl (a lo hi : E)        -- a part left out is .non
  | call (f : Str) (es : List E)
  | callk (f : Str) (perm : List Nat) (es ks : List E)
  | bi (f : BI) (es : List E)
  | pm (m : PM) (o : E) (es : List E)
  | pop (o : E) (es : List E)
  | comp (elt : E) (tg : Tg) (it : It) (cs : List E) (own : List Nat)
  | tupI (it : It) | lstI (it : It)
  | isi (a : E) (ts : List Ty)
  | fld (i : Nat) (f : Str)
  | isE (i : Nat) (ds : List Str)      -- isinstance of the exception at hand
  | dict (es : List E)      -- key, value, key, value, ..
/-- what a loop walks -/
inductive It where
  | seq (e : E) | range (es : List E) | enum (e : E) | zip (a b : E) | rev (e : E)
end
inductive S where
  | pass | brk | cnt
  | wipe (is : List Nat)   -- slots forgotten: no row of the text
  | own (is : List Nat)   -- lent values that nobody can change become the name's own: no row of the text
  | asg (tg : Tg) (e : E)
  | par (ws : List Nat) (es : List E)      -- a, b = x, y: names, each takes its own value
  | setix (o k e : E)
  | aug (i : Nat) (op : Operator) (e : E)
  | augix (o k : E) (op : Operator) (e : E)
  | mu (m : MU) (o : E) (es : List E)
  | ex (e : E)
  | ret (e : E)
  | ife (c : E) (a b : List S)
  | for (tg : Tg) (it : It) (body : List S)
  | whl (c : E) (body : List S)
  | raise (c : Str) (es : List E)
  | try (body : List S) (hs : List (List Str × Option Nat × List S))
structure Def where
  np : Nat
  muts : List Bool
  nl : Nat
  body : List S
structure Prog where
  defs : List (Str × Def)
  globs : List (Str × PV)
  cls : List (Str × List Str × List Str)      -- a class, all that it is under (itself first), its fields

/-! ### slots, results -/
inductive Slot where
  | un | ow (v : PV) | ro (k : Bool) (v : PV) | rf (v : PV)
abbrev PEnv := List Slot
inductive R (α : Type) where
  | ok (a : α) (env : PEnv)
  | exc (c : Str) (fs : List PV) (env : PEnv)
  | bad
def R.bind {α β : Type} (r : R α) (f : α → PEnv → R β) : R β :=
  match r with
  | .ok a env => f a env
  | .exc c fs env => .exc c fs env
  | .bad => .bad
@[simp] theorem R.bind_ok {α β : Type} (a : α) (env : PEnv) (f : α → PEnv → R β) : (R.ok a env).bind f = f a env := rfl
@[simp] theorem R.bind_exc {α β : Type} (c : Str) (fs : List PV) (env : PEnv) (f : α → PEnv → R β) : (R.exc c fs env : R α).bind f = .exc c fs env := rfl
@[simp] theorem R.bind_bad {α β : Type} (f : α → PEnv → R β) : (R.bad : R α).bind f = .bad := rfl
def opt {α : Type} (o : Option α) (env : PEnv) : R α := match o with | some a => .ok a env | none => .bad
@[simp] theorem opt_some {α : Type} (a : α) (env : PEnv) : opt (some a) env = .ok a env := rfl
@[simp] theorem opt_none {α : Type} (env : PEnv) : opt (none : Option α) env = .bad := rfl
/-- a call's end: the value, the changed arguments -/
inductive CR where
  | ok (v : PV) (outs : List PV)
  | exc (c : Str) (fs : List PV) (outs : List PV)
  | bad

/-! ### operations on values -/
def truthI : PV → Option Bool
  | .non => some false
  | .bl b => some b
  | .int i => some (i != 0)
  | .str x => if x.length ≤ sizeLine then some ((x.length : Int) != 0) else none
  | .tup vs => some (!vs.isEmpty)
  | .lst vs => some (!vs.isEmpty)
  | .dct ks _ => some (!ks.isEmpty)
  | _ => none
def p64 : Int := 18446744073709551616
def fits64 (i : Int) : Bool :=
  match i with
  | .ofNat n => Nat.ble n 18446744073709551615
  | .negSucc n => Nat.ble n 18446744073709551614
def binI (op : Operator) (a b : PV) : Option PV :=
  match op, a, b with
  | .Add, .int i, .int j => some (.int (i + j))
  | .Sub, .int i, .int j => some (.int (i - j))
  | .Mult, .int i, .int j => if fits64 i || fits64 j then some (.int (i * j)) else none
  | .FloorDiv, .int i, .int j => if 0 < j ∧ j < 1073741824 then some (.int (i / j)) else none
  | .Mod, .int i, .int j => if 0 < j then some (.int (i % j)) else none
  | .Pow, .int i, .int j => if 0 ≤ j ∧ j ≤ 1000000 ∧ i.natAbs < 18446744073709551616 then some (.int (i ^ j.toNat)) else none
  | .LShift, .int i, .int j => if 0 ≤ j ∧ j ≤ 1000000 ∧ i.natAbs < 18446744073709551616 then some (.int (i * 2 ^ j.toNat)) else none
  | .RShift, .int i, .int j => if 0 ≤ j then some (.int (i / 2 ^ j.toNat)) else none
  | .BitAnd, .int i, .int j => some (.int (Builtin.bitAnd i j))
  | .BitOr, .int i, .int j => some (.int (Builtin.bitOr i j))
  | .Add, .str x, .str y => if x.length + y.length ≤ sizeLine then some (.str (x ++ y)) else none
  | .Add, .tup x, .tup y => if x.length + y.length ≤ sizeLine ∧ immL x = true ∧ immL y = true then some (.tup (x ++ y)) else none
  | .Add, .lst x, .lst y => if x.length + y.length ≤ sizeLine ∧ immL x = true ∧ immL y = true then some (.lst (x ++ y)) else none
  | .Mult, .tup x, .int k => if immL x = true ∧ x.isEmpty = false ∧ 2 ≤ k ∧ k ≤ 1000 ∧ x.length ≤ 1000 then some (.tup (List.replicate k.toNat x).flatten) else none
  | .Add, .fls x, .lst y => if x.length + y.length ≤ sizeLine ∧ immL x = true ∧ immL y = true then some (.lst (x ++ y)) else none
  | _, _, _ => none
def leI (n : Nat) : Option Unit := if n ≤ sizeLine then some () else none
def memV (x : PV) (ys : List PV) : Bool := ys.any fun y => y.eqv x
/-- may be compared -/
def cmpOk (x y : PV) : Bool := x.plain && y.plain && decide (min x.depth y.depth ≤ 100)
def inOk (x : PV) (ys : List PV) : Bool := x.plain && plainL ys && decide (min (depthL ys) x.depth ≤ 100)
def memK (k : Key) : List Key → Bool
  | [] => false
  | q :: ks => decide (k = q) || memK k ks
/-- the one sign of a text -/
def oneC (x : Str) : Option Nat := match x.cps.toList with
  | [c] => some c
  | _ => none
/-- (i, j) <= (k, l) -/
def leP (i j k l : Int) : Bool := if i = k then (if j = l then true else decide (j ≤ l)) else decide (i ≤ k)
def cmpI (op : CmpOp) (a b : PV) : Option PV :=
  match op, a, b with
  | .Lt, .int i, .int j => some (.bl (decide (i < j)))
  | .LtE, .int i, .int j => some (.bl (decide (i ≤ j)))
  | .LtE, .tup [.int i, .int j], .tup [.int k, .int l] => some (.bl (leP i j k l))
  | .Gt, .int i, .int j => some (.bl (decide (j < i)))
  | .GtE, .int i, .int j => some (.bl (decide (j ≤ i)))
  | .Eq, x, y => if cmpOk x y then some (.bl (x.eqv y)) else none
  | .NotEq, x, y => if cmpOk x y then some (.bl (!(x.eqv y))) else none
  | .In, x, .tup ys => if inOk x ys then some (.bl (memV x ys)) else none
  | .In, x, .lst ys => if inOk x ys then some (.bl (memV x ys)) else none
  | .NotIn, x, .tup ys => if inOk x ys then some (.bl (!(memV x ys))) else none
  | .NotIn, x, .lst ys => if inOk x ys then some (.bl (!(memV x ys))) else none
  | .In, x, .fls ys => if inOk x ys then some (.bl (memV x ys)) else none
  | .NotIn, x, .fls ys => if inOk x ys then some (.bl (!(memV x ys))) else none
  | .In, .int i, .dct ks _ => some (.bl (memK (.inl i) ks))
  | .In, .str x, .dct ks _ => some (.bl (memK (.inr x) ks))
  | .NotIn, .int i, .dct ks _ => some (.bl (!(memK (.inl i) ks)))
  | .NotIn, .str x, .dct ks _ => some (.bl (!(memK (.inr x) ks)))
  | .In, .str x, .str z => (oneC x).map fun c => .bl (decide (c ∈ z.cps.toList))
  | .NotIn, .str x, .str z => (oneC x).map fun c => .bl (!(decide (c ∈ z.cps.toList)))
  | _, _, _ => none
/-- the value of a key -/
def lookK (k : Key) : List Key → List PV → Option PV
  | q :: ks, v :: vs => if k = q then some v else lookK k ks vs
  | _, _ => none
def ixI (a k : PV) : Option PV :=
  match a, k with
  | .tup vs, .int i => atI vs i
  | .lst vs, .int i => atI vs i
  | .str z, .int i => if z.length ≤ sizeLine then (atI z.cps.toList i).map fun c => .str ⟨#[c]⟩ else none
  | .dct ks vs, .int i => lookK (.inl i) ks vs
  | .dct ks vs, .str x => lookK (.inr x) ks vs
  | .fls vs, .int i => atI vs i
  | _, _ => none
def cutP (xs : List PV) (lo hi : Option Int) : List PV := (xs.drop (HT.sIx xs.length 0 lo)).take (HT.sIx xs.length xs.length hi - HT.sIx xs.length 0 lo)
/-- a part that is of one kind for ever -/
def ixV (a k : PV) : Option PV := (ixI a k).bind fun w => if w.imm then some w else none
/-- a part of a slice as it is written -/
def intO : PV → Option (Option Int)
  | .int i => some (some i)
  | _ => none
def partE (e : E) (v : PV) : Option (Option Int) :=
  match e with
  | .non => some none
  | _ => intO v
def slI (a : PV) (l h : Option Int) : Option PV :=
  match a with
  | .tup vs => if immL vs then some (.tup (cutP vs l h)) else none
  | .lst vs => if immL vs then some (.lst (cutP vs l h)) else none
  | .str z => if z.length ≤ sizeLine then some (.str (cutS z l h)) else none
  | _ => none
/-- lo, lo + 1, .. (n of them) -/
def rangeL (lo : Int) : Nat → List PV
  | 0 => []
  | n + 1 => .int lo :: rangeL (lo + 1) n
def rangeC (lo c : Int) : Nat → List PV
  | 0 => []
  | n + 1 => .int lo :: rangeC (lo + c) c n
def p62 : Int := 4611686018427387904
def fits62 (i : Int) : Bool :=
  match i with
  | .ofNat n => Nat.ble n 4611686018427387903
  | .negSucc n => Nat.ble n 4611686018427387903
def rangeI : List PV → Option (List PV)
  | [.int n] => if fits62 n then some (rangeL 0 n.toNat) else none
  | [.int a, .int b] => if fits62 a && fits62 b then some (rangeL a (b - a).toNat) else none
  | [.int a, .int b, .int c] => if c ≠ 0 ∧ c.natAbs < 1073741824 ∧ Builtin.Range.small a b c = true ∧ Builtin.Range.rangeSize a b c = ((Builtin.Range.rangeSize a b c).toNat : Nat) then some (rangeC a c (Builtin.Range.rangeSize a b c).toNat) else none
  | _ => none
def enumL (i : Int) : List PV → List PV
  | [] => []
  | v :: vs => .tup [.int i, v] :: enumL (i + 1) vs
def zipL : List PV → List PV → List PV
  | a :: as, b :: bs => .tup [a, b] :: zipL as bs
  | _, _ => []
def zipI : PV → PV → Option (List PV)
  | .tup vs, .tup us => some (zipL vs us)
  | .lst vs, .lst us => some (zipL vs us)
  | _, _ => none
def repI : PV → PV → Option PV
  | .lst x, .int k => if immL x = true ∧ 0 ≤ k ∧ k ≤ 1000 ∧ x.length ≤ 1000 then some (.lst (List.replicate k.toNat x).flatten) else none
  | _, _ => none
/-- what is walked in a value -/
def itemsI : PV → Option (List PV)
  | .tup vs => some vs
  | .lst vs => some vs
  | .str z => some (z.cps.toList.map fun c => .str ⟨#[c]⟩)
  | _ => none
def intsI : List PV → Option (List Int)
  | [] => some []
  | .int i :: r => (intsI r).map (i :: ·)
  | _ => none
def blsI : List PV → Option (List Bool)
  | [] => some []
  | .bl b :: r => (blsI r).map (b :: ·)
  | _ => none
def insI (i : Int) : List Int → List Int
  | [] => [i]
  | j :: r => if i ≤ j then i :: j :: r else j :: insI i r
def sortI : List Int → List Int
  | [] => []
  | i :: r => insI i (sortI r)
def dedI : List Int → List Int
  | [] => []
  | i :: r => if i ∈ r then dedI r else i :: dedI r
def seqI : PV → Option (List PV)
  | .tup vs => some vs
  | .lst vs => some vs
  | _ => none
/-- the greatest, the least -/
def mxI : List Int → Int
  | [] => 0
  | [a] => a
  | a :: l => if mxI l < a then a else mxI l
def mnI : List Int → Int
  | [] => 0
  | [a] => a
  | a :: l => if a < mnI l then a else mnI l
def mxO (ns : List Int) : Option PV := if ns.isEmpty then none else some (.int (mxI ns))
def mnO (ns : List Int) : Option PV := if ns.isEmpty then none else some (.int (mnI ns))
def biI (f : BI) (vs : List PV) : Option PV :=
  match f, vs with
  | .len, [.tup xs] => some (.int xs.length)
  | .len, [.lst xs] => some (.int xs.length)
  | .len, [.fls xs] => some (.int xs.length)
  | .len, [.dct ks _] => some (.int ks.length)
  | .len, [.str z] => if z.length ≤ sizeLine then some (.int z.length) else none
  | .abs, [.int i] => some (.int (if i < 0 then -i else i))
  | .int, [.int i] => some (.int i)
  | .int, [.bl k] => some (.int (if k then 1 else 0))
  | .bool, [.int i] => some (.bl (i != 0))
  | .bool, [.bl k] => some (.bl k)
  | .str, [.int i] => if i.natAbs.log2 < 1920 then some (.str (toString i)) else none
  | .str, [.str x] => some (.str x)
  | .min, [.int i, .int j] => some (.int (if j < i then j else i))
  | .max, [.int i, .int j] => some (.int (if j > i then j else i))
  | .tuple, [.tup xs] => if immL xs then some (.tup xs) else none
  | .tuple, [.lst xs] => if immL xs then some (.tup xs) else none
  | .list, [.tup xs] => if immL xs then some (.lst xs) else none
  | .list, [.lst xs] => if immL xs then some (.lst xs) else none
  | .sum, [.lst xs] => (intsI xs).map fun ns => .int ns.sum
  | .all, [.lst xs] => (blsI xs).map fun bs => .bl (bs.all id)
  | .any, [.lst xs] => (blsI xs).map fun bs => .bl (bs.any id)
  | .set, [.lst xs] => (intsI xs).bind fun ns => if ns.length ≤ 4000 then some (.set ((dedI ns).map .int)) else none
  | .sorted, [.lst xs] => (intsI xs).map fun ns => .lst ((sortI ns).map .int)
  | .sorted, [.set xs] => (intsI xs).bind fun ns => if ns.length < 64 then some (.lst ((sortI ns).map .int)) else none
  | .max, [.tup xs] => (intsI xs).bind mxO
  | .max, [.lst xs] => (intsI xs).bind mxO
  | .min, [.tup xs] => (intsI xs).bind mnO
  | .min, [.lst xs] => (intsI xs).bind mnO
  | _, _ => none
def tyOf : PV → Ty → Option Bool
  | .err _ _, .cls _ => none
  | _, .cls _ => none
  | .non, t => some (decide (t = .none))
  | .bl _, t => some (decide (t = .bool) || decide (t = .int))
  | .int _, t => some (decide (t = .int))
  | .str _, t => some (decide (t = .str))
  | .tup _, t => some (decide (t = .tuple))
  | .lst _, t => some (decide (t = .list))
  | .fls _, t => some (decide (t = .list))
  | _, _ => none
def isiI (p : Prog) (v : PV) : List Ty → Option Bool
  | [] => some false
  | t :: ts =>
    match v, t with
    | .err c _, .cls d => match p.cls.lookup c with
      | some (up, _) => if d ∈ up then some true else isiI p v ts
      | none => none
    | _, _ => match tyOf v t with
      | some true => some true
      | some false => isiI p v ts
      | none => none

/-! ### marks of the text -/
mutual
/-- nothing is changed by it -/
def E.quiet : E → Bool
  | .tup es => quietL es
  | .lst es => quietL es
  | .bin _ a b => a.quiet && b.quiet
  | .neg a => a.quiet
  | .not a => a.quiet
  | .cmp _ a b => a.quiet && b.quiet
  | .chain _ _ a b c => a.quiet && b.quiet && c.quiet
  | .chn3 _ _ _ a b c d => a.quiet && b.quiet && c.quiet && d.quiet
  | .rvs a => a.quiet
  | .binv _ _ b => b.quiet
  | .ixv _ b => b.quiet
  | .isN a => a.quiet
  | .isNN a => a.quiet
  | .and a b => a.quiet && b.quiet
  | .or a b => a.quiet && b.quiet
  | .ife c a b => c.quiet && a.quiet && b.quiet
  | .ix a k => a.quiet && k.quiet
  | .sl a l h => a.quiet && l.quiet && h.quiet
  | .call _ _ => false
  | .callk _ _ _ _ => false
  | .bi _ es => quietL es
  | .pm _ o es => o.quiet && quietL es
  | .pop _ _ => false
  | .comp _ _ _ _ _ => false
  | .frz _ => false
  | .rep _ _ => false
  | .tupI it => it.quiet
  | .lstI it => it.quiet
  | .isi a _ => a.quiet
  | .dict es => quietL es
  | _ => true
def It.quiet : It → Bool
  | .seq e => e.quiet
  | .range es => quietL es
  | .enum e => e.quiet
  | .zip a b => a.quiet && b.quiet
  | .rev e => e.quiet
def quietL : List E → Bool
  | [] => true
  | e :: es => e.quiet && quietL es
end
/-- whose part it is -/
def E.root : E → Option Nat
  | .var i => some i
  | .ix a _ => a.root
  | _ => none

/-! ### slots -/
def Slot.val : Slot → Option PV
  | .un => none
  | .ow v => some v
  | .ro _ v => some v
  | .rf v => some v
def getS (env : PEnv) (i : Nat) : Option PV := (env[i]?).bind Slot.val
/-- a new value at a slot that may be changed -/
def putS (env : PEnv) (i : Nat) (v : PV) : PEnv :=
  match env[i]? with
  | some (.ow _) => env.set i (.ow v)
  | some (.rf _) => env.set i (.rf v)
  | _ => env
/-- a slot's value that may be changed -/
def getM (env : PEnv) (i : Nat) : Option PV :=
  match env[i]? with
  | some (.ow v) => some v
  | some (.rf v) => some v
  | _ => none
/-- as its own: a name's value is taken away from the name -/
def ownE (e : E) (r : PV × Bool) (env : PEnv) : R PV :=
  if r.2 then .ok r.1 env else
    match e with
    | .var i => match env[i]? with
      | some (.ow v) => .ok v (env.set i .un)
      | _ => .bad
    | _ => .bad
/-- nobody puts another thing into such a slot -/
def Slot.fix : Slot → Bool
  | .rf _ => true
  | .ro true _ => true
  | _ => false
mutual
/-- a target takes a value; own: it may be kept -/
def bindT (own : Bool) : Tg → PV → PEnv → Option PEnv
  | .v i, v, env => if own || v.imm then
      match env[i]? with
      | some s => if s.fix then none else some (env.set i (.ow v))
      | none => none
    else none
  | .t ts, v, env => match seqI v with
    | some vs => bindTs own ts vs env
    | none => none
def bindTs (own : Bool) : List Tg → List PV → PEnv → Option PEnv
  | [], [], env => some env
  | t :: ts, v :: vs, env => match bindT own t v env with
    | some env' => bindTs own ts vs env'
    | none => none
  | _, _, _ => none
end
def PV.isBox : PV → Bool
  | .lst _ => true
  | .dct _ _ => true
  | _ => false
/-- paths -/
def getP : PV → List PV → Option PV
  | v, [] => some v
  | v, k :: ks => if v.isBox then match ixI v k with
      | some w => getP w ks
      | none => none
    else none
/-- the value of each k is x now -/
def replK (k : Key) (x : PV) : List Key → List PV → List PV
  | q :: ks, v :: vs => if k = q then x :: vs else v :: replK k x ks vs
  | _, vs => vs
def setK (k : Key) (x : PV) (ks : List Key) (vs : List PV) : List Key × List PV :=
  if memK k ks then (ks, replK k x ks vs) else (ks ++ [k], vs ++ [x])
def keyI : PV → Option Key
  | .int i => some (.inl i)
  | .str x => some (.inr x)
  | _ => none
/-- o[k] = x -/
def setI (o k x : PV) : Option PV :=
  match o with
  | .lst vs => match k with
    | .int i => (ixN vs.length i).map fun j => .lst (vs.set j x)
    | _ => none
  | .dct ks vs => (keyI k).bind fun q => if ks.length < sizeLine then some (let r := setK q x ks vs; .dct r.1 r.2) else none
  | _ => none
def setP : PV → List PV → PV → Option PV
  | _, [], x => some x
  | v, k :: ks, x => match ixI v k with
    | some w => match setP w ks x with
      | some w' => setI v k w'
      | none => none
    | none => none
/-- a further step of a path can be gone -/
def pathOk (env : PEnv) (i : Nat) (ks : List PV) (k : PV) : Bool :=
  match getM env i with
  | some v => match getP v ks with
    | some w => w.isBox && (ixI w k).isSome
    | none => false
  | none => false
/-- the thing at a path is changed by f -/
def mutP {α : Type} (env : PEnv) (i : Nat) (ks : List PV) (f : PV → Option (PV × α)) : R α :=
  match getM env i with
  | some v => match getP v ks with
    | some w => match f w with
      | some (w', r) => match setP v ks w' with
        | some v' => .ok r (putS env i v')
        | none => .bad
      | none => .bad
    | none => .bad
  | none => .bad
def popI (vs : List PV) (w : PV) : Option (PV × PV) :=
  match w, vs with
  | .lst xs, [] => match xs.getLast? with
    | some x => some (.lst xs.dropLast, x)
    | none => none
  | .lst xs, [.int k] => if xs.length ≤ sizeLine then match ixN xs.length k with
    | some j => match xs[j]? with
      | some x => some (.lst (xs.eraseIdx j), x)
      | none => none
    | none => none
    else none
  | _, _ => none
def muI (m : MU) (vs : List PV) (w : PV) : Option (PV × Unit) :=
  match m, w, vs with
  | .append, .lst xs, [x] => if xs.length < sizeLine then some (.lst (xs ++ [x]), ()) else none
  | .extend, .lst xs, [y] => match seqI y with
    | some ys => if xs.length + ys.length ≤ sizeLine ∧ immL ys = true then some (.lst (xs ++ ys), ()) else none
    | none => none
  | .insert, .lst xs, [.int 0, x] => if xs.length < sizeLine then some (.lst (x :: xs), ()) else none
  | .reverse, .lst xs, [] => some (.lst xs.reverse, ())
  | _, _, _ => none
/-- a list is at the path's end -/
def lstAt (env : PEnv) (i : Nat) (ks : List PV) : Bool :=
  match getM env i with
  | some v => match getP v ks with
    | some (.lst _) => true
    | _ => false
  | none => false
/-- a op= b -/
def augI (op : Operator) (a b : PV) : Option PV :=
  match a, b with
  | .int _, .int _ => match op with
    | .Add => binI op a b
    | .Sub => binI op a b
    | .Mult => binI op a b
    | .FloorDiv => binI op a b
    | .Mod => binI op a b
    | _ => none
  | _, _ => none
/-- locked: not to be changed while it is walked -/
def lockS (env : PEnv) : List Nat → PEnv
  | [] => env
  | i :: is => match env[i]? with
    | some (.ow v) => lockS (env.set i (.ro true v)) is
    | some (.rf v) => lockS (env.set i (.ro true v)) is
    | _ => lockS env is
/-- as it was in env0 ahead of the lock -/
def unlockS (env0 env : PEnv) : List Nat → Option PEnv
  | [] => some env
  | i :: is => match env0[i]?, env[i]? with
    | some (.ow v), some (.ro true _) => unlockS env0 (env.set i (.ow v)) is
    | some (.rf v), some (.ro true _) => unlockS env0 (env.set i (.rf v)) is
    | some (.ow _), _ => none
    | some (.rf _), _ => none
    | _, _ => unlockS env0 env is
/-- what is locked for the walk of e -/
def locksOf (e : E) (r : PV × Bool) : Option (List Nat) :=
  if r.1.imm || r.2 then some [] else e.root.map fun i => [i]

/-! ### the interpreter -/
inductive AV where
  | v (v : PV) (fr : Bool) (root : Option Nat) | by (i : Nat)
def AV.val (env : PEnv) : AV → Option PV
  | AV.v w _ _ => some w
  | .by i => getM env i
def valsA (env : PEnv) : List AV → Option (List PV)
  | [] => some []
  | a :: as => match a.val env, valsA env as with
    | some v, some vs => some (v :: vs)
    | _, _ => none
def bysA : List AV → List Nat
  | [] => []
  | .by i :: as => i :: bysA as
  | .v _ _ _ :: as => bysA as
/-- borrowed arguments are no part of what may be changed -/
def apart (bys : List Nat) : List AV → Bool
  | [] => true
  | AV.v w fr root :: as => (w.imm || fr || (match root with | some i => !(bys.contains i) | none => true)) && apart bys as
  | .by _ :: as => apart bys as
def outsA (env : PEnv) : List Bool → List AV → List PV → Option PEnv
  | true :: ms, .by i :: as, o :: os => outsA (putS env i o) ms as os
  | true :: ms, .v _ _ _ :: as, _ :: os => outsA env ms as os
  | false :: ms, .v _ _ _ :: as, os => outsA env ms as os
  | [], [], [] => some env
  | _, _, _ => none
def isBy (m : Bool) (e : E) (env : PEnv) : Option Nat :=
  if m then
    match e with
    | .var i => match getM env i with
      | some v => if v.imm then none else some i
      | none => none
    | _ => none
  else none
def callR (d : Def) (cf : List PV → CR) (as : List AV) (env : PEnv) : R (PV × Bool) :=
  match valsA env as with
  | some vs => if (bysA as).Nodup ∧ apart (bysA as) as = true then
      match cf vs with
      | .ok v outs => match outsA env d.muts as outs with
        | some env' => .ok (v, true) env'
        | none => .bad
      | .exc c fs outs => match outsA env d.muts as outs with
        | some env' => .exc c fs env'
        | none => .bad
      | .bad => .bad
    else .bad
  | none => .bad
def wipeS (env : PEnv) : List Nat → PEnv
  | [] => env
  | i :: is => (wipeS env is).set i .un
def ownO (env : PEnv) : List Nat → PEnv
  | [] => env
  | i :: is => match env[i]? with
    | some (.ro false v) => if v.imm then ownO (env.set i (.ow v)) is else ownO env is
    | _ => ownO env is
/-- forgotten, where it is its own -/
def wipeO (env : PEnv) : List Nat → PEnv
  | [] => env
  | i :: is => match env[i]? with
    | some (.ow _) => wipeO (env.set i .un) is
    | some (.ro false _) => wipeO (env.set i .un) is
    | _ => wipeO env is
/-- slots that a comprehension takes for its own: nothing in them that may be changed -/
def plainS (env : PEnv) : List Nat → Bool
  | [] => true
  | i :: is => (match env[i]? with
    | some .un => true
    | some (.ow v) => v.imm
    | some (.ro false v) => v.imm
    | _ => false) && plainS env is
/-- they are as they were -/
def backS (env0 env : PEnv) : List Nat → PEnv
  | [] => env
  | i :: is => match env0[i]? with
    | some s => (backS env0 env is).set i s
    | none => backS env0 env is
def compLoop (tg : Tg) (own : List Nat) (c : PEnv → R Bool) (elt : PEnv → R PV) : List PV → List PV → PEnv → R (List PV)
  | [], acc, env => .ok acc env
  | v :: vs, acc, env => match bindT false tg v (wipeS env own) with
    | none => .bad
    | some env1 => match c env1 with
      | .ok true env2 => match elt env2 with
        | .ok w env3 => if acc.length < sizeLine then compLoop tg own c elt vs (acc ++ [w]) env3 else .bad
        | _ => .bad
      | .ok false env2 => compLoop tg own c elt vs acc env2
      | _ => .bad
def compEnd (env0 envL : PEnv) (locks own : List Nat) (r : R (List PV)) : R (PV × Bool) :=
  match r with
  | .ok acc env => match unlockS env0 (backS envL env own) locks with
    | some env' => .ok (.lst acc, true) env'
    | none => .bad
  | _ => .bad
def two (ra : R (PV × Bool)) (qb : Bool) (rb : PEnv → R (PV × Bool)) (f : PV → PV → Option PV) : R (PV × Bool) :=
  ra.bind fun a env1 => if a.1.imm || a.2 || qb then (rb env1).bind fun b env2 => opt ((f a.1 b.1).map fun v => (v, true)) env2 else .bad
def dictOf : List PV → List Key → List PV → Option PV
  | [], ks, vs => some (.dct ks vs)
  | k :: v :: r, ks, vs => match keyI k with
    | some q => let s := setK q v ks vs; dictOf r s.1 s.2
    | none => none
  | _, _, _ => none
def isUnder (p : Prog) (c : Str) (ds : List Str) : Bool := match p.cls.lookup c with
  | some (up, _) => ds.any fun d => decide (d ∈ up)
  | none => false
section
variable (p : Prog) (cf : Str → List PV → CR)
mutual
/-- a value, and whether it is its own (else it is a part of a slot's) -/
def evB : E → PEnv → R (PV × Bool)
  | .non, env => .ok (.non, true) env
  | .bl b, env => .ok (.bl b, true) env
  | .int i, env => .ok (.int i, true) env
  | .str x, env => .ok (.str x, true) env
  | .var i, env => match getS env i with
    | some v => .ok (v, v.imm) env
    | none => .bad
  | .glob x, env => match p.globs.lookup x with
    | some v => .ok (v, true) env
    | none => .bad
  | .tup es, env => (evO es env).bind fun vs env => if vs.length ≤ sizeLine then .ok (.tup vs, true) env else .bad
  | .lst es, env => (evO es env).bind fun vs env => if vs.length ≤ sizeLine then .ok (.lst vs, true) env else .bad
  | .bin op a b, env => two (evB a env) b.quiet (evB b) (binI op)
  | .neg a, env => (evB a env).bind fun v env => match v.1 with
    | .int i => .ok (.int (-i), true) env
    | _ => .bad
  | .not a, env => (evB a env).bind fun v env => opt ((truthI v.1).map fun b => (.bl (!b), true)) env
  | .cmp op a b, env => two (evB a env) b.quiet (evB b) (cmpI op)
  | .chain op op' a b c, env => (evB a env).bind fun va env => if va.1.imm then (evB b env).bind fun vb env =>
      if vb.1.imm then match cmpI op va.1 vb.1 with
        | some (.bl true) => (evB c env).bind fun vc env => opt ((cmpI op' vb.1 vc.1).map fun v => (v, true)) env
        | some (.bl false) => .ok (.bl false, true) env
        | _ => .bad
      else .bad
    else .bad
  | .chn3 o1 o2 o3 a b c d, env => (evB a env).bind fun va env => if va.1.imm then (evB b env).bind fun vb env =>
      if vb.1.imm then match cmpI o1 va.1 vb.1 with
        | some (.bl true) => (evB c env).bind fun vc env => if vc.1.imm then match cmpI o2 vb.1 vc.1 with
          | some (.bl true) => (evB d env).bind fun vd env => opt ((cmpI o3 vc.1 vd.1).map fun v => (v, true)) env
          | some (.bl false) => .ok (.bl false, true) env
          | _ => .bad
          else .bad
        | some (.bl false) => .ok (.bl false, true) env
        | _ => .bad
      else .bad
    else .bad
  | .binv op i b, env => match getS env i with
    | some _ => (evB b env).bind fun y env2 => match getS env2 i with
      | some v => opt ((binI op v y.1).map fun v => (v, true)) env2
      | none => .bad
    | none => .bad
  | .rep a k, env => (evB a env).bind fun ra env => if ra.2 && k.quiet then (evB k env).bind fun rk env => opt ((repI ra.1 rk.1).map fun v => (v, true)) env else .bad
  | .frz a, env => (evB a env).bind fun r env => match r.1 with
    | .lst vs => if r.2 && immL vs then .ok (.fls vs, true) env else .bad
    | _ => .bad
  | .ixv i b, env => match getS env i with
    | some _ => (evB b env).bind fun y env2 => match getS env2 i with
      | some v => opt ((ixV v y.1).map fun v => (v, true)) env2
      | none => .bad
    | none => .bad
  | .rvs a, env => (evB a env).bind fun r env => match r.1 with
    | .tup vs => if immL vs && decide (vs.length ≤ sizeLine) then .ok (.tup vs.reverse, true) env else .bad
    | .lst vs => if immL vs && decide (vs.length ≤ sizeLine) then .ok (.lst vs.reverse, true) env else .bad
    | _ => .bad
  | .isN a, env => (evB a env).bind fun v env => .ok (.bl v.1.isNon, true) env
  | .isNN a, env => (evB a env).bind fun v env => .ok (.bl (!v.1.isNon), true) env
  | .and a b, env => (evB a env).bind fun v env => match truthI v.1 with
    | some true => (evB b env).bind fun w env => if w.1.imm || w.2 then .ok (w.1, true) env else .bad
    | some false => if v.1.imm then .ok (v.1, true) env else .bad
    | none => .bad
  | .or a b, env => (evB a env).bind fun v env => match truthI v.1 with
    | some true => if v.1.imm then .ok (v.1, true) env else .bad
    | some false => (evB b env).bind fun w env => if w.1.imm || w.2 then .ok (w.1, true) env else .bad
    | none => .bad
  | .ife c a b, env => (evB c env).bind fun v env => match truthI v.1 with
    | some true => (evB a env).bind fun w env => (ownE a w env).bind fun w env => .ok (w, true) env
    | some false => (evB b env).bind fun w env => (ownE b w env).bind fun w env => .ok (w, true) env
    | none => .bad
  | .ix a k, env => (evB a env).bind fun va env => if va.1.imm || va.2 || k.quiet then (evB k env).bind fun vk env => match ixI va.1 vk.1 with
      | some v => .ok (v, v.imm) env
      | none => .bad
    else .bad
  | .sl a l h, env => (evB a env).bind fun va env => if va.1.imm || (l.quiet && h.quiet) then (evB l env).bind fun vl env => match partE l vl.1 with
      | some lo => (evB h env).bind fun vh env => match partE h vh.1 with
        | some hi => opt ((slI va.1 lo hi).map fun v => (v, true)) env
        | none => .bad
      | none => .bad
    else .bad
  | .call f es, env => match p.defs.lookup f with
    | some d => (evC d.muts es env).bind fun as env => callR d (cf f) as env
    | none => .bad
  | .callk f perm es ks, env => match p.defs.lookup f with
    | some d => (evA es env).bind fun as env => if as.all (fun v => v.imm) then (evA ks env).bind fun bs env => if bs.all (fun v => v.imm) then
        match perm.mapM (fun j => (as ++ bs)[j]?) with
        | some vs => match cf f vs with
          | .ok v _ => .ok (v, true) env
          | .exc c fs _ => .exc c fs env
          | .bad => .bad
        | none => .bad
      else .bad else .bad
    | none => .bad
  | .bi f es, env => (evA es env).bind fun vs env => opt ((biI f vs).map fun v => (v, true)) env
  | .pm _ _ _, _ => .bad
  | .pop o es, env => (pathR o env).bind fun a env => if lstAt env a.1 a.2 && (a.2.isEmpty || quietL es) then (evA es env).bind fun vs env =>
      (mutP env a.1 a.2 (popI vs)).bind fun v env => .ok (v, true) env
    else .bad
  | .comp elt tg it cs own, env => (itI it env).bind fun a env1 =>
      let envL := lockS env1 a.2
      if plainS envL own then
        compEnd env1 envL a.2 own (compLoop tg own (evCs cs) (fun env => (evB elt env).bind fun w env => ownE elt w env) a.1 [] envL)
      else .bad
  | .tupI it, env => (itI it env).bind fun a env => if a.2.isEmpty && immL a.1 && decide (a.1.length ≤ 16777216) then .ok (.tup a.1, true) env else .bad
  | .lstI it, env => (itI it env).bind fun a env => if a.2.isEmpty && immL a.1 && decide (a.1.length ≤ 16777216) then .ok (.lst a.1, true) env else .bad
  | .isi a ts, env => (evB a env).bind fun v env => opt ((isiI p v.1 ts).map fun b => (.bl b, true)) env
  | .fld i f, env => match env[i]? with
    | some (.ro true (.err c fs)) => match p.cls.lookup c with
      | some (_, fl) => match (fl.zip fs).lookup f with
        | some v => if v.imm then .ok (v, true) env else .bad
        | none => .bad
      | none => .bad
    | _ => .bad
  | .isE i ds, env => match env[i]? with
    | some (.ro true (.err c _)) => if (p.cls.lookup c).isSome then .ok (.bl (isUnder p c ds), true) env else .bad
    | _ => .bad
  | .dict es, env => (evO es env).bind fun vs env => opt ((dictOf vs [] []).map fun v => (v, true)) env
/-- a list of values, all their own -/
def evO : List E → PEnv → R (List PV)
  | [], env => .ok [] env
  | e :: es, env => (evB e env).bind fun r env => (ownE e r env).bind fun v env => (evO es env).bind fun vs env => .ok (v :: vs) env
/-- a list of values, each as it stands -/
def evA : List E → PEnv → R (List PV)
  | [], env => .ok [] env
  | e :: es, env => (evB e env).bind fun r env => if r.1.imm || r.2 || quietL es then (evA es env).bind fun vs env => .ok (r.1 :: vs) env else .bad
/-- the arguments of a call -/
def evC : List Bool → List E → PEnv → R (List AV)
  | [], [], env => .ok [] env
  | m :: ms, e :: es, env => match isBy m e env with
    | some i => (evC ms es env).bind fun as env => .ok (.by i :: as) env
    | none => (evB e env).bind fun r env => if (r.1.imm || r.2 || quietL es) && (!m || r.1.imm) then (evC ms es env).bind fun as env => .ok (.v r.1 r.2 e.root :: as) env else .bad
  | _, _, _ => .bad
def evCs : List E → PEnv → R Bool
  | [], env => .ok true env
  | c :: cs, env => (evB c env).bind fun v env => match truthI v.1 with
    | some true => evCs cs env
    | some false => .ok false env
    | none => .bad
/-- what is walked, what is locked meanwhile -/
def itI : It → PEnv → R (List PV × List Nat)
  | .seq e, env => (evB e env).bind fun r env => match itemsI r.1, locksOf e r with
    | some vs, some l => .ok (vs, l) env
    | _, _ => .bad
  | .range es, env => (evA es env).bind fun vs env => opt ((rangeI vs).map fun xs => (xs, [])) env
  | .enum e, env => (evB e env).bind fun r env => match itemsI r.1, locksOf e r with
    | some vs, some l => .ok (enumL 0 vs, l) env
    | _, _ => .bad
  | .zip a b, env => (evB a env).bind fun r env => if r.1.imm || r.2 || b.quiet then (evB b env).bind fun q env => match zipI r.1 q.1, locksOf a r, locksOf b q with
    | some vs, some l, some k => .ok (vs, l ++ k) env
    | _, _, _ => .bad
    else .bad
  | .rev e, env => (evB e env).bind fun r env => match seqI r.1, locksOf e r with
    | some vs, some l => .ok (vs.reverse, l) env
    | _, _ => .bad
def pathR : E → PEnv → R (Nat × List PV)
  | .var i, env => if (getM env i).isSome then .ok (i, []) env else .bad
  | .ix a k, env => if k.quiet then (pathR a env).bind fun x env => (evB k env).bind fun vk env => if vk.1.imm && pathOk env x.1 x.2 vk.1 then .ok (x.1, x.2 ++ [vk.1]) env else .bad else .bad
  | _, _ => .bad
end
/-- a value of its own -/
def evE (e : E) (env : PEnv) : R PV := (evB p cf e env).bind fun r env => ownE e r env
end

/-! ### statements -/
inductive SR where
  | nx (env : PEnv) | brk (env : PEnv) | cnt (env : PEnv)
  | ret (v : PV) (env : PEnv)
  | exc (c : Str) (fs : List PV) (env : PEnv)
  | bad
def R.st {α : Type} (r : R α) (f : α → PEnv → SR) : SR :=
  match r with
  | .ok a env => f a env
  | .exc c fs env => .exc c fs env
  | .bad => .bad
@[simp] theorem R.st_ok {α : Type} (a : α) (env : PEnv) (f : α → PEnv → SR) : (R.ok a env).st f = f a env := rfl
@[simp] theorem R.st_exc {α : Type} (c : Str) (fs : List PV) (env : PEnv) (f : α → PEnv → SR) : (R.exc c fs env : R α).st f = .exc c fs env := rfl
@[simp] theorem R.st_bad {α : Type} (f : α → PEnv → SR) : (R.bad : R α).st f = .bad := rfl
/-- the slots that a loop has locked are free again -/
def SR.unlock (env0 : PEnv) (locks : List Nat) (r : SR) : SR :=
  let g := fun (env : PEnv) (k : PEnv → SR) => match unlockS env0 env locks with
    | some env' => k env'
    | none => .bad
  match r with
  | .nx env => g env .nx
  | .brk env => g env .brk
  | .cnt env => g env .cnt
  | .ret v env => g env (.ret v)
  | .exc c fs env => g env (.exc c fs)
  | .bad => .bad
def forI (setT : PV → PEnv → Option PEnv) (body : PEnv → SR) : List PV → PEnv → SR
  | [], env => .nx env
  | v :: vs, env => match setT v env with
    | none => .bad
    | some env1 => match body env1 with
      | .nx env2 => forI setT body vs env2
      | .cnt env2 => forI setT body vs env2
      | .brk env2 => .nx env2
      | r => r
def whlI (c : PEnv → R (PV × Bool)) (body : PEnv → SR) : Nat → PEnv → SR
  | 0, _ => .bad
  | n + 1, env => (c env).st fun v env1 => match truthI v.1 with
    | some false => .nx env1
    | some true => match body env1 with
      | .nx env2 => whlI c body n env2
      | .cnt env2 => whlI c body n env2
      | .brk env2 => .nx env2
      | r => r
    | none => .bad
section
variable (p : Prog) (cf : Str → List PV → CR) (fu : Nat)
def knows (c : Str) : Bool := (p.cls.lookup c).isSome
mutual
def exS : S → PEnv → SR
  | .pass, env => .nx env
  | .wipe ws, env => .nx (wipeO env ws)
  | .own ws, env => .nx (ownO env ws)
  | .brk, env => .brk env
  | .cnt, env => .cnt env
  | .asg (.v i) e, env => (evE p cf e env).st fun v env => match bindT true (.v i) v env with
    | some env' => .nx env'
    | none => .bad
  | .asg (.t ts) e, env => (evB p cf e env).st fun r env => match bindT false (.t ts) r.1 env with
    | some env' => .nx env'
    | none => .bad
  | .par ws es, env => (evO p cf es env).st fun vs env => match bindTs true (ws.map .v) vs env with
    | some env' => .nx env'
    | none => .bad
  | .setix o k e, env => (evE p cf e env).st fun v env => (pathR p cf o env).st fun a env => if k.quiet && o.quiet then (evB p cf k env).st fun vk env =>
      (mutP env a.1 a.2 (fun w => (setI w vk.1 v).map fun w' => (w', ()))).st fun _ env => .nx env
    else .bad
  | .aug i op e, env => match getS env i with
    | some v => (evB p cf e env).st fun r env => match augI op v r.1 with
        | some w => match bindT true (.v i) w env with
          | some env' => .nx env'
          | none => .bad
        | none => .bad
    | none => .bad
  | .augix o k op e, env => if k.quiet && o.quiet && e.quiet then (pathR p cf o env).st fun a env => (evB p cf k env).st fun vk env => match getM env a.1 with
      | some v => match getP v a.2 with
        | some w => match ixI w vk.1 with
          | some old => if w.isBox then (evB p cf e env).st fun r env => match augI op old r.1 with
              | some new => (mutP env a.1 a.2 (fun w => (setI w vk.1 new).map fun w' => (w', ()))).st fun _ env => .nx env
              | none => .bad
            else .bad
          | none => .bad
        | none => .bad
      | none => .bad
    else .bad
  | .mu .extend o es, env => (pathR p cf o env).st fun a env => if lstAt env a.1 a.2 && (a.2.isEmpty || quietL es) then (evA p cf es env).st fun vs env =>
      (mutP env a.1 a.2 (muI .extend vs)).st fun _ env => .nx env
    else .bad
  | .mu m o es, env => (pathR p cf o env).st fun a env => if lstAt env a.1 a.2 && (a.2.isEmpty || quietL es) then (evO p cf es env).st fun vs env =>
      (mutP env a.1 a.2 (muI m vs)).st fun _ env => .nx env
    else .bad
  | .ex e, env => (evB p cf e env).st fun _ env => .nx env
  | .ret e, env => (evE p cf e env).st fun v env => .ret v env
  | .ife c a b, env => (evB p cf c env).st fun v env => match truthI v.1 with
    | some true => exSs a env
    | some false => exSs b env
    | none => .bad
  | .for tg it body, env => (itI p cf it env).st fun a env => (forI (bindT false tg) (exSs body) a.1 (lockS env a.2)).unlock env a.2
  | .whl c body, env => whlI (evB p cf c) (exSs body) fu env
  | .raise c es, env => (evO p cf es env).st fun vs env => if knows p c && immL vs then .exc c vs env else .bad
  | .try body hs, env => match exSs body env with
    | .exc c fs env => exHs hs c fs env
    | r => r
def exSs : List S → PEnv → SR
  | [], env => .nx env
  | s :: ss, env => match exS s env with
    | .nx env => exSs ss env
    | r => r
def exHs : List (List Str × Option Nat × List S) → Str → List PV → PEnv → SR
  | [], c, fs, env => .exc c fs env
  | (ds, n, suite) :: hs, c, fs, env => if isUnder p c ds then
      match n with
      | none => match exSs suite env with
        | .exc _ _ _ => .bad
        | r => r
      | some i => match env[i]? with
        | some (.rf _) => .bad
        | some (.ro true _) => .bad
        | some _ => match exSs suite (env.set i (.ro true (.err c fs))) with
          | .nx env => .nx (env.set i .un)
          | .brk env => .brk (env.set i .un)
          | .cnt env => .cnt (env.set i .un)
          | .ret v env => .ret v (env.set i .un)
          | _ => .bad
        | none => .bad
    else exHs hs c fs env
end
end
/-! ### calls -/
def initE : List Bool → List PV → PEnv
  | true :: ms, v :: vs => .rf v :: initE ms vs
  | false :: ms, v :: vs => .ro false v :: initE ms vs
  | _, _ => []
def outs : List Bool → PEnv → Option (List PV)
  | true :: ms, .rf v :: env => (outs ms env).map (v :: ·)
  | true :: _, _ => none
  | false :: ms, _ :: env => outs ms env
  | false :: _, [] => none
  | [], _ => some []
def startE (d : Def) (vs : List PV) : PEnv := initE d.muts vs ++ List.replicate (d.nl - d.np) .un
def callEnd (d : Def) (r : SR) : CR :=
  match r with
  | .nx env => match outs d.muts env with
    | some os => .ok .non os
    | none => .bad
  | .ret v env => match outs d.muts env with
    | some os => .ok v os
    | none => .bad
  | .exc c fs env => match outs d.muts env with
    | some os => .exc c fs os
    | none => .bad
  | _ => .bad
def callI (p : Prog) (fu : Nat) : Nat → Str → List PV → CR
  | 0, _, _ => .bad
  | k + 1, f, vs => match p.defs.lookup f with
    | none => .bad
    | some d => if vs.length = d.np ∧ d.muts.length = d.np ∧ d.np ≤ d.nl then callEnd d (exSs p (callI p fu k) fu d.body (startE d vs)) else .bad
end DI
set_option Elab.async false
set_option linter.all false
set_option maxRecDepth 100000
set_option maxHeartbeats 1000000
/-! DIR: how plain values stand in the heap of the hand layer. -/
namespace DI
open PySem PySem.Spec PyProof.Rows L2

/-- the written part, and what is known of the exception at hand -/
structure KX where
  K : PySem.W.Frag
  w : World
  ea : Addr → Str → List PV → Hp → Prop
  /-- what is lent: nobody changes it meanwhile -/
  Z : Addr → Prop
  /-- what stands in a slot for good -/
  R : Nat → Option V
  /-- what stands in a slot that is lent -/
  Q : Nat → PV → V → List Addr → Prop
/-- it may be changed by who has it -/
def HOwn : HO → Bool
  | .lst _ => true
  | .dK _ => true
  | .ext _ => true
  | _ => false
/-- a list of the written part -/
def Kl (K : PySem.W.Frag) (a : Addr) (xs : List V) : Prop := ∃ (o : Obj) (its : Array Value) (n : Nat), K.lookup a = some o ∧ o.cls = .type "list" ∧ o.dict = none ∧ o.data = .seq its n ∧ its.size ≤ sizeLine ∧ Vals xs its.toList
/-- a list at a, its own part of what may be changed ahead of G; m: it is tracked itself -/
def LstR (m : Bool) (K : PySem.W.Frag) (H : Hp) (a : Addr) (xs : List V) (G F : List Addr) : Prop :=
  (H a = some (.lst xs) ∧ F = a :: G) ∨ (m = false ∧ F = a :: G ∧ ∃ o, H a = some (.frz o (.lst xs))) ∨ (m = false ∧ F = G ∧ Kl K a xs)
theorem LstR.sq {m : Bool} {K : PySem.W.Frag} {H : Hp} {a : Addr} {xs : List V} {G F : List Addr} (h : LstR m K H a xs G F) : SqL K H a xs := by
  rcases h with h | ⟨_, _, o, h⟩ | h
  · exact .inl (.inl h.1)
  · exact .inl (.inr ⟨o, h⟩)
  · exact .inr h.2.2
theorem LstR.sub {m : Bool} {K : PySem.W.Frag} {H : Hp} {a : Addr} {xs : List V} {G F : List Addr} (h : LstR m K H a xs G F) : ∀ b ∈ G, b ∈ F := by
  intro b hb
  rcases h with h | h | h
  · rw [h.2]; exact List.mem_cons_of_mem _ hb
  · rw [h.2.1]; exact List.mem_cons_of_mem _ hb
  · rw [h.2.1]; exact hb
theorem LstR.own {K : PySem.W.Frag} {H : Hp} {a : Addr} {xs : List V} {G F : List Addr} (h : LstR true K H a xs G F) : H a = some (.lst xs) ∧ F = a :: G := by
  rcases h with h | h | h
  · exact h
  · cases h.1
  · cases h.1
/-- a set of ints at a -/
def SetQ (w : World) (H : Hp) (a : Addr) (vs : List PV) : Prop := ∃ (ns : List Int) (S : Int → Bool), intsI vs = some ns ∧ ns.Nodup ∧ (∀ k, S k = true ↔ k ∈ ns) ∧ H a = some (SetO w a S ns.length)
mutual
def Rp (m : Bool) (X : KX) (H : Hp) : PV → V → List Addr → Prop
  | .non, v, F => v = .non ∧ F = []
  | .bl b, v, F => v = .bl b ∧ F = []
  | .int i, v, F => v = .int i ∧ F = []
  | .str x, v, F => v = .str x ∧ F = []
  | .tup vs, v, F => ∃ a ws, v = .ref a ∧ SqT X.K H a ws ∧ RpL m X H vs ws F
  | .lst vs, v, F => ∃ a ws G, v = .ref a ∧ LstR m X.K H a ws G F ∧ RpL m X H vs ws G
  | .set vs, v, F => ∃ a, v = .ref a ∧ SetQ X.w H a vs ∧ F = [a]
  | .dct ks vs, v, F => ∃ a kvs G, v = .ref a ∧ H a = some (.dK kvs) ∧ (kvs.map (·.1) = ks ∧ ks.Nodup) ∧ F = a :: G ∧ RpL m X H vs (kvs.map (·.2)) G
  | .err c fs, v, F => F = [] ∧ ∃ a, v = .ref a ∧ X.ea a c fs H
  | .fls vs, v, F => ∃ a ws, v = .ref a ∧ (∃ o, H a = some (.frz o (.lst ws))) ∧ RpL m X H vs ws F
def RpL (m : Bool) (X : KX) (H : Hp) : List PV → List V → List Addr → Prop
  | [], ws, F => ws = [] ∧ F = []
  | v :: vs, ws, F => ∃ w ws' F1 F2, ws = w :: ws' ∧ F = F1 ++ F2 ∧ Rp m X H v w F1 ∧ RpL m X H vs ws' F2
end

/-- what is read without being owned stays -/
structure Fix (H H' : Hp) : Prop where
  keep : ∀ b o, H b = some o → HOwn o = false → H' b = some o
def KX.Ok (X : KX) : Prop := ∀ a c fs H H', X.ea a c fs H → Fix H H' → X.ea a c fs H'
theorem sqT_fix {K : PySem.W.Frag} {H H' : Hp} {a : Addr} {xs : List V} (h : SqT K H a xs) (k : Fix H H') : SqT K H' a xs := by
  rcases h with (h | ⟨o, h⟩) | h
  · exact .inl (.inl (k.keep _ _ h rfl))
  · exact .inl (.inr ⟨o, k.keep _ _ h rfl⟩)
  · exact .inr h
theorem LstR.fix {m : Bool} {K : PySem.W.Frag} {H H' : Hp} {a : Addr} {xs : List V} {G F : List Addr} (h : LstR m K H a xs G F) (ha : ∀ b ∈ F, ∀ o, H b = some o → H' b = some o) : LstR m K H' a xs G F := by
  rcases h with ⟨h, e⟩ | ⟨h, e, o, q⟩ | h
  · exact .inl ⟨ha a (by rw [e]; exact List.mem_cons_self) _ h, e⟩
  · exact .inr (.inl ⟨h, e, o, ha a (by rw [e]; exact List.mem_cons_self) _ q⟩)
  · exact .inr (.inr h)
mutual
theorem Rp.fix {m : Bool} {X : KX} (ok : X.Ok) {H H' : Hp} (k : Fix H H') : ∀ {v : PV} {w : V} {F : List Addr}, Rp m X H v w F → (∀ a ∈ F, ∀ o, H a = some o → H' a = some o) → Rp m X H' v w F
  | .non, w, F, h, _ => by unfold Rp at h ⊢; exact h
  | .bl _, w, F, h, _ => by unfold Rp at h ⊢; exact h
  | .int _, w, F, h, _ => by unfold Rp at h ⊢; exact h
  | .str _, w, F, h, _ => by unfold Rp at h ⊢; exact h
  | .tup vs, w, F, h, kk => by
    unfold Rp at h ⊢
    obtain ⟨a, ws, e, hs, r⟩ := h
    exact ⟨a, ws, e, sqT_fix hs k, RpL.fix ok k r kk⟩
  | .lst vs, w, F, h, kk => by
    unfold Rp at h ⊢
    obtain ⟨a, ws, G, e, hs, r⟩ := h
    exact ⟨a, ws, G, e, hs.fix kk, RpL.fix ok k r fun b hb => kk b (hs.sub b hb)⟩
  | .set vs, w, F, h, kk => by
    unfold Rp at h ⊢
    obtain ⟨a, e, ⟨ns, S, h1, h2, h3, h4⟩, eF⟩ := h
    subst eF
    exact ⟨a, e, ⟨ns, S, h1, h2, h3, kk a List.mem_cons_self _ h4⟩, rfl⟩
  | .dct ks vs, w, F, h, kk => by
    unfold Rp at h ⊢
    obtain ⟨a, kvs, G, e, hs, ek, eF, r⟩ := h
    subst eF
    exact ⟨a, kvs, G, e, kk a List.mem_cons_self _ hs, ek, rfl, RpL.fix ok k r fun b hb => kk b (List.mem_cons_of_mem _ hb)⟩
  | .err c fs, w, F, h, kk => by
    unfold Rp at h ⊢
    obtain ⟨e, a, ew, q⟩ := h
    exact ⟨e, a, ew, ok _ _ _ _ _ q k⟩
  | .fls vs, w, F, h, kk => by
    unfold Rp at h ⊢
    obtain ⟨a, ws, e, ⟨o, hs⟩, r⟩ := h
    exact ⟨a, ws, e, ⟨o, k.keep _ _ hs rfl⟩, RpL.fix ok k r kk⟩
theorem RpL.fix {m : Bool} {X : KX} (ok : X.Ok) {H H' : Hp} (k : Fix H H') : ∀ {vs : List PV} {ws : List V} {F : List Addr}, RpL m X H vs ws F → (∀ a ∈ F, ∀ o, H a = some o → H' a = some o) → RpL m X H' vs ws F
  | [], ws, F, h, _ => by unfold RpL at h ⊢; exact h
  | v :: vs, ws, F, h, kk => by
    unfold RpL at h ⊢
    obtain ⟨w, ws', F1, F2, e, eF, r1, r2⟩ := h
    subst eF
    exact ⟨w, ws', F1, F2, e, rfl, Rp.fix ok k r1 fun b hb => kk b (List.mem_append_left _ hb), RpL.fix ok k r2 fun b hb => kk b (List.mem_append_right _ hb)⟩
end
mutual
theorem Rp.weak {m : Bool} {X : KX} {H : Hp} : ∀ {v : PV} {w : V} {F : List Addr}, Rp m X H v w F → Rp false X H v w F
  | .non, w, F, h => by unfold Rp at h ⊢; exact h
  | .bl _, w, F, h => by unfold Rp at h ⊢; exact h
  | .int _, w, F, h => by unfold Rp at h ⊢; exact h
  | .str _, w, F, h => by unfold Rp at h ⊢; exact h
  | .tup vs, w, F, h => by
    unfold Rp at h ⊢
    obtain ⟨a, ws, e, hs, r⟩ := h
    exact ⟨a, ws, e, hs, RpL.weak r⟩
  | .lst vs, w, F, h => by
    unfold Rp at h ⊢
    obtain ⟨a, ws, G, e, hs, r⟩ := h
    refine ⟨a, ws, G, e, ?_, RpL.weak r⟩
    rcases hs with h | h | h
    · exact .inl h
    · exact .inr (.inl ⟨rfl, h.2⟩)
    · exact .inr (.inr ⟨rfl, h.2⟩)
  | .set vs, w, F, h => by unfold Rp at h ⊢; exact h
  | .dct ks vs, w, F, h => by
    unfold Rp at h ⊢
    obtain ⟨a, kvs, G, e, hs, ek, eF, r⟩ := h
    exact ⟨a, kvs, G, e, hs, ek, eF, RpL.weak r⟩
  | .err c fs, w, F, h => by unfold Rp at h ⊢; exact h
  | .fls vs, w, F, h => by
    unfold Rp at h ⊢
    obtain ⟨a, ws, e, hs, r⟩ := h
    exact ⟨a, ws, e, hs, RpL.weak r⟩
theorem RpL.weak {m : Bool} {X : KX} {H : Hp} : ∀ {vs : List PV} {ws : List V} {F : List Addr}, RpL m X H vs ws F → RpL false X H vs ws F
  | [], ws, F, h => by unfold RpL at h ⊢; exact h
  | v :: vs, ws, F, h => by
    unfold RpL at h ⊢
    obtain ⟨w, ws', F1, F2, e, eF, r1, r2⟩ := h
    exact ⟨w, ws', F1, F2, e, eF, Rp.weak r1, RpL.weak r2⟩
end
mutual
/-- nothing in an unchangeable value is owned -/
theorem Rp.imm {m m' : Bool} {X : KX} {H : Hp} : ∀ {v : PV} {w : V} {F : List Addr}, Rp m X H v w F → v.imm = true → F = [] ∧ Rp m' X H v w []
  | .non, w, F, h, _ => by unfold Rp at h ⊢; exact ⟨h.2, h.1, rfl⟩
  | .bl _, w, F, h, _ => by unfold Rp at h ⊢; exact ⟨h.2, h.1, rfl⟩
  | .int _, w, F, h, _ => by unfold Rp at h ⊢; exact ⟨h.2, h.1, rfl⟩
  | .str _, w, F, h, _ => by unfold Rp at h ⊢; exact ⟨h.2, h.1, rfl⟩
  | .tup vs, w, F, h, i => by
    unfold Rp at h ⊢
    obtain ⟨a, ws, e, hs, r⟩ := h
    obtain ⟨e1, r1⟩ := RpL.imm (m' := m') r (by simpa [PV.imm] using i)
    exact ⟨e1, a, ws, e, hs, r1⟩
  | .lst vs, w, F, h, i => by simp [PV.imm] at i
  | .set vs, w, F, h, i => by simp [PV.imm] at i
  | .dct ks vs, w, F, h, i => by simp [PV.imm] at i
  | .err c fs, w, F, h, i => by simp [PV.imm] at i
  | .fls vs, w, F, h, i => by
    unfold Rp at h ⊢
    obtain ⟨a, ws, e, hs, r⟩ := h
    obtain ⟨e1, r1⟩ := RpL.imm (m' := m') r (by simpa [PV.imm] using i)
    exact ⟨e1, a, ws, e, hs, r1⟩
theorem RpL.imm {m m' : Bool} {X : KX} {H : Hp} : ∀ {vs : List PV} {ws : List V} {F : List Addr}, RpL m X H vs ws F → immL vs = true → F = [] ∧ RpL m' X H vs ws []
  | [], ws, F, h, _ => by unfold RpL at h ⊢; exact ⟨h.2, h.1, rfl⟩
  | v :: vs, ws, F, h, i => by
    unfold RpL at h ⊢
    obtain ⟨w, ws', F1, F2, e, eF, r1, r2⟩ := h
    simp only [immL, Bool.and_eq_true] at i
    obtain ⟨e1, q1⟩ := Rp.imm (m' := m') r1 i.1
    obtain ⟨e2, q2⟩ := RpL.imm (m' := m') r2 i.2
    subst e1; subst e2
    exact ⟨eF, w, ws', [], [], e, rfl, q1, q2⟩
end
mutual
/-- what is owned is tracked -/
theorem Rp.own {X : KX} {H : Hp} : ∀ {v : PV} {w : V} {F : List Addr}, Rp true X H v w F → ∀ a ∈ F, ∃ o, H a = some o ∧ HOwn o = true
  | .non, w, F, h, a, ha => by unfold Rp at h; rw [h.2] at ha; cases ha
  | .bl _, w, F, h, a, ha => by unfold Rp at h; rw [h.2] at ha; cases ha
  | .int _, w, F, h, a, ha => by unfold Rp at h; rw [h.2] at ha; cases ha
  | .str _, w, F, h, a, ha => by unfold Rp at h; rw [h.2] at ha; cases ha
  | .tup vs, w, F, h, a, ha => by
    unfold Rp at h
    obtain ⟨b, ws, e, hs, r⟩ := h
    exact RpL.own r a ha
  | .lst vs, w, F, h, a, ha => by
    unfold Rp at h
    obtain ⟨b, ws, G, e, hs, r⟩ := h
    obtain ⟨h1, eF⟩ := hs.own
    subst eF
    rcases List.mem_cons.mp ha with rfl | ha
    · exact ⟨_, h1, rfl⟩
    · exact RpL.own r a ha
  | .set vs, w, F, h, a, ha => by
    unfold Rp at h
    obtain ⟨b, e, ⟨ns, S, h1, h2, h3, h4⟩, eF⟩ := h
    subst eF
    have : a = b := by simpa using ha
    subst this
    exact ⟨_, h4, rfl⟩
  | .dct ks vs, w, F, h, a, ha => by
    unfold Rp at h
    obtain ⟨b, kvs, G, e, hs, ek, eF, r⟩ := h
    subst eF
    rcases List.mem_cons.mp ha with rfl | ha
    · exact ⟨_, hs, rfl⟩
    · exact RpL.own r a ha
  | .err c fs, w, F, h, a, ha => by unfold Rp at h; rw [h.1] at ha; cases ha
  | .fls vs, w, F, h, a, ha => by
    unfold Rp at h
    obtain ⟨b, ws, e, hs, r⟩ := h
    exact RpL.own r a ha
theorem RpL.own {X : KX} {H : Hp} : ∀ {vs : List PV} {ws : List V} {F : List Addr}, RpL true X H vs ws F → ∀ a ∈ F, ∃ o, H a = some o ∧ HOwn o = true
  | [], ws, F, h, a, ha => by unfold RpL at h; rw [h.2] at ha; cases ha
  | v :: vs, ws, F, h, a, ha => by
    unfold RpL at h
    obtain ⟨w, ws', F1, F2, e, eF, r1, r2⟩ := h
    subst eF
    rcases List.mem_append.mp ha with ha | ha
    · exact Rp.own r1 a ha
    · exact RpL.own r2 a ha
end

mutual
/-- whatever may be changed in it is tracked -/
theorem Rp.trk {m : Bool} {X : KX} {H : Hp} : ∀ {v : PV} {w : V} {F : List Addr}, Rp m X H v w F → ∀ a ∈ F, ∃ o, H a = some o
  | .non, w, F, h, a, ha => by unfold Rp at h; rw [h.2] at ha; cases ha
  | .bl _, w, F, h, a, ha => by unfold Rp at h; rw [h.2] at ha; cases ha
  | .int _, w, F, h, a, ha => by unfold Rp at h; rw [h.2] at ha; cases ha
  | .str _, w, F, h, a, ha => by unfold Rp at h; rw [h.2] at ha; cases ha
  | .tup vs, w, F, h, a, ha => by
    unfold Rp at h
    obtain ⟨b, ws, e, hs, r⟩ := h
    exact RpL.trk r a ha
  | .lst vs, w, F, h, a, ha => by
    unfold Rp at h
    obtain ⟨b, ws, G, e, hs, r⟩ := h
    rcases hs with ⟨h1, eF⟩ | ⟨_, eF, o, h1⟩ | ⟨_, eF, _⟩
    · subst eF
      rcases List.mem_cons.mp ha with rfl | ha
      · exact ⟨_, h1⟩
      · exact RpL.trk r a ha
    · subst eF
      rcases List.mem_cons.mp ha with rfl | ha
      · exact ⟨_, h1⟩
      · exact RpL.trk r a ha
    · subst eF
      exact RpL.trk r a ha
  | .set vs, w, F, h, a, ha => by
    unfold Rp at h
    obtain ⟨b, e, ⟨ns, S, h1, h2, h3, h4⟩, eF⟩ := h
    subst eF
    have : a = b := by simpa using ha
    subst this
    exact ⟨_, h4⟩
  | .dct ks vs, w, F, h, a, ha => by
    unfold Rp at h
    obtain ⟨b, kvs, G, e, hs, ek, eF, r⟩ := h
    subst eF
    rcases List.mem_cons.mp ha with rfl | ha
    · exact ⟨_, hs⟩
    · exact RpL.trk r a ha
  | .err c fs, w, F, h, a, ha => by unfold Rp at h; rw [h.1] at ha; cases ha
  | .fls vs, w, F, h, a, ha => by
    unfold Rp at h
    obtain ⟨b, ws, e, hs, r⟩ := h
    exact RpL.trk r a ha
theorem RpL.trk {m : Bool} {X : KX} {H : Hp} : ∀ {vs : List PV} {ws : List V} {F : List Addr}, RpL m X H vs ws F → ∀ a ∈ F, ∃ o, H a = some o
  | [], ws, F, h, a, ha => by unfold RpL at h; rw [h.2] at ha; cases ha
  | v :: vs, ws, F, h, a, ha => by
    unfold RpL at h
    obtain ⟨w, ws', F1, F2, e, eF, r1, r2⟩ := h
    subst eF
    rcases List.mem_append.mp ha with ha | ha
    · exact Rp.trk r1 a ha
    · exact RpL.trk r2 a ha
end

theorem RpL.length {m : Bool} {X : KX} {H : Hp} : ∀ {vs : List PV} {ws : List V} {F : List Addr}, RpL m X H vs ws F → vs.length = ws.length
  | [], ws, F, h => by unfold RpL at h; rw [h.1]; rfl
  | v :: vs, ws, F, h => by
    unfold RpL at h
    obtain ⟨w, ws', F1, F2, e, eF, r1, r2⟩ := h
    rw [e, List.length_cons, List.length_cons, RpL.length r2]
theorem RpL.nil {m : Bool} {X : KX} {H : Hp} : RpL m X H [] [] [] := by unfold RpL; exact ⟨rfl, rfl⟩
theorem RpL.cons {m : Bool} {X : KX} {H : Hp} {v : PV} {w : V} {vs : List PV} {ws : List V} {F G : List Addr} (h : Rp m X H v w F) (t : RpL m X H vs ws G) : RpL m X H (v :: vs) (w :: ws) (F ++ G) := by
  unfold RpL; exact ⟨w, ws, F, G, rfl, rfl, h, t⟩
theorem RpL.append {m : Bool} {X : KX} {H : Hp} : ∀ {vs us : List PV} {ws zs : List V} {F G : List Addr}, RpL m X H vs ws F → RpL m X H us zs G → RpL m X H (vs ++ us) (ws ++ zs) (F ++ G)
  | [], us, ws, zs, F, G, h, t => by unfold RpL at h; rw [h.1, h.2]; exact t
  | v :: vs, us, ws, zs, F, G, h, t => by
    unfold RpL at h
    obtain ⟨w, ws', F1, F2, e, eF, r1, r2⟩ := h
    subst e; subst eF
    rw [List.append_assoc]
    exact RpL.cons r1 (RpL.append r2 t)
/-- the item at a place: the parts around it -/
theorem RpL.at {m : Bool} {X : KX} {H : Hp} : ∀ {vs : List PV} {ws : List V} {F : List Addr} {i : Nat} {v : PV}, RpL m X H vs ws F → vs[i]? = some v → ∃ w F1 G F2, ws[i]? = some w ∧ F = F1 ++ (G ++ F2) ∧ Rp m X H v w G ∧
    RpL m X H (vs.take i) (ws.take i) F1 ∧ RpL m X H (vs.drop (i + 1)) (ws.drop (i + 1)) F2
  | [], ws, F, i, v, h, e => by simp at e
  | u :: vs, ws, F, 0, v, h, e => by
    simp at e; subst e
    unfold RpL at h
    obtain ⟨w, ws', F1, F2, e, eF, r1, r2⟩ := h
    subst e; subst eF
    exact ⟨w, [], F1, F2, rfl, by simp, r1, RpL.nil, by simpa using r2⟩
  | u :: vs, ws, F, i + 1, v, h, e => by
    unfold RpL at h
    obtain ⟨w, ws', F1, F2, e1, eF, r1, r2⟩ := h
    subst e1; subst eF
    obtain ⟨w2, G1, G, G2, h1, h2, h3, h4, h5⟩ := RpL.at (i := i) (v := v) r2 (by simpa using e)
    subst h2
    refine ⟨w2, F1 ++ G1, G, G2, by simpa using h1, by simp [List.append_assoc], h3, ?_, by simpa using h5⟩
    simpa using RpL.cons r1 h4
theorem RpL.ints {m : Bool} {X : KX} {H : Hp} : ∀ {vs : List PV} {ns : List Int} {ws : List V} {F : List Addr}, intsI vs = some ns → RpL m X H vs ws F → ws = ns.map V.int ∧ F = []
  | [], ns, ws, F, e, h => by
    simp [intsI] at e; subst e
    unfold RpL at h; rw [h.1, h.2]; exact ⟨rfl, rfl⟩
  | v :: vs, ns, ws, F, e, h => by
    unfold RpL at h
    obtain ⟨w, ws', F1, F2, e1, eF, r1, r2⟩ := h
    cases v <;> simp [intsI] at e
    case int i =>
      obtain ⟨ms, e2, e3⟩ := e
      obtain ⟨h1, h2⟩ := RpL.ints e2 r2
      unfold Rp at r1
      subst e3; subst e1; subst eF
      rw [r1.1, r1.2, h1, h2]
      exact ⟨rfl, rfl⟩
theorem RpL.bls {m : Bool} {X : KX} {H : Hp} : ∀ {vs : List PV} {bs : List Bool} {ws : List V} {F : List Addr}, blsI vs = some bs → RpL m X H vs ws F → ws = bs.map V.bl ∧ F = []
  | [], ns, ws, F, e, h => by
    simp [blsI] at e; subst e
    unfold RpL at h; rw [h.1, h.2]; exact ⟨rfl, rfl⟩
  | v :: vs, ns, ws, F, e, h => by
    unfold RpL at h
    obtain ⟨w, ws', F1, F2, e1, eF, r1, r2⟩ := h
    cases v <;> simp [blsI] at e
    case bl i =>
      obtain ⟨ms, e2, e3⟩ := e
      obtain ⟨h1, h2⟩ := RpL.bls e2 r2
      unfold Rp at r1
      subst e3; subst e1; subst eF
      rw [r1.1, r1.2, h1, h2]
      exact ⟨rfl, rfl⟩
end DI
set_option Elab.async false
set_option linter.all false
set_option maxRecDepth 100000
set_option maxHeartbeats 1000000
/-! DIS1: the slots in the heap, steps, what an evaluation leaves. -/
namespace DI
open PySem PySem.Spec PyProof.Rows L2

abbrev St := L2.St
structure Sim (X : KX) (env : PEnv) (σ : St) (H : Hp) (fp : Nat → List Addr) : Prop where
  len : σ.length = env.length
  own : ∀ (i : Nat) (v : PV), getM env i = some v → ∃ w, σ[i]? = some (some w) ∧ Rp true X H v w (fp i)
  emp : ∀ i, getM env i = none → fp i = []
  ro : ∀ (i : Nat) (k : Bool) (v : PV), env[i]? = some (Slot.ro k v) → ∃ w G, σ[i]? = some (some w) ∧ Rp false X H v w G ∧ X.Q i v w G
  qz : ∀ i v w G, X.Q i v w G → ∀ b ∈ G, X.Z b
  dis : ∀ i j b, b ∈ fp i → b ∈ fp j → i = j
  nd : ∀ i, (fp i).Nodup
  zd : ∀ i b, b ∈ fp i → ¬ X.Z b
  zt : ∀ b, X.Z b → ∃ o, H b = some o
  fx : ∀ i w, X.R i = some w → σ[i]? = some (some w) ∧ ∃ s, env[i]? = some s ∧ s.fix = true
structure Stp (fp : Nat → List Addr) (H : Hp) (fp' : Nat → List Addr) (H' : Hp) : Prop where
  frm : ∀ b o, H b = some o → (∀ i, b ∉ fp i) → H' b = some o
  new : ∀ i b, b ∈ fp' i → (∃ j, b ∈ fp j) ∨ H b = none
section
variable {X : KX} {env env1 env2 : PEnv} {σ : St} {H H1 H2 H' : Hp} {fp fp1 fp2 fp' : Nat → List Addr}
theorem Sim.owned (S : Sim X env σ H fp) {i : Nat} {b : Addr} (hb : b ∈ fp i) : ∃ o, H b = some o ∧ HOwn o = true := by
  cases h : getM env i with
  | none => rw [S.emp i h] at hb; cases hb
  | some v =>
    obtain ⟨w, _, r⟩ := S.own i v h
    exact r.own b hb
theorem Stp.refl : Stp fp H fp H := ⟨fun _ _ h _ => h, fun i b h => .inl ⟨i, h⟩⟩
theorem Stp.same (s : Same H H') : Stp fp H fp H' := ⟨fun b o h _ => s b o h, fun i b h => .inl ⟨i, h⟩⟩
theorem Stp.trans (t1 : Stp fp H fp1 H1) (t2 : Stp fp1 H1 fp2 H2) : Stp fp H fp2 H2 := by
  refine ⟨fun b o h hn => t2.frm b o (t1.frm b o h hn) fun i hb => ?_, fun i b hb => ?_⟩
  · rcases t1.new i b hb with ⟨j, hj⟩ | h0
    · exact hn j hj
    · rw [h] at h0; cases h0
  · rcases t2.new i b hb with ⟨j, hj⟩ | h0
    · exact t1.new j b hj
    · by_cases hx : ∃ j, b ∈ fp j
      · exact .inl hx
      · refine .inr ?_
        cases h : H b with
        | none => rfl
        | some o =>
          have := t1.frm b o h fun j hj => hx ⟨j, hj⟩
          rw [h0] at this; cases this
theorem Stp.fix (S : Sim X env σ H fp) (t : Stp fp H fp' H') : Fix H H' := ⟨fun b o h ho => t.frm b o h fun i hb => by
  obtain ⟨o', h', e⟩ := S.owned hb
  rw [h] at h'; cases h'; rw [ho] at e; cases e⟩
theorem Fix.same (s : Same H H') : Fix H H' := ⟨fun b o h _ => s b o h⟩
theorem same_refl : Same H H := fun _ _ h => h
theorem same_trans (a : Same H H1) (b : Same H1 H2) : Same H H2 := fun c o h => b c o (a c o h)
/-- the heap has grown alone -/
theorem Sim.same (ok : X.Ok) (S : Sim X env σ H fp) (s : Same H H') : Sim X env σ H' fp := by
  refine ⟨S.len, fun i v h => ?_, S.emp, fun i k v h => ?_, S.qz, S.dis, S.nd, S.zd, fun b h => (S.zt b h).imp fun o e => s b o e, S.fx⟩
  · obtain ⟨w, e, r⟩ := S.own i v h
    exact ⟨w, e, r.fix ok (Fix.same s) fun a _ o ho => s a o ho⟩
  · obtain ⟨w, G, e, r, d⟩ := S.ro i k v h
    exact ⟨w, G, e, r.fix ok (Fix.same s) fun a _ o ho => s a o ho, d⟩

/-- a value of its own: nothing of it in a slot -/
structure VO (X : KX) (fp : Nat → List Addr) (H : Hp) (fp' : Nat → List Addr) (H' : Hp) (v : PV) (w : V) (F : List Addr) : Prop where
  rp : Rp true X H' v w F
  nd : F.Nodup
  dis : ∀ b ∈ F, ∀ i, b ∉ fp' i
  new : ∀ b ∈ F, (∃ j, b ∈ fp j) ∨ H b = none
  z : ∀ b ∈ F, ¬ X.Z b
/-- a value as it stands: what of it may be changed is in the slot root, or in none -/
structure VB (X : KX) (fp' : Nat → List Addr) (H' : Hp) (root : Option Nat) (v : PV) (w : V) (G : List Addr) : Prop where
  rp : Rp false X H' v w G
  rt : ∀ b ∈ G, ∀ i, b ∈ fp' i → root = some i
theorem VO.vb {v : PV} {w : V} {F : List Addr} {root : Option Nat} (h : VO X fp H fp' H' v w F) : VB X fp' H' root v w F :=
  ⟨h.rp.weak, fun b hb i hi => absurd hi (h.dis b hb i)⟩
theorem VB.vo {v : PV} {w : V} {G : List Addr} {root : Option Nat} (h : VB X fp' H' root v w G) (hi : v.imm = true) : VO X fp H fp' H' v w [] :=
  ⟨(h.rp.imm hi).2, List.nodup_nil, fun b hb => (by cases hb), fun b hb => (by cases hb), fun b hb => (by cases hb)⟩
/-- behind an evaluation -/
structure Post (X : KX) (σ : St) (fp : Nat → List Addr) (H : Hp) (e : E) (r : PV × Bool) (env' : PEnv) (w : V) (H' : Hp) (fp' : Nat → List Addr) : Prop where
  sim : Sim X env' σ H' fp'
  stp : Stp fp H fp' H'
  same : e.quiet = true → Same H H'
  mono : e.quiet = true → ∀ i b, b ∈ fp' i → b ∈ fp i
  vb : ∃ G, VB X fp' H' e.root r.1 w G
  vo : r.2 = true → ∃ F, VO X fp H fp' H' r.1 w F
  at_ : ∀ i, e = .var i → σ[i]? = some (some w)
/-- a new value made -/
structure New (X : KX) (H : Hp) (v : PV) (w : V) (F : List Addr) (H' : Hp) : Prop where
  same : Same H H'
  rp : Rp true X H' v w F
  nd : F.Nodup
  new : ∀ b ∈ F, H b = none
theorem New.flat {v : PV} {w : V} (h : Rp true X H v w []) : New X H v w [] H := ⟨same_refl, h, List.nodup_nil, fun _ hb => by cases hb⟩
theorem New.post (ok : X.Ok) {v : PV} {w : V} {F : List Addr} {e : E} (S : Sim X env σ H1 fp1) (t : Stp fp H fp1 H1) (hq : e.quiet = true → Same H H1) (hm : e.quiet = true → ∀ i b, b ∈ fp1 i → b ∈ fp i) (hv : ∀ i, e ≠ .var i) (n : New X H1 v w F H') : Post X σ fp H e (v, true) env w H' fp1 := by
  have vo : VO X fp H fp1 H' v w F := by
    refine ⟨n.rp, n.nd, fun b hb i hi => ?_, fun b hb => ?_, fun b hb hz => ?_⟩
    rotate_left 2
    · obtain ⟨o, e⟩ := S.zt b hz
      rw [n.new b hb] at e; cases e
    · obtain ⟨o, e, _⟩ := S.owned hi
      rw [n.new b hb] at e; cases e
    · have h1 := n.new b hb
      by_cases hx : ∃ j, b ∈ fp j
      · exact .inl hx
      · refine .inr ?_
        cases h : H b with
        | none => rfl
        | some o =>
          have := t.frm b o h fun j hj => hx ⟨j, hj⟩
          rw [h1] at this; cases this
  exact ⟨S.same ok n.same, t.trans (Stp.same n.same), fun e => same_trans (hq e) n.same, hm, ⟨F, vo.vb⟩, fun _ => ⟨F, vo⟩, fun i z => absurd z (hv i)⟩
end

/-- the context of a reading -/
structure Cz where
  X : KX
  p : Prog
  cf : Str → List PV → CR
  fu : Nat
  W : WX
  er : Str → List PV → Value → Option Addr → Hp → Prop
def ExcOk (Y : Cz) (σ : St) (fp : Nat → List Addr) (H : Hp) (c : Str) (fs : List PV) (env' : PEnv) : Prop :=
  ∀ cls d H' fp', Sim Y.X env' σ H' fp' → Stp fp H fp' H' → Y.er c fs cls d H' → Y.W cls d σ H'
def Hold {α : Type} (Y : Cz) (σ : St) (fp : Nat → List Addr) (H : Hp) (r : R α) (Φ : α → PEnv → Prop) : Prop :=
  match r with
  | .ok a env => Φ a env
  | .exc c fs env => ExcOk Y σ fp H c fs env
  | .bad => False
section
variable {α β : Type} {Y : Cz} {σ : St} {fp fp1 : Nat → List Addr} {H H1 : Hp} {r : R α} {Φ Ψ : α → PEnv → Prop}
theorem Hold.imp (h : Hold Y σ fp H r Φ) (k : ∀ a env, Φ a env → Ψ a env) : Hold Y σ fp H r Ψ := by
  cases r with
  | ok a env => exact k a env h
  | exc c fs env => exact h
  | bad => exact h
theorem Hold.bind {f : α → PEnv → R β} {Φ : β → PEnv → Prop} (h : Hold Y σ fp H (r.bind f) Φ) : Hold Y σ fp H r fun a env => Hold Y σ fp H (f a env) Φ := by
  cases r with
  | ok a env => exact h
  | exc c fs env => exact h
  | bad => exact h
theorem Hold.adv (h : Hold Y σ fp H r Φ) (t : Stp fp H fp1 H1) : Hold Y σ fp1 H1 r Φ := by
  cases r with
  | ok a env => exact h
  | exc c fs env => exact fun cls d H' fp' S t' e => h cls d H' fp' S (t.trans t') e
  | bad => exact h
theorem Hold.opt {o : Option α} {env : PEnv} (h : Hold Y σ fp H (opt o env) Φ) : ∃ a, o = some a ∧ Φ a env := by
  cases o with
  | none => exact h.elim
  | some a => exact ⟨a, rfl, h⟩
theorem Hold.ite {c : Prop} [Decidable c] {a : R α} (h : Hold Y σ fp H (if c then a else .bad) Φ) : c ∧ Hold Y σ fp H a Φ := by
  by_cases hc : c
  · rw [if_pos hc] at h; exact ⟨hc, h⟩
  · rw [if_neg hc] at h; exact h.elim
end
/-- the reading of an expression -/
def RdB (Y : Cz) (e : E) : TE := fun σ H Q => ∃ env fp, Sim Y.X env σ H fp ∧
  Hold Y σ fp H (evB Y.p Y.cf e env) fun r env' => ∀ w H' fp', Post Y.X σ fp H e r env' w H' fp' → Q w H'
theorem PE.mono {X : Cx} {e : Expr} {t u : TE} (h : PE X e t) (k : ∀ σ H Q, u σ H Q → t σ H Q) : PE X e u := ⟨fun pins s σ H Q I hu => h.run pins s σ H Q I (k σ H Q hu)⟩
theorem PT.mono {X : Cx} {e : Expr} {t u : TT} (h : PT X e t) (k : ∀ σ H Q, u σ H Q → t σ H Q) : PT X e u := ⟨fun pins s σ H Q I hu => h.run pins s σ H Q I (k σ H Q hu)⟩
theorem PW.mono {X : Cx} {e : Expr} {t u : TT} (h : PW X e t) (k : ∀ σ H Q, u σ H Q → t σ H Q) : PW X e u := ⟨fun wh pins s σ H Q I hu => h.run wh pins s σ H Q I (k σ H Q hu)⟩
theorem PA.mono {X : Cx} {es : List Expr} {t u : TA} (h : PA X es t) (k : ∀ σ H Q, u σ H Q → t σ H Q) : PA X es u := ⟨fun pos pins s σ H Q I hu => h.run pos pins s σ H Q I (k σ H Q hu)⟩
theorem PSs.mono {X : Cx} {ss : List Stmt} {t u : TS} (h : PSs X ss t) (k : ∀ D σ H, u D σ H → t D σ H) : PSs X ss u := ⟨fun pins s σ H D I hu => h.run pins s σ H D I (k D σ H hu)⟩
theorem PS.mono {X : Cx} {st : Stmt} {t u : TS} (h : PS X st t) (k : ∀ D σ H, u D σ H → t D σ H) : PS X st u := ⟨fun pins s σ H D I hu => h.run pins s σ H D I (k D σ H hu)⟩
theorem PI.mono {X : Cx} {tg it : Expr} {t u : TI} (h : PI X tg it t) (k : ∀ σ H R, u σ H R → t σ H R) : PI X tg it u := ⟨fun pins s σ H R I hu => h.run pins s σ H R I (k σ H R hu)⟩

section
variable {Y : Cz} {σ : St} {fp : Nat → List Addr} {H : Hp} {env : PEnv}
/-- constants -/
theorem rd_const (ok : Y.X.Ok) {e : E} {v : PV} {w : V} (hne : ∀ i, e ≠ .var i) (hv : ∀ env, evB Y.p Y.cf e env = .ok (v, true) env) (hr : ∀ H, Rp true Y.X H v w []) : ∀ σ H Q, RdB Y e σ H Q → tC w σ H Q := by
  rintro σ H Q ⟨env, fp, S, h⟩
  rw [hv] at h
  exact h w H fp ((New.flat (hr H)).post ok S Stp.refl (fun _ => same_refl) (fun _ _ _ h => h) hne)
theorem getM_or {env : PEnv} {i : Nat} {v : PV} (h : getS env i = some v) : getM env i = some v ∨ ∃ k, env[i]? = some (.ro k v) := by
  unfold getS at h
  unfold getM
  cases e : env[i]? with
  | none => rw [e] at h; cases h
  | some s =>
    rw [e] at h
    cases s with
    | un => cases h
    | ow u => left; simpa [Slot.val] using h
    | ro k u => right; have : u = v := by simpa [Slot.val] using h
                exact ⟨k, by rw [this]⟩
    | rf u => left; simpa [Slot.val] using h
theorem Sim.val (S : Sim Y.X env σ H fp) {i : Nat} {v : PV} (h : getS env i = some v) : ∃ w G, σ[i]? = some (some w) ∧ VB Y.X fp H (some i) v w G := by
  rcases getM_or h with h | ⟨k, h⟩
  · obtain ⟨w, e, r⟩ := S.own i v h
    exact ⟨w, fp i, e, r.weak, fun b hb j hj => by rw [S.dis i j b hb hj]⟩
  · obtain ⟨w, G, e, r, d⟩ := S.ro i k v h
    exact ⟨w, G, e, r, fun b hb j hj => absurd (S.qz _ _ _ _ d b hb) (S.zd j b hj)⟩
theorem rd_var {i : Nat} : ∀ σ H Q, RdB Y (.var i) σ H Q → tVar i σ H Q := by
  rintro σ H Q ⟨env, fp, S, h⟩
  unfold evB at h
  cases e : getS env i with
  | none => rw [e] at h; exact h.elim
  | some v =>
    rw [e] at h
    obtain ⟨w, G, e1, r⟩ := S.val e
    refine ⟨w, e1, h w H fp ⟨S, Stp.refl, fun _ => same_refl, fun _ _ _ h => h, ⟨G, r⟩, fun hi => ⟨[], r.vo hi⟩, fun j z => by cases z; exact e1⟩⟩
end
end DI
set_option Elab.async false
set_option linter.all false
set_option maxRecDepth 100000
set_option maxHeartbeats 1000000
/-! DIS2: operations on values. -/
namespace DI
open PySem PySem.Spec PyProof.Rows L2

/-! ### data -/
mutual
def toD : PV → PyData
  | .non => .none
  | .bl b => .bool b
  | .int i => .int i
  | .str x => .str x
  | .tup vs => .tuple (toDs vs)
  | .lst vs => .list (toDs vs)
  | _ => .none
def toDs : List PV → List PyData
  | [] => []
  | v :: vs => toD v :: toDs vs
end
mutual
theorem dp_of {m : Bool} {X : KX} {H : Hp} : ∀ {v : PV} {w : V} {F : List Addr}, Rp m X H v w F → v.plain = true → Dp X.K H w (toD v)
  | .non, w, F, h, _ => by unfold Rp at h; rw [h.1]; exact .non
  | .bl b, w, F, h, _ => by unfold Rp at h; rw [h.1]; exact .bl b
  | .int i, w, F, h, _ => by unfold Rp at h; rw [h.1]; exact .int i
  | .str x, w, F, h, _ => by unfold Rp at h; rw [h.1]; exact .str x
  | .tup vs, w, F, h, p => by
    unfold Rp at h
    obtain ⟨a, ws, e, hs, r⟩ := h
    subst e
    exact .tup hs (dps_of r (by simpa [PV.plain] using p))
  | .lst vs, w, F, h, p => by
    unfold Rp at h
    obtain ⟨a, ws, G, e, hs, r⟩ := h
    subst e
    exact .lst hs.sq (dps_of r (by simpa [PV.plain] using p))
  | .set _, w, F, h, p => by simp [PV.plain] at p
  | .dct _ _, w, F, h, p => by simp [PV.plain] at p
  | .err _ _, w, F, h, p => by simp [PV.plain] at p
  | .fls _, w, F, h, p => by simp [PV.plain] at p
theorem dps_of {m : Bool} {X : KX} {H : Hp} : ∀ {vs : List PV} {ws : List V} {F : List Addr}, RpL m X H vs ws F → plainL vs = true → DpAll X.K H ws (toDs vs)
  | [], ws, F, h, _ => by unfold RpL at h; rw [h.1]; exact .nil
  | v :: vs, ws, F, h, p => by
    unfold RpL at h
    obtain ⟨w, ws', F1, F2, e, eF, r1, r2⟩ := h
    simp only [plainL, Bool.and_eq_true] at p
    subst e
    exact .cons (dp_of r1 p.1) (dps_of r2 p.2)
end
mutual
theorem toD_plain : ∀ {v : PV}, v.plain = true → (toD v).plain = true
  | .non, _ => rfl
  | .bl b, _ => rfl
  | .int i, _ => rfl
  | .str x, _ => rfl
  | .tup vs, p => by simp only [toD, PyData.plain]; exact toDs_plain (by simpa [PV.plain] using p)
  | .lst vs, p => by simp only [toD, PyData.plain]; exact toDs_plain (by simpa [PV.plain] using p)
  | .set _, p => by simp [PV.plain] at p
  | .dct _ _, p => by simp [PV.plain] at p
  | .err _ _, p => by simp [PV.plain] at p
  | .fls _, p => by simp [PV.plain] at p
theorem toDs_plain : ∀ {vs : List PV}, plainL vs = true → PyData.plainAll (toDs vs) = true
  | [], _ => rfl
  | v :: vs, p => by
    simp only [plainL, Bool.and_eq_true] at p
    simp only [toDs, PyData.plainAll, toD_plain p.1, toDs_plain p.2, Bool.and_self]
end
mutual
theorem toD_depth : ∀ {v : PV}, v.plain = true → (toD v).depth = v.depth
  | .non, _ => by simp [toD, PyData.depth, PV.depth]
  | .bl b, _ => by simp [toD, PyData.depth, PV.depth]
  | .int i, _ => by simp [toD, PyData.depth, PV.depth]
  | .str x, _ => by simp [toD, PyData.depth, PV.depth]
  | .tup vs, p => by simp only [toD, PyData.depth, PV.depth]; rw [toDs_depth (by simpa [PV.plain] using p)]
  | .lst vs, p => by simp only [toD, PyData.depth, PV.depth]; rw [toDs_depth (by simpa [PV.plain] using p)]
  | .set _, p => by simp [PV.plain] at p
  | .dct _ _, p => by simp [PV.plain] at p
  | .err _ _, p => by simp [PV.plain] at p
  | .fls _, p => by simp [PV.plain] at p
theorem toDs_depth : ∀ {vs : List PV}, plainL vs = true → PyData.depthAll (toDs vs) = depthL vs
  | [], _ => rfl
  | v :: vs, p => by
    simp only [plainL, Bool.and_eq_true] at p
    simp only [toDs, PyData.depthAll, depthL, toD_depth p.1, toDs_depth p.2]
end
mutual
theorem toD_eqv : ∀ {a b : PV}, a.plain = true → b.plain = true → PyData.eqv (toD a) (toD b) = a.eqv b
  | .tup xs, b, p, q => by
    cases b <;> simp only [toD, PyData.eqv, PV.eqv] <;> first | rfl | (exact toDs_eqv (by simpa [PV.plain] using p) (by simpa [PV.plain] using q)) | (simp [PV.plain] at q)
  | .lst xs, b, p, q => by
    cases b <;> simp only [toD, PyData.eqv, PV.eqv] <;> first | rfl | (exact toDs_eqv (by simpa [PV.plain] using p) (by simpa [PV.plain] using q)) | (simp [PV.plain] at q)
  | .non, b, p, q => by cases b <;> first | (simp [PV.plain] at q; done) | simp [toD, PyData.eqv, PV.eqv]
  | .bl _, b, p, q => by cases b <;> first | (simp [PV.plain] at q; done) | simp [toD, PyData.eqv, PV.eqv]
  | .int _, b, p, q => by cases b <;> first | (simp [PV.plain] at q; done) | simp [toD, PyData.eqv, PV.eqv]
  | .str _, b, p, q => by cases b <;> first | (simp [PV.plain] at q; done) | (simp only [toD, PyData.eqv, PV.eqv]; done) | (simp only [toD, PyData.eqv, PV.eqv]; rfl)
  | .set _, _, p, _ => by simp [PV.plain] at p
  | .dct _ _, _, p, _ => by simp [PV.plain] at p
  | .err _ _, _, p, _ => by simp [PV.plain] at p
  | .fls _, _, p, _ => by simp [PV.plain] at p
theorem toDs_eqv : ∀ {a b : List PV}, plainL a = true → plainL b = true → PyData.eqvAll (toDs a) (toDs b) = eqvL a b
  | [], [], _, _ => by simp [toDs, PyData.eqvAll, eqvL]
  | [], _ :: _, _, _ => by simp [toDs, PyData.eqvAll, eqvL]
  | _ :: _, [], _, _ => by simp [toDs, PyData.eqvAll, eqvL]
  | a :: r, b :: q, p, p' => by
    simp only [plainL, Bool.and_eq_true] at p p'
    simp only [toDs, PyData.eqvAll, eqvL, toD_eqv p.1 p'.1, toDs_eqv p.2 p'.2]
end
theorem any_toDs {x : PV} (px : x.plain = true) : ∀ {ys : List PV}, plainL ys = true → ((toDs ys).any fun y => PyData.eqv y (toD x)) = memV x ys
  | [], _ => rfl
  | y :: ys, p => by
    simp only [plainL, Bool.and_eq_true] at p
    show (PyData.eqv (toD y) (toD x) || (toDs ys).any _) = (y.eqv x || memV x ys)
    rw [toD_eqv p.1 px, any_toDs px p.2]

/-! ### readings of operations -/
section
variable {X : Cx}
def rEqP (K : PySem.W.Frag) (b : Bool) : R2 := fun x y H Q => ∃ d e, Dp K H x d ∧ Dp K H y e ∧ d.plain = true ∧ e.plain = true ∧ min d.depth e.depth ≤ 100 ∧ Q (.bl (if b then !PyData.eqv d e else PyData.eqv d e)) H
theorem op_eqP (hu : X.A.units + 200 < cLine) : OpR X (compareOp .Eq) (rEqP X.K false) := by
  intro pins s σ H x y v u Q I rx ry h
  obtain ⟨d, e, hd, he, sd, se, hm, q⟩ := h
  obtain ⟨as, r1⟩ := Dp.reads I d x v hd rx
  obtain ⟨bs, r2⟩ := Dp.reads I e y u he ry
  exact SeqAt.eq_plain r1 r2 sd se (by omega) ⟨.bl _, H, I, rfl, q⟩
theorem op_neP (hu : X.A.units + 200 < cLine) : OpR X (compareOp .NotEq) (rEqP X.K true) := by
  intro pins s σ H x y v u Q I rx ry h
  obtain ⟨d, e, hd, he, sd, se, hm, q⟩ := h
  obtain ⟨as, r1⟩ := Dp.reads I d x v hd rx
  obtain ⟨bs, r2⟩ := Dp.reads I e y u he ry
  exact SeqAt.ne_plain r1 r2 sd se (by omega) ⟨.bl _, H, I, rfl, q⟩
def rInP (K : PySem.W.Frag) (b : Bool) : R2 := fun x y H Q => ∃ d ds, Dp K H x d ∧ (Dp K H y (.list ds) ∨ Dp K H y (.tuple ds)) ∧ d.plain = true ∧ PyData.plainAll ds = true ∧ min (PyData.depthAll ds) d.depth ≤ 100 ∧
  Q (.bl (if b then !(ds.any fun y => PyData.eqv y d) else ds.any fun y => PyData.eqv y d)) H
theorem op_inP (hu : X.A.units + 200 < cLine) : OpR X (compareOp .In) (rInP X.K false) := by
  intro pins s σ H x y v u Q I rx ry h
  obtain ⟨d, ds, hd, he, sd, se, hm, q⟩ := h
  obtain ⟨as, r1⟩ := Dp.reads I d x v hd rx
  rcases he with he | he
  · obtain ⟨bs, r2⟩ := Dp.reads I _ y u he ry
    exact SeqAt.in_list_data r2 r1 se sd (by omega) ⟨.bl _, H, I, rfl, q⟩
  · obtain ⟨bs, r2⟩ := Dp.reads I _ y u he ry
    exact SeqAt.in_tuple_data r2 r1 se sd (by omega) ⟨.bl _, H, I, rfl, q⟩
theorem op_notInP (hu : X.A.units + 200 < cLine) : OpR X (compareOp .NotIn) (rInP X.K true) := by
  intro pins s σ H x y v u Q I rx ry h
  obtain ⟨d, ds, hd, he, sd, se, hm, q⟩ := h
  obtain ⟨as, r1⟩ := Dp.reads I d x v hd rx
  rcases he with he | he
  · obtain ⟨bs, r2⟩ := Dp.reads I _ y u he ry
    exact SeqAt.notIn_list_data r2 r1 se sd (by omega) ⟨.bl _, H, I, rfl, q⟩
  · obtain ⟨bs, r2⟩ := Dp.reads I _ y u he ry
    exact SeqAt.notIn_tuple_data r2 r1 se sd (by omega) ⟨.bl _, H, I, rfl, q⟩
/-- lists, wherever they stand -/
def rCatL (K : PySem.W.Frag) : R2 := fun x y H Q => ∃ l b xs zs, x = .ref l ∧ y = .ref b ∧ SqL K H l xs ∧ SqL K H b zs ∧ xs.length + zs.length ≤ sizeLine ∧ ∀ p, H p = none → Q (.ref p) (upd H p (.lst (xs ++ zs)))
theorem op_catL : OpR X (binaryOp .Add) (rCatL X.K) := by
  intro pins s σ H x y v u Q I rx ry h
  obtain ⟨l, b, xs, zs, rfl, rfl, hH, hB, hz, q⟩ := h
  cases rx
  cases ry
  obtain ⟨its, r, ⟨o, n, e, c, d, dt⟩, z⟩ := I.list hH
  obtain ⟨its2, r2, ⟨o2, n2, e2, c2, d2, dt2⟩, z2⟩ := I.list hB
  have hl := r.length
  have hl2 := r2.length
  obtain ⟨cls, dd, data, sl⟩ := o
  obtain ⟨cls2, dd2, data2, sl2⟩ := o2
  simp only at c d dt c2 d2 dt2
  subst c d dt c2 d2 dt2
  have ea : its.toArray ++ its2.toArray = (its ++ its2).toArray := by simp
  refine concat_meets ⟨_, e, rfl⟩ ⟨_, e2, rfl⟩ noFill_list_add seq_list_add PySem.F.slot_list_add PySem.F.entry_list_add (PySem.F.args_list_add_2 _ _) (list_addW l b its.toArray its2.toArray n n2 none none sl sl2 (by rw [List.size_toArray, List.size_toArray]; omega)) ⟨e, e2, ?_⟩
  rw [ea]
  exact ⟨.ref _, _, I.lnew (t' := s.toks) (r.append r2) (by rw [List.length_append]; omega), rfl, q _ I.fresh⟩

def rMul (K : PySem.W.Frag) : R2 := fun x y H Q => (rI CMul fun i j => .int (i * j)) x y H Q ∨ rRepT K x y H Q
def rAdd (K : PySem.W.Frag) : R2 := fun x y H Q => ((rI0 fun i j => V.int (i + j)) x y H Q ∨ (∃ i j, x = .str i ∧ y = .str j ∧ i.length + j.length ≤ sizeLine ∧ Q (.str (i ++ j)) H)) ∨ (rCatA K x y H Q ∨ rCatL K x y H Q)
theorem op_addP : OpR X (binaryOp .Add) (rAdd X.K) := .or (.or op_add op_add_str) (.or op_catA op_catL)
/-- the reading of an operator -/
def binR (K : PySem.W.Frag) : Operator → R2
  | .Add => rAdd K
  | .Sub => rI0 fun i j => .int (i - j)
  | .Mult => rMul K
  | .FloorDiv => rI CDiv fun i j => .int (i / j)
  | .Mod => rI (fun _ j => 0 < j) fun i j => .int (i % j)
  | .Pow => rI CPow fun i j => .int (i ^ j.toNat)
  | .LShift => rI CPow fun i j => .int (i * 2 ^ j.toNat)
  | .RShift => rI (fun _ j => 0 ≤ j) fun i j => .int (i / 2 ^ j.toNat)
  | .BitAnd => rI0 fun i j => .int (Builtin.bitAnd i j)
  | .BitOr => rI0 fun i j => .int (Builtin.bitOr i j)
  | _ => fun _ _ _ _ => False
theorem op_bin : ∀ op : Operator, OpR X (binaryOp op) (binR X.K op)
  | .Add => op_addP
  | .Sub => op_sub
  | .Mult => .or op_mul op_repT
  | .FloorDiv => op_fdiv
  | .Mod => op_mod
  | .Pow => op_pow
  | .LShift => op_shl
  | .RShift => op_shr
  | .BitAnd => op_and
  | .BitOr => op_or
  | .MatMult => fun _ _ _ _ _ _ _ _ _ _ _ _ h => h.elim
  | .Div => fun _ _ _ _ _ _ _ _ _ _ _ _ h => h.elim
  | .BitXor => fun _ _ _ _ _ _ _ _ _ _ _ _ h => h.elim
end
end DI
set_option Elab.async false
set_option linter.all false
set_option maxRecDepth 100000
set_option maxHeartbeats 1000000
/-! DIS3: operations on plain values are served by the readings. -/
namespace DI
open PySem PySem.Spec PyProof.Rows L2

section
variable {X : KX} {H H' : Hp}
theorem rp_int {m : Bool} {i : Int} : Rp m X H (.int i) (.int i) [] := by unfold Rp; exact ⟨rfl, rfl⟩
theorem rp_bl {m : Bool} {i : Bool} : Rp m X H (.bl i) (.bl i) [] := by unfold Rp; exact ⟨rfl, rfl⟩
theorem rp_str {m : Bool} {i : Str} : Rp m X H (.str i) (.str i) [] := by unfold Rp; exact ⟨rfl, rfl⟩
theorem rp_non {m : Bool} : Rp m X H .non .non [] := by unfold Rp; exact ⟨rfl, rfl⟩
theorem rp_int' {m : Bool} {i : Int} {w : V} {G : List Addr} (h : Rp m X H (.int i) w G) : w = .int i := by unfold Rp at h; exact h.1
theorem rp_bl' {m : Bool} {i : Bool} {w : V} {G : List Addr} (h : Rp m X H (.bl i) w G) : w = .bl i := by unfold Rp at h; exact h.1
theorem rp_str' {m : Bool} {i : Str} {w : V} {G : List Addr} (h : Rp m X H (.str i) w G) : w = .str i := by unfold Rp at h; exact h.1
theorem rp_non' {m : Bool} {w : V} {G : List Addr} (h : Rp m X H .non w G) : w = .non := by unfold Rp at h; exact h.1
theorem rp_tup' {m : Bool} {vs : List PV} {w : V} {G : List Addr} (h : Rp m X H (.tup vs) w G) : ∃ a ws, w = .ref a ∧ SqT X.K H a ws ∧ RpL m X H vs ws G := by unfold Rp at h; exact h
theorem rp_lst' {m : Bool} {vs : List PV} {w : V} {G : List Addr} (h : Rp m X H (.lst vs) w G) : ∃ a ws G', w = .ref a ∧ LstR m X.K H a ws G' G ∧ RpL m X H vs ws G' := by unfold Rp at h; exact h
theorem rp_dct' {m : Bool} {ks : List Key} {vs : List PV} {w : V} {G : List Addr} (h : Rp m X H (.dct ks vs) w G) : ∃ a kvs G', w = .ref a ∧ H a = some (.dK kvs) ∧ (kvs.map (·.1) = ks ∧ ks.Nodup) ∧ G = a :: G' ∧ RpL m X H vs (kvs.map (·.2)) G' := by unfold Rp at h; exact h
theorem rp_fls' {m : Bool} {vs : List PV} {w : V} {G : List Addr} (h : Rp m X H (.fls vs) w G) : ∃ a ws, w = .ref a ∧ SqL X.K H a ws ∧ RpL m X H vs ws G := by
  unfold Rp at h
  obtain ⟨a, ws, e, ⟨o, hs⟩, r⟩ := h
  exact ⟨a, ws, e, .inl (.inr ⟨o, hs⟩), r⟩
theorem same_upd {p : Addr} {o : HO} (h : H p = none) : Same H (upd H p o) := fun b x e => by
  rw [upd_ne (ne_of_none e h)]
  exact e
/-- a new tuple of unchangeable items -/
theorem new_tup (ok : X.Ok) {vs : List PV} {ws : List V} {p : Addr} (h : RpL true X H vs ws []) (hp : H p = none) : New X H (.tup vs) (.ref p) [] (upd H p (.tup ws)) := by
  have s := same_upd (o := .tup ws) hp
  refine ⟨s, ?_, List.nodup_nil, fun _ hb => by cases hb⟩
  unfold Rp
  exact ⟨p, ws, rfl, SqT.of upd_same, h.fix ok (Fix.same s) fun _ hb => by cases hb⟩
theorem new_lst (ok : X.Ok) {vs : List PV} {ws : List V} {p : Addr} (h : RpL true X H vs ws []) (hp : H p = none) : New X H (.lst vs) (.ref p) [p] (upd H p (.lst ws)) := by
  have s := same_upd (o := .lst ws) hp
  refine ⟨s, ?_, by simp, fun b hb => ?_⟩
  · unfold Rp
    exact ⟨p, ws, [], rfl, .inl ⟨upd_same, rfl⟩, h.fix ok (Fix.same s) fun _ hb => by cases hb⟩
  · have : b = p := by simpa using hb
    rw [this]; exact hp
theorem new_flat {v : PV} {w : V} (h : ∀ H, Rp true X H v w []) : New X H v w [] H := New.flat (h H)
/-- the end of an operation -/
def Gives (X : KX) (H : Hp) (v : PV) (Q : VK) : Prop := ∀ w F H', New X H v w F H' → Q w H'
theorem Gives.int {i : Int} {Q : VK} (h : Gives X H (.int i) Q) : Q (.int i) H := h _ [] _ (New.flat rp_int)
theorem Gives.bl {i : Bool} {Q : VK} (h : Gives X H (.bl i) Q) : Q (.bl i) H := h _ [] _ (New.flat rp_bl)
theorem Gives.str {i : Str} {Q : VK} (h : Gives X H (.str i) Q) : Q (.str i) H := h _ [] _ (New.flat rp_str)
theorem Gives.non {Q : VK} (h : Gives X H .non Q) : Q .non H := h _ [] _ (New.flat rp_non)
theorem Gives.tup (ok : X.Ok) {vs : List PV} {ws : List V} {Q : VK} (h : Gives X H (.tup vs) Q) (r : RpL true X H vs ws []) : ∀ p, H p = none → Q (.ref p) (upd H p (.tup ws)) := fun p hp => h _ [] _ (new_tup ok r hp)
theorem Gives.lst (ok : X.Ok) {vs : List PV} {ws : List V} {Q : VK} (h : Gives X H (.lst vs) Q) (r : RpL true X H vs ws []) : ∀ p, H p = none → Q (.ref p) (upd H p (.lst ws)) := fun p hp => h _ [p] _ (new_lst ok r hp)
theorem Gives.tupAt {vs : List PV} {ws : List V} {Q : VK} {a : Addr} (h : Gives X H (.tup vs) Q) (r : RpL true X H vs ws []) (ha : SqT X.K H a ws) : Q (.ref a) H := h _ [] _ (New.flat (by unfold Rp; exact ⟨a, ws, rfl, ha, r⟩))

theorem p64_eq : (p64 : Int) = 2 ^ 64 := by decide
theorem fits64_ok {i : Int} (h : fits64 i = true) : -(2 ^ 64) < i ∧ i < 2 ^ 64 := by
  cases i with
  | ofNat n =>
    have := Nat.le_of_ble_eq_true (show Nat.ble n 18446744073709551615 = true from h)
    have e : Int.ofNat n = (n : Int) := rfl
    rw [e]
    omega
  | negSucc n =>
    have := Nat.le_of_ble_eq_true (show Nat.ble n 18446744073709551614 = true from h)
    rw [Int.negSucc_eq]
    omega
theorem rpL_rep {vs : List PV} {ws : List V} (r : RpL true X H vs ws []) : ∀ n : Nat, RpL true X H (List.replicate n vs).flatten (List.replicate n ws).flatten []
  | 0 => RpL.nil
  | n + 1 => by
    rw [List.replicate_succ, List.replicate_succ, List.flatten_cons, List.flatten_cons]
    exact r.append (rpL_rep r n)
theorem bin_ok (ok : X.Ok) {op : Operator} {a b v : PV} {x y : V} {G G' : List Addr} {Q : VK} (h : binI op a b = some v) (ra : Rp false X H a x G) (rb : Rp false X H b y G') (q : Gives X H v Q) : binR X.K op x y H Q := by
  unfold binI at h
  split at h
  · -- Add int
    cases h
    rw [rp_int' ra, rp_int' rb]
    exact .inl (.inl ⟨_, _, rfl, rfl, q.int⟩)
  · cases h
    rw [rp_int' ra, rp_int' rb]
    exact ⟨_, _, rfl, rfl, q.int⟩
  · split at h
    · rename_i hf
      cases h
      rw [rp_int' ra, rp_int' rb]
      refine .inl ⟨_, _, rfl, rfl, ?_, q.int⟩
      rcases Bool.or_eq_true _ _ ▸ hf with hf | hf
      · exact .inl (fits64_ok hf)
      · exact .inr (fits64_ok hf)
    · cases h
  · split at h
    · rename_i hf
      cases h
      rw [rp_int' ra, rp_int' rb]
      exact ⟨_, _, rfl, rfl, hf, q.int⟩
    · cases h
  · split at h
    · rename_i hf
      cases h
      rw [rp_int' ra, rp_int' rb]
      exact ⟨_, _, rfl, rfl, hf, q.int⟩
    · cases h
  · split at h
    · rename_i hf
      cases h
      rw [rp_int' ra, rp_int' rb]
      exact ⟨_, _, rfl, rfl, ⟨hf.1, hf.2.1, hf.2.2⟩, q.int⟩
    · cases h
  · split at h
    · rename_i hf
      cases h
      rw [rp_int' ra, rp_int' rb]
      exact ⟨_, _, rfl, rfl, ⟨hf.1, hf.2.1, hf.2.2⟩, q.int⟩
    · cases h
  · split at h
    · rename_i hf
      cases h
      rw [rp_int' ra, rp_int' rb]
      exact ⟨_, _, rfl, rfl, hf, q.int⟩
    · cases h
  · cases h
    rw [rp_int' ra, rp_int' rb]
    exact ⟨_, _, rfl, rfl, q.int⟩
  · cases h
    rw [rp_int' ra, rp_int' rb]
    exact ⟨_, _, rfl, rfl, q.int⟩
  · split at h
    · rename_i hf
      cases h
      rw [rp_str' ra, rp_str' rb]
      exact .inl (.inr ⟨_, _, rfl, rfl, hf, q.str⟩)
    · cases h
  · split at h
    · rename_i hf
      cases h
      obtain ⟨hl, h1, h2⟩ := hf
      obtain ⟨a, ws, rfl, sa, r1⟩ := rp_tup' ra
      obtain ⟨b, zs, rfl, sb, r2⟩ := rp_tup' rb
      obtain ⟨e1, r1⟩ := r1.imm (m' := true) h1
      obtain ⟨e2, r2⟩ := r2.imm (m' := true) h2
      have l1 := r1.length
      have l2 := r2.length
      have rr := r1.append r2
      refine .inr (.inl ⟨a, b, ws, zs, rfl, rfl, sa, sb, by omega, fun e => ?_, fun _ e => ?_, fun _ _ => q.tup ok rr⟩)
      · subst e
        exact q.tupAt rr sb
      · subst e
        exact q.tupAt rr (by rw [List.append_nil]; exact sa)
    · cases h
  · split at h
    · rename_i hf
      cases h
      obtain ⟨hl, h1, h2⟩ := hf
      obtain ⟨a, ws, G1, rfl, sa, r1⟩ := rp_lst' ra
      obtain ⟨b, zs, G2, rfl, sb, r2⟩ := rp_lst' rb
      obtain ⟨e1, r1⟩ := r1.imm (m' := true) h1
      obtain ⟨e2, r2⟩ := r2.imm (m' := true) h2
      have l1 := r1.length
      have l2 := r2.length
      exact .inr (.inr ⟨a, b, ws, zs, rfl, rfl, sa.sq, sb.sq, by omega, q.lst ok (r1.append r2)⟩)
    · cases h
  · split at h
    · rename_i hf
      cases h
      obtain ⟨h1, h2, h3, h4, h5⟩ := hf
      rw [rp_int' rb]
      obtain ⟨a, ws, rfl, sa, r1⟩ := rp_tup' ra
      obtain ⟨e1, r1⟩ := r1.imm (m' := true) h1
      have l1 := r1.length
      refine .inr ⟨a, _, ws, rfl, rfl, sa, fun e => ?_, h3, h4, by omega, q.tup ok (rpL_rep r1 _)⟩
      subst e
      cases ‹List PV› with
      | nil => cases h2
      | cons _ _ => cases l1
    · cases h
  · split at h
    · rename_i hf
      cases h
      obtain ⟨hl, h1, h2⟩ := hf
      obtain ⟨a, ws, rfl, sa, r1⟩ := rp_fls' ra
      obtain ⟨b, zs, G2, rfl, sb, r2⟩ := rp_lst' rb
      obtain ⟨e1, r1⟩ := r1.imm (m' := true) h1
      obtain ⟨e2, r2⟩ := r2.imm (m' := true) h2
      have l1 := r1.length
      have l2 := r2.length
      exact .inr (.inr ⟨a, b, ws, zs, rfl, rfl, sa, sb.sq, by omega, q.lst ok (r1.append r2)⟩)
    · cases h
  · cases h

/-! ### comparisons -/
theorem oneC_eq {x : Str} {c : Nat} (h : oneC x = some c) : x = ⟨#[c]⟩ := by
  unfold oneC at h
  split at h
  · rename_i d e
    cases h
    cases x with
    | mk cps =>
      have e2 : cps = #[c] := Array.ext' e
      rw [e2]
  · cases h
theorem valV_look (k : Key) : ∀ {kvs : List (Key × V)} {ks : List Key} {vs : List PV} {m : Bool} {F : List Addr}, kvs.map (·.1) = ks → RpL m X H vs (kvs.map (·.2)) F → (memK k ks = (valV kvs k).isSome) ∧
    ∀ v, lookK k ks vs = some v → ∃ w G, valV kvs k = some w ∧ Rp m X H v w G ∧ ∀ b ∈ G, b ∈ F
  | [], ks, vs, m, F, e, r => by
    subst e
    refine ⟨rfl, fun v h => ?_⟩
    cases vs <;> simp [lookK] at h
  | p :: kvs, ks, vs, m, F, e, r => by
    subst e
    cases vs with
    | nil => unfold RpL at r; simp at r
    | cons v vs =>
      unfold RpL at r
      obtain ⟨w, ws', F1, F2, e1, eF, r1, r2⟩ := r
      simp only [List.map_cons, List.cons.injEq] at e1
      obtain ⟨e1, e2⟩ := e1
      subst e2
      obtain ⟨ih1, ih2⟩ := valV_look k (kvs := kvs) rfl r2
      by_cases hk : k = p.1
      · rw [valV_pos hk.symm]
        refine ⟨by simp [memK, hk], fun u h => ?_⟩
        simp only [List.map_cons, lookK, if_pos hk] at h
        cases h
        exact ⟨p.2, F1, rfl, by rw [e1]; exact r1, fun b hb => by rw [eF]; exact List.mem_append_left _ hb⟩
      · rw [valV_neg (fun z => hk z.symm)]
        refine ⟨by simp only [List.map_cons, memK, decide_eq_false hk, Bool.false_or]; exact ih1, fun u h => ?_⟩
        simp only [List.map_cons, lookK, if_neg hk] at h
        obtain ⟨w2, G, h1, h2, h3⟩ := ih2 u h
        exact ⟨w2, G, h1, h2, fun b hb => by rw [eF]; exact List.mem_append_right _ (h3 b hb)⟩
end
theorem dget_int {H : Hp} {a : Addr} {kvs : List (Key × V)} {i : Int} (e : H a = some (.dK kvs)) : DGet H a (.int i) (valV kvs (.inl i)) := DGet.k (k := .inl i) e
theorem dget_str {H : Hp} {a : Addr} {kvs : List (Key × V)} {x : Str} (e : H a = some (.dK kvs)) : DGet H a (.str x) (valV kvs (.inr x)) := DGet.k (k := .inr x) e
section
variable {X : Cx}
def rDIn (b : Bool) : R2 := fun y x H Q => ∃ a o, x = .ref a ∧ DGet H a y o ∧ Q (.bl (if b then !o.isSome else o.isSome)) H
theorem op_dinP (hu : X.A.units + 200 < cLine) : OpR X (compareOp .In) (rDIn false) := by
  intro pins s σ H y x u v Q I ry rx h
  obtain ⟨a, o, ex, g, q⟩ := h
  subst ex
  obtain rfl : v = Value.ref a := rx
  exact d_in (by omega) I g ry fun s3 I3 => ⟨.bl o.isSome, H, I3, rfl, q⟩
theorem op_dnotInP (hu : X.A.units + 200 < cLine) : OpR X (compareOp .NotIn) (rDIn true) := by
  intro pins s σ H y x u v Q I ry rx h
  obtain ⟨a, o, ex, g, q⟩ := h
  subst ex
  obtain rfl : v = Value.ref a := rx
  exact d_notIn (by omega) I g ry fun s3 I3 => ⟨.bl (!o.isSome), H, I3, rfl, q⟩
def cmpR (K : PySem.W.Frag) : CmpOp → R2
  | .Lt => rI0 fun i j => .bl (decide (i < j))
  | .LtE => fun x y H Q => rI0 (fun i j => .bl (decide (i ≤ j))) x y H Q ∨ rLeT K x y H Q
  | .Gt => rI0 fun i j => .bl (decide (j < i))
  | .GtE => rI0 fun i j => .bl (decide (j ≤ i))
  | .Eq => rEqP K false
  | .NotEq => rEqP K true
  | .In => fun x y H Q => (rInP K false x y H Q ∨ rDIn false x y H Q) ∨ ∃ (c : Nat) (z : Str), x = .str ⟨#[c]⟩ ∧ y = .str z ∧ Q (.bl (decide (c ∈ z.cps.toList))) H
  | .NotIn => fun x y H Q => (rInP K true x y H Q ∨ rDIn true x y H Q) ∨ ∃ (c : Nat) (z : Str), x = .str ⟨#[c]⟩ ∧ y = .str z ∧ Q (.bl (!decide (c ∈ z.cps.toList))) H
  | _ => fun _ _ _ _ => False
theorem op_cmp (hu : X.A.units + 200 < cLine) : ∀ op : CmpOp, OpR X (compareOp op) (cmpR X.K op)
  | .Lt => op_lt
  | .LtE => .or op_le (op_leT (by omega))
  | .Gt => op_gt
  | .GtE => op_ge
  | .Eq => op_eqP hu
  | .NotEq => op_neP hu
  | .In => .or (.or (op_inP hu) (op_dinP hu)) op_in_sign
  | .NotIn => .or (.or (op_notInP hu) (op_dnotInP hu)) op_notIn_sign
  | .Is => fun _ _ _ _ _ _ _ _ _ _ _ _ h => h.elim
  | .IsNot => fun _ _ _ _ _ _ _ _ _ _ _ _ h => h.elim
end
section
variable {X : KX} {H H' : Hp}
theorem cmp_ok {op : CmpOp} {a b v : PV} {x y : V} {G G' : List Addr} {Q : VK} (h : cmpI op a b = some v) (ra : Rp false X H a x G) (rb : Rp false X H b y G') (q : Gives X H v Q) : cmpR X.K op x y H Q := by
  unfold cmpI at h
  have inT : ∀ {a : PV} {ys : List PV}, inOk a ys = true → a.plain = true ∧ plainL ys = true ∧ min (depthL ys) a.depth ≤ 100 := fun {a ys} hh => by
    unfold inOk at hh
    simp only [Bool.and_eq_true, decide_eq_true_eq] at hh
    exact ⟨hh.1.1, hh.1.2, hh.2⟩
  split at h
  · cases h; rw [rp_int' ra, rp_int' rb]; exact ⟨_, _, rfl, rfl, q.bl⟩
  · cases h; rw [rp_int' ra, rp_int' rb]; exact .inl ⟨_, _, rfl, rfl, q.bl⟩
  · rename_i i j k l
    cases h
    obtain ⟨p, ws, rfl, hs, r⟩ := rp_tup' ra
    obtain ⟨p2, ws2, rfl, hs2, r2⟩ := rp_tup' rb
    obtain ⟨rfl, _⟩ := RpL.ints (ns := [i, j]) rfl r
    obtain ⟨rfl, _⟩ := RpL.ints (ns := [k, l]) rfl r2
    refine .inr ⟨p, p2, [i, j], [k, l], rfl, rfl, hs, hs2, ?_⟩
    have e : Ob.lexAt (fun n => decide (([i, j] : List Int).getD n 0 = ([k, l] : List Int).getD n 0)) (fun n => decide (([i, j] : List Int).getD n 0 ≤ ([k, l] : List Int).getD n 0)) (decide (([i, j] : List Int).length ≤ ([k, l] : List Int).length)) 0 (min ([i, j] : List Int).length ([k, l] : List Int).length) = leP i j k l := by
      unfold leP
      simp [Ob.lexAt]
    rw [e]
    exact q.bl
  · cases h; rw [rp_int' ra, rp_int' rb]; exact ⟨_, _, rfl, rfl, q.bl⟩
  · cases h; rw [rp_int' ra, rp_int' rb]; exact ⟨_, _, rfl, rfl, q.bl⟩
  · split at h
    · rename_i hc
      cases h
      unfold cmpOk at hc
      simp only [Bool.and_eq_true, decide_eq_true_eq] at hc
      refine ⟨_, _, dp_of ra hc.1.1, dp_of rb hc.1.2, toD_plain hc.1.1, toD_plain hc.1.2, by rw [toD_depth hc.1.1, toD_depth hc.1.2]; exact hc.2, ?_⟩
      rw [toD_eqv hc.1.1 hc.1.2]
      exact q.bl
    · cases h
  · split at h
    · rename_i hc
      cases h
      unfold cmpOk at hc
      simp only [Bool.and_eq_true, decide_eq_true_eq] at hc
      refine ⟨_, _, dp_of ra hc.1.1, dp_of rb hc.1.2, toD_plain hc.1.1, toD_plain hc.1.2, by rw [toD_depth hc.1.1, toD_depth hc.1.2]; exact hc.2, ?_⟩
      rw [toD_eqv hc.1.1 hc.1.2]
      exact q.bl
    · cases h
  · split at h
    · rename_i hc
      cases h
      obtain ⟨h1, h2, h3⟩ := inT hc
      have hp : (PV.tup ‹List PV›).plain = true := by simpa [PV.plain] using h2
      refine .inl (.inl ⟨_, _, dp_of ra h1, .inr (dp_of rb hp), toD_plain h1, toDs_plain h2, by rw [toD_depth h1, toDs_depth h2]; exact h3, ?_⟩)
      rw [any_toDs h1 h2]
      exact q.bl
    · cases h
  · split at h
    · rename_i hc
      cases h
      obtain ⟨h1, h2, h3⟩ := inT hc
      have hp : (PV.lst ‹List PV›).plain = true := by simpa [PV.plain] using h2
      refine .inl (.inl ⟨_, _, dp_of ra h1, .inl (dp_of rb hp), toD_plain h1, toDs_plain h2, by rw [toD_depth h1, toDs_depth h2]; exact h3, ?_⟩)
      rw [any_toDs h1 h2]
      exact q.bl
    · cases h
  · split at h
    · rename_i hc
      cases h
      obtain ⟨h1, h2, h3⟩ := inT hc
      have hp : (PV.tup ‹List PV›).plain = true := by simpa [PV.plain] using h2
      refine .inl (.inl ⟨_, _, dp_of ra h1, .inr (dp_of rb hp), toD_plain h1, toDs_plain h2, by rw [toD_depth h1, toDs_depth h2]; exact h3, ?_⟩)
      rw [any_toDs h1 h2]
      exact q.bl
    · cases h
  · split at h
    · rename_i hc
      cases h
      obtain ⟨h1, h2, h3⟩ := inT hc
      have hp : (PV.lst ‹List PV›).plain = true := by simpa [PV.plain] using h2
      refine .inl (.inl ⟨_, _, dp_of ra h1, .inl (dp_of rb hp), toD_plain h1, toDs_plain h2, by rw [toD_depth h1, toDs_depth h2]; exact h3, ?_⟩)
      rw [any_toDs h1 h2]
      exact q.bl
    · cases h
  · split at h
    · rename_i hc
      cases h
      obtain ⟨h1, h2, h3⟩ := inT hc
      obtain ⟨p, ws, rfl, hs, r⟩ := rp_fls' rb
      refine .inl (.inl ⟨_, _, dp_of ra h1, .inl (Dp.lst hs (dps_of r h2)), toD_plain h1, toDs_plain h2, by rw [toD_depth h1, toDs_depth h2]; exact h3, ?_⟩)
      rw [any_toDs h1 h2]
      exact q.bl
    · cases h
  · split at h
    · rename_i hc
      cases h
      obtain ⟨h1, h2, h3⟩ := inT hc
      obtain ⟨p, ws, rfl, hs, r⟩ := rp_fls' rb
      refine .inl (.inl ⟨_, _, dp_of ra h1, .inl (Dp.lst hs (dps_of r h2)), toD_plain h1, toDs_plain h2, by rw [toD_depth h1, toDs_depth h2]; exact h3, ?_⟩)
      rw [any_toDs h1 h2]
      exact q.bl
    · cases h
  all_goals first
    | (cases h; done)
    | (obtain ⟨c, ec, rfl⟩ := Option.map_eq_some_iff.mp h
       rw [rp_str' ra, rp_str' rb, oneC_eq ec]
       exact .inr ⟨c, _, rfl, rfl, q.bl⟩)
    | (cases h
       obtain ⟨d, kvs, G2, rfl, hd, hk, eG, r⟩ := rp_dct' rb
       first
         | (rw [rp_int' ra]
            refine .inl (.inr ⟨d, _, rfl, dget_int hd, ?_⟩)
            rw [← (valV_look _ hk.1 r).1]
            exact q.bl)
         | (rw [rp_str' ra]
            refine .inl (.inr ⟨d, _, rfl, dget_str hd, ?_⟩)
            rw [← (valV_look _ hk.1 r).1]
            exact q.bl))
end
end DI
set_option Elab.async false
set_option linter.all false
set_option maxRecDepth 100000
set_option maxHeartbeats 3200000
/-! DISet: set(xs) of a list of ints. -/
namespace DISet
open PySem PySem.Spec PyProof.Rows L2
variable {P : Program} {w : World} {A : Around} {E : Value → Shared → Prop} {s : Shared}
abbrev e0 (w : World) : Obj := { cls := .type "set", dict := none, data := .set #[] 0 (.fresh 0 0 (!w.params.followText "set-order")) }
abbrev g0 (w : World) (h : Heap) : Heap := h.push (e0 w)
theorem g0_at {h : Heap} : (g0 w h).get? h.objs.size = some (e0 w) := Heap.get?_push_size _ rfl
theorem g0_size {h : Heap} : (g0 w h).objs.size = h.objs.size + 1 := Heap.size_push ..
theorem ints_place {items : Array Value} {ns : List Int} (hit : IntsAre items.toList ns) (hz : items.size = ns.length) (i : Nat) (v : Value) (hv : items[i]? = some v) : ∃ k t, ns[i]? = some k ∧ v = .int k t := by
  have hi : i < ns.length := by
    have q := (Array.getElem?_eq_some_iff.mp hv).1
    omega
  obtain ⟨t, e⟩ := IntsAre.int_at hit i v (by simpa using hv)
  have en : ns[i]? = some ns[i] := List.getElem?_eq_getElem hi
  refine ⟨ns[i], t, en, ?_⟩
  rw [e]
  congr 1
  rw [List.getD_eq_getElem?_getD, en]
  rfl
/-- what is wanted behind set's own making and filling -/
abbrev Filled (w : World) (s : Shared) (ns : List Int) (s₂ : Shared) : Prop :=
  ∃ h' tk c, s₂ = { s with heap := h', toks := tk } ∧ SetR w h' s.heap.objs.size (fun j => decide (j ∈ ns)) c ∧ c ≤ ns.length ∧ ∀ b o, s.heap.get? b = some o → h'.get? b = some o
theorem fill_list {l : Addr} {items : Array Value} (ns : List Int) (hh : A.handled = none) (hl : s.heap.IsList l items) (hit : IntsAre items.toList ns) (hb : ns.length + 1 < scanBound) :
    wpAny (model P w) A (Builtin.«set.__init__» ⟨[.ref s.heap.objs.size, .ref l], []⟩) (fun f s₂ => f = .done (.ret .none) ∧ Filled w s ns s₂) E { s with heap := g0 w s.heap } := by
  have hz : items.size = ns.length := by
    have q := hit.length
    rwa [Array.length_toList] at q
  obtain ⟨ol, hol, hcl, nl, hdl⟩ := hl
  obtain ⟨ocls, odict, odata, oslots⟩ := ol
  simp only at hcl hdl
  subst hcl; subst hdl
  have ho1 : (g0 w s.heap).get? l = some { cls := .type "list", dict := odict, data := .seq items nl, slots := oslots } := Heap.get?_push_of_some _ hol
  have hT : Shared.TypeIs { s with heap := g0 w s.heap } (.ref s.heap.objs.size) "set" := ⟨_, g0_at, rfl⟩
  have n1 := F.sub_list_set
  have n2 := F.sub_list_frozenset
  have n3 : (Value.type "list" == Value.type "dict") = false := by decide
  have hl1 : (g0 w s.heap).IsList l items := ⟨_, ho1, rfl, nl, rfl⟩
  unfold Builtin.«set.__init__» noKeywords Builtin.Frozenset.updateFrom
  generalize hPI : pyIter = PI
  wp_walk
  subst hPI
  refine wpAny_pyIter_list hl1 ?_
  refine wpAny_bind (wpAny_runValue ?_)
  have lt : l < s.heap.objs.size := Heap.lt_size hol
  have ne1 : l ≠ (g0 w s.heap).objs.size := by
    rw [g0_size]; exact Nat.ne_of_lt (Nat.lt_succ_of_lt lt)
  have nf : s.heap.objs.size ∉ [(g0 w s.heap).objs.size, l] := by
    rw [g0_size]
    intro z
    rcases List.mem_cons.mp z with z | z
    · exact absurd z (Nat.ne_of_lt (Nat.lt_succ_self _))
    · exact absurd (List.mem_singleton.mp z) (Nat.ne_of_gt lt)
  refine set_update_ints ((Walks.list (by simp [hh]) _ l ne1 items).toS) s.heap.objs.size nf ns hz hb (ints_place hit hz) (items.size - 0) 0 _ (by omega) (Nat.zero_le _) ⟨⟨_, Heap.get?_push_size _ rfl, rfl, rfl⟩, hl1.push _⟩ ?mkFirst ?mkLast
  case mkFirst => exact ⟨0, Nat.le_refl 0, setR_new_at (Heap.get?_push_of_some _ g0_at)⟩
  case mkLast =>
    intro s' c hm hc hS
    obtain ⟨h', g2, d', tk', os'⟩ := s'
    obtain rfl : g2 = s.gens := hm.gens
    obtain rfl : d' = s.drawn := hm.drawn
    obtain rfl : os' = s.os := hm.os
    refine wpAny_pure ?_
    show wpAny _ _ (ret Value.none) _ _ _
    rw [hz] at hc
    refine wpAny_pure ⟨rfl, h', tk', c, rfl, hS, hc, fun b o e => ?_⟩
    have b0 : b < s.heap.objs.size := Heap.lt_size e
    refine hm.heap b o (fun z => ?_) (Heap.get?_push_of_some _ (Heap.get?_push_of_some _ e))
    rcases List.mem_cons.mp z with z | z
    · exact absurd z (Nat.ne_of_lt b0)
    · have z' := List.mem_singleton.mp z
      rw [g0_size] at z'
      exact absurd z' (Nat.ne_of_lt (Nat.lt_succ_of_lt b0))
theorem set_of_list {l : Addr} {items : Array Value} (ns : List Int) {Q : Value → Shared → Prop} (hh : A.handled = none) (hl : s.heap.IsList l items) (hit : IntsAre items.toList ns) (hb : ns.length + 1 < scanBound)
    (h : ∀ s₂, Filled w s ns s₂ → Q (.ref s.heap.objs.size) s₂) : wpAny (model P w) A (call (.type "set") [.ref l]) Q E s := by
  obtain ⟨c, tl, f0⟩ := F.called_set.mro
  have f1 := F.called_set.made
  have f2 := F.called_set.sub
  refine wpAny_call (codeAny_of_tree ?_)
  show wpAny _ _ (callAny (.type "set") _) _ _ _
  refine wpAny_pure ⟨Code.quiet_builtin _ (by decide +kernel), codeAny_builtin F.entry_type_call ?_⟩
  rw [Around.under_plain (weight_type_call_type "set" [.ref l] []) rfl]
  have f3 := F.called_set.notType
  have f4 := F.called_set.canCreate
  have f5 := F.typeCall_set_1 (.ref l)
  repeat (any_goals (first | assumption | wp_step))
  refine codeAny_mono (code_set_led1 (.ref l) (E := E) (Q₁ := fun obj s₁ => obj = .ref s.heap.objs.size ∧ s₁ = { s with heap := g0 w s.heap }) ⟨rfl, rfl⟩) fun r s₁ hr => ?_
  cases r with
  | error e => exact hr
  | ok fl =>
    cases fl with
    | ret obj =>
      obtain ⟨rfl, rfl⟩ := hr
      have hT : Shared.TypeIs { s with heap := g0 w s.heap } (.ref s.heap.objs.size) "set" := ⟨_, g0_at, rfl⟩
      have i1 := F.called_set.init.lookup
      have i2 := F.called_set.init.bind (.ref s.heap.objs.size)
      repeat (any_goals (first | assumption | wp_step))
      refine codeAny_mono (codeAny_call_builtin (R := wants (fun r s₂ => r = .none ∧ Filled w s ns s₂) E) F.called_set.init.plain F.entry_set_init (check_set_init_1 hT ?_)) fun r₂ s₂ hr₂ => ?_
      · refine wpAny_mono (fill_list (E := E) ns (by simp [hh]) hl hit hb) (fun f s₂ h₂ => ?_) (fun e s₂ h₂ => ?_)
        · obtain ⟨rfl, h₂⟩ := h₂
          exact ⟨rfl, h₂⟩
        · exact h₂
      · cases r₂ with
        | error e => exact hr₂
        | ok fl₂ =>
          cases fl₂ with
          | ret r =>
            obtain ⟨rfl, h₂⟩ := hr₂
            have h₃ := h _ h₂
            repeat (any_goals (first | assumption | wp_step))
          | _ => exact hr₂.elim
    | _ => exact hr.elim
end DISet
set_option Elab.async false
set_option linter.all false
set_option maxRecDepth 100000
set_option maxHeartbeats 1000000
/-! DIS4: subscripts, slices, truth, built-in functions, isinstance. -/
namespace DI
open PySem PySem.Spec PyProof.Rows L2

section
variable {X : Cx}
theorem ix_dictR (hu : X.A.units + 200 < cLine) : IxR X (fun x y H Q => ∃ a v, x = .ref a ∧ DGet H a y (some v) ∧ Q v H) := by
  intro value slice pins s σ H x y v u Q I rx ry h hs
  obtain ⟨a, w, rfl, g, q⟩ := h
  obtain rfl : v = Value.ref a := rx
  exact tail_any (dict_typeIs I g) slot_dict_getitem.lookup (d_getItem (by omega) I g ry fun w' s3 I3 rw' => ⟨w, H, I3, rw', q⟩) hs
def rIxP (K : PySem.W.Frag) : R2 := fun x y H Q => rIx K x y H Q ∨ ∃ a v, x = .ref a ∧ DGet H a y (some v) ∧ Q v H
theorem ixP (hu : X.A.units + 200 < cLine) : IxR X (rIxP X.K) := .or ix_seq (ix_dictR hu)
def rSlP (K : PySem.W.Frag) : V → Option Int → Option Int → Hp → VK → Prop := fun x lo hi H Q => (rSlA K x lo hi H Q ∨ rSlL K x lo hi H Q) ∨ rSlS x lo hi H Q
theorem slP : SlR X (rSlP X.K) := .or (.or sl_tupA sl_list) sl_str
end
section
variable {X : KX} {H H' : Hp}
theorem atI_rp {m : Bool} {vs : List PV} {ws : List V} {F : List Addr} {i : Int} {v : PV} (r : RpL m X H vs ws F) (h : atI vs i = some v) : ∃ w G, atI ws i = some w ∧ Rp m X H v w G ∧ ∀ b ∈ G, b ∈ F := by
  unfold atI at h ⊢
  rw [← r.length]
  cases e : ixN vs.length i with
  | none => rw [e] at h; cases h
  | some j =>
    rw [e] at h
    obtain ⟨w, F1, G, F2, h1, h2, h3, _, _⟩ := r.at (i := j) h
    exact ⟨w, G, h1, h3, fun b hb => by rw [h2]; exact List.mem_append_right _ (List.mem_append_left _ hb)⟩
theorem ix_ok {a k v : PV} {x y : V} {G G' : List Addr} {Q : VK} (h : ixI a k = some v) (ra : Rp false X H a x G) (rk : Rp false X H k y G') (q : ∀ w G1, Rp false X H v w G1 → (∀ b ∈ G1, b ∈ G) → Q w H) : rIxP X.K x y H Q := by
  unfold ixI at h
  split at h
  · obtain ⟨p, ws, rfl, hs, r⟩ := rp_tup' ra
    obtain ⟨w, G1, h1, h2, h3⟩ := atI_rp r h
    rw [rp_int' rk]
    exact .inl (.inr (.inl ⟨p, ws, _, w, rfl, rfl, hs, h1, q w G1 h2 h3⟩))
  · obtain ⟨p, ws, G2, rfl, hs, r⟩ := rp_lst' ra
    obtain ⟨w, G1, h1, h2, h3⟩ := atI_rp r h
    rw [rp_int' rk]
    exact .inl (.inl ⟨p, ws, _, w, rfl, rfl, hs.sq, h1, q w G1 h2 fun b hb => hs.sub b (h3 b hb)⟩)
  · split at h
    · rename_i hz
      cases e : atI (‹Str›.cps.toList) ‹Int› with
      | none => rw [e] at h; cases h
      | some c =>
        rw [e] at h
        cases h
        rw [rp_str' ra, rp_int' rk]
        exact .inl (.inr (.inr ⟨_, _, c, rfl, rfl, hz, e, q _ [] rp_str fun b hb => by cases hb⟩))
    · cases h
  · obtain ⟨d, kvs, G2, rfl, hd, hk, eG, r⟩ := rp_dct' ra
    obtain ⟨w, G1, h1, h2, h3⟩ := (valV_look _ hk.1 r).2 _ h
    rw [rp_int' rk]
    exact .inr ⟨d, w, rfl, by rw [← h1]; exact dget_int hd, q w G1 h2 fun b hb => by rw [eG]; exact List.mem_cons_of_mem _ (h3 b hb)⟩
  · obtain ⟨d, kvs, G2, rfl, hd, hk, eG, r⟩ := rp_dct' ra
    obtain ⟨w, G1, h1, h2, h3⟩ := (valV_look _ hk.1 r).2 _ h
    rw [rp_str' rk]
    exact .inr ⟨d, w, rfl, by rw [← h1]; exact dget_str hd, q w G1 h2 fun b hb => by rw [eG]; exact List.mem_cons_of_mem _ (h3 b hb)⟩
  · obtain ⟨p, ws, rfl, hs, r⟩ := rp_fls' ra
    obtain ⟨w, G1, h1, h2, h3⟩ := atI_rp r h
    rw [rp_int' rk]
    exact .inl (.inl ⟨p, ws, _, w, rfl, rfl, hs, h1, q w G1 h2 h3⟩)
  · cases h
theorem RpL.drop0 {m : Bool} : ∀ {vs : List PV} {ws : List V} (n : Nat), RpL m X H vs ws [] → RpL m X H (vs.drop n) (ws.drop n) []
  | _, _, 0, r => by simpa using r
  | [], ws, n + 1, r => by unfold RpL at r; rw [r.1]; simp; exact RpL.nil
  | v :: vs, ws, n + 1, r => by
    unfold RpL at r
    obtain ⟨w, ws', F1, F2, e, eF, r1, r2⟩ := r
    have : F1 = [] ∧ F2 = [] := by simpa using eF.symm
    rw [this.2] at r2
    subst e
    simpa using RpL.drop0 n r2
theorem RpL.take0 {m : Bool} : ∀ {vs : List PV} {ws : List V} (n : Nat), RpL m X H vs ws [] → RpL m X H (vs.take n) (ws.take n) []
  | _, _, 0, r => by simpa using RpL.nil
  | [], ws, n + 1, r => by unfold RpL at r; rw [r.1]; simp; exact RpL.nil
  | v :: vs, ws, n + 1, r => by
    unfold RpL at r
    obtain ⟨w, ws', F1, F2, e, eF, r1, r2⟩ := r
    have : F1 = [] ∧ F2 = [] := by simpa using eF.symm
    rw [this.2] at r2
    rw [this.1] at r1
    subst e
    simpa using RpL.cons r1 (RpL.take0 n r2)
theorem cut_rp {m : Bool} {vs : List PV} {ws : List V} {lo hi : Option Int} (r : RpL m X H vs ws []) : RpL m X H (cutP vs lo hi) (cutV ws lo hi) [] := by
  unfold cutP cutV
  rw [← r.length]
  exact (r.drop0 _).take0 _
theorem sl_ok (ok : X.Ok) {a v : PV} {l h' : Option Int} {x : V} {G : List Addr} {Q : VK} (h : slI a l h' = some v) (ra : Rp false X H a x G) (q : Gives X H v Q) : rSlP X.K x l h' H Q := by
  unfold slI at h
  split at h
  · split at h
    · rename_i hi
      cases h
      obtain ⟨p, ws, rfl, hs, r⟩ := rp_tup' ra
      obtain ⟨_, r⟩ := r.imm (m' := true) hi
      have rr := cut_rp (lo := l) (hi := h') r
      refine .inl (.inl ⟨p, ws, rfl, hs, fun hw => ?_, fun _ => q.tup ok rr⟩)
      have e : cutV ws l h' = ws := by
        unfold cutV
        rw [hw.1, hw.2]
        simp
      rw [e] at rr
      exact q.tupAt rr hs
    · cases h
  · split at h
    · rename_i hi
      cases h
      obtain ⟨p, ws, G1, rfl, hs, r⟩ := rp_lst' ra
      obtain ⟨_, r⟩ := r.imm (m' := true) hi
      exact .inl (.inr ⟨p, ws, rfl, hs.sq, q.lst ok (cut_rp r)⟩)
    · cases h
  · split at h
    · rename_i hz
      cases h
      rw [rp_str' ra]
      exact .inr ⟨_, rfl, hz, q.str⟩
    · cases h
  · cases h
/-- truth -/
theorem isEmpty_rp {m : Bool} {vs : List PV} {ws : List V} {F : List Addr} (r : RpL m X H vs ws F) : ws.isEmpty = vs.isEmpty := by
  have := r.length
  cases vs <;> cases ws <;> simp at this ⊢
theorem truth_ok {v : PV} {x : V} {G : List Addr} {b : Bool} (h : truthI v = some b) (r : Rp false X H v x G) : TruV X.K x H b := by
  cases v with
  | non => rw [rp_non' r]; cases h; rfl
  | bl c => rw [rp_bl' r]; cases h; rfl
  | int i => rw [rp_int' r]; cases h; rfl
  | str z =>
    rw [rp_str' r]
    have h : (if z.length ≤ sizeLine then some ((z.length : Int) != 0) else none) = some b := h
    by_cases hz : z.length ≤ sizeLine
    · rw [if_pos hz] at h
      cases h
      exact ⟨hz, rfl⟩
    · rw [if_neg hz] at h
      cases h
  | tup vs =>
    obtain ⟨p, ws, rfl, hs, r⟩ := rp_tup' r
    cases h
    exact .inr (.inl ⟨ws, hs, by rw [isEmpty_rp r]⟩)
  | lst vs =>
    obtain ⟨p, ws, G1, rfl, hs, r⟩ := rp_lst' r
    cases h
    exact .inl ⟨ws, hs.sq, by rw [isEmpty_rp r]⟩
  | dct ks vs =>
    obtain ⟨d, kvs, G2, rfl, hd, hk, eG, r⟩ := rp_dct' r
    cases h
    refine .inr (.inr ⟨kvs, hd, ?_⟩)
    rw [← hk.1]
    cases kvs <;> rfl
  | set vs => cases h
  | err c fs => cases h
  | fls vs => cases h

/-! ### built-in functions -/
end
section
variable {X : Cx}
/-- the value of a built-in name -/
def biV : BI → V
  | _ => .non
/-- set(xs) of ints -/
def rSetL (K : PySem.W.Frag) (w : World) : List V → Hp → VK → Prop := fun xs H Q => ∃ (a : Addr) (ns : List Int), xs = [.ref a] ∧ SqL K H a (ns.map V.int) ∧ ns.length ≤ 4000 ∧
  ∀ (p : Addr) (S : Int → Bool) (c : Nat), H p = none → (∀ k, S k = true ↔ k ∈ ns) → (∀ ds : List Int, ds.Nodup → (∀ k, k ∈ ds ↔ k ∈ ns) → c = ds.length) → Q (.ref p) (upd H p (SetO w p S c))
theorem cr_setL (hc : X.calm = true) : CallR X (.type "set") (rSetL X.K X.w) := by
  intro pins s σ H xs us Q I r h
  obtain ⟨a, ns, rfl, hs, hz, q⟩ := h
  obtain ⟨its, rv, pl, _⟩ := I.list hs
  rw [Vals.ref1 r]
  refine DISet.set_of_list ns (I.ok.hd hc) pl.isList (by simpa using rv.ints) (by unfold scanBound; omega) fun s₂ hf => ?_
  obtain ⟨h', tk, c, rfl, R, hcn, hk⟩ := hf
  have fresh : H s.heap.objs.size = none := I.hok.fresh (Nat.le_refl _)
  refine ⟨.ref s.heap.objs.size, _, I.laid (a := s.heap.objs.size) (o := SetO X.w s.heap.objs.size (fun j => decide (j ∈ ns)) c) hk (Nat.le_refl _) (setO_new R), rfl, q _ _ c fresh (fun k => by simp) fun ds hn hm => ?_⟩
  obtain ⟨o, es, ep, t, ho, hex, hd, _, nd, mem, _, _, hsz, _⟩ := R
  have pm : (es.toList.map keyOf).Perm ds := (List.perm_ext_iff_of_nodup nd hn).mpr fun k => by
    rw [hm, ← mem]
    simp
  have := pm.length_eq
  rw [List.length_map, Array.length_toList] at this
  omega
/-- sorted's and set's -/
theorem mxI_mem : ∀ {ns : List Int}, ns ≠ [] → mxI ns ∈ ns ∧ ∀ y ∈ ns, y ≤ mxI ns
  | [], h => absurd rfl h
  | [a], _ => by simp [mxI]
  | a :: b :: l, _ => by
    obtain ⟨h1, h2⟩ := mxI_mem (ns := b :: l) (by simp)
    show (if mxI (b :: l) < a then a else mxI (b :: l)) ∈ _ ∧ ∀ y ∈ _, y ≤ (if mxI (b :: l) < a then a else mxI (b :: l))
    split
    · rename_i hlt
      refine ⟨List.mem_cons_self, fun y hy => ?_⟩
      rcases List.mem_cons.mp hy with rfl | hy
      · exact Int.le_refl _
      · have := h2 y hy; omega
    · rename_i hlt
      refine ⟨List.mem_cons_of_mem _ h1, fun y hy => ?_⟩
      rcases List.mem_cons.mp hy with rfl | hy
      · omega
      · exact h2 y hy
theorem mnI_mem : ∀ {ns : List Int}, ns ≠ [] → mnI ns ∈ ns ∧ ∀ y ∈ ns, mnI ns ≤ y
  | [], h => absurd rfl h
  | [a], _ => by simp [mnI]
  | a :: b :: l, _ => by
    obtain ⟨h1, h2⟩ := mnI_mem (ns := b :: l) (by simp)
    show (if a < mnI (b :: l) then a else mnI (b :: l)) ∈ _ ∧ ∀ y ∈ _, (if a < mnI (b :: l) then a else mnI (b :: l)) ≤ y
    split
    · rename_i hlt
      refine ⟨List.mem_cons_self, fun y hy => ?_⟩
      rcases List.mem_cons.mp hy with rfl | hy
      · exact Int.le_refl _
      · have := h2 y hy; omega
    · rename_i hlt
      refine ⟨List.mem_cons_of_mem _ h1, fun y hy => ?_⟩
      rcases List.mem_cons.mp hy with rfl | hy
      · omega
      · exact h2 y hy
section
variable {prog : Program} {w : World} {A : Around} {E : Value → Shared → Prop} {s : Shared} {l : Addr} {xs : Array (Int × Tok)}
theorem iter_intTup {Q : Value → Shared → Prop} (hl : s.heap.IsTuple l (intItems xs))
    (h : ∀ s₂ : Shared, s₂ = { s with heap := s.heap.push { cls := .type "tuple_iterator", data := .fields #[.ref l, .int 0 0] } } →
      (s₂.heap.IsTupleIter s.heap.objs.size l 0 ∧ s₂.heap.IsTuple l (intItems xs)) → (∀ b ∈ [s.heap.objs.size, l], b < s₂.heap.objs.size) → l ≠ s.heap.objs.size → Q (.ref s.heap.objs.size) s₂) :
    wpAny (model prog w) A (pyIter (.ref l)) Q E s := by
  have hlt : l < s.heap.objs.size := by obtain ⟨_, e, _⟩ := hl; exact Heap.lt_size e
  refine wpAny_pyIter_tuple hl (h _ rfl ⟨⟨_, Heap.get?_push_size _ rfl, rfl, rfl⟩, hl.at fun o e => Heap.get?_push_of_some _ e⟩ (fun b hb => ?_) (Nat.ne_of_lt hlt))
  show b < (s.heap.push _).objs.size
  rw [Heap.size_push]
  rcases List.mem_cons.mp hb with rfl | hb
  · exact Nat.lt_succ_self _
  · rcases List.mem_cons.mp hb with rfl | hb
    · exact Nat.lt_succ_of_lt hlt
    · cases hb
theorem old_keptT {h' : Heap} (hk : ∀ b o, b ∉ [s.heap.objs.size] → (s.heap.push { cls := .type "tuple_iterator", data := .fields #[.ref l, .int 0 0] }).get? b = some o → h'.get? b = some o) :
    ∀ b o, s.heap.get? b = some o → h'.get? b = some o := fun b o e => by
  refine hk b o (fun hm => ?_) (Heap.get?_push_of_some _ e)
  rcases List.mem_cons.mp hm with e1 | hm
  · exact absurd (e1 ▸ Heap.lt_size e) (Nat.lt_irrefl _)
  · cases hm
theorem max_intTup {Q : Value → Shared → Prop} (hh : A.handled = none) (hl : s.heap.IsTuple l (intItems xs)) (hne : 0 < xs.size)
    (h : ∀ v h' tk, (intItems xs)[argBest (fun i j => decide (numAt xs i > numAt xs j)) (xs.size - 1)]? = some v → (∀ b o, s.heap.get? b = some o → h'.get? b = some o) → Q v { s with heap := h', toks := tk }) :
    wpAny (model prog w) A (call (.builtin "max") [.ref l]) Q E s := by
  refine call_max_walk (iter_intTup hl fun s₂ e st hfp hlI => ?_)
  subst e
  refine ⟨_, _, _, _, _, _, _, rfl, Walks.tuple (A := A.in1) hh _ l hlI (intItems xs), st, hfp, by simpa [intItems] using hne, CmpOf.ints_gt (numAt xs) (fun _ _ => intItems_at), fun v h' tk hP hk => ?_⟩
  exact h v h' tk (by simpa [intItems] using hP) (old_keptT hk)
theorem min_intTup {Q : Value → Shared → Prop} (hh : A.handled = none) (hl : s.heap.IsTuple l (intItems xs)) (hne : 0 < xs.size)
    (h : ∀ v h' tk, (intItems xs)[argBest (fun i j => decide (numAt xs i < numAt xs j)) (xs.size - 1)]? = some v → (∀ b o, s.heap.get? b = some o → h'.get? b = some o) → Q v { s with heap := h', toks := tk }) :
    wpAny (model prog w) A (call (.builtin "min") [.ref l]) Q E s := by
  refine call_min_walk (iter_intTup hl fun s₂ e st hfp hlI => ?_)
  subst e
  refine ⟨_, _, _, _, _, _, _, rfl, Walks.tuple (A := A.in1) hh _ l hlI (intItems xs), st, hfp, by simpa [intItems] using hne, CmpOf.ints_lt (numAt xs) (fun _ _ => intItems_at), fun v h' tk hP hk => ?_⟩
  exact h v h' tk (by simpa [intItems] using hP) (old_keptT hk)
variable {its : List Value} {ns : List Int} {Q : Value → Shared → Prop}
theorem max_rawT (hh : A.handled = none) (hl : s.heap.IsTuple l its.toArray) (hi : IntsAre its ns) (hne : 0 < ns.length)
    (h : ∀ h' tk M t', (∀ b o, s.heap.get? b = some o → h'.get? b = some o) → M ∈ ns → (∀ a, a ∈ ns → a ≤ M) → Q (.int M t') { s with heap := h', toks := tk }) : wpAny (model prog w) A (call (.builtin "max") [.ref l]) Q E s := by
  obtain ⟨xs, e⟩ := hi.allInts.items
  have hn : numsOf (intItems xs).toList = ns := by rw [← e]; exact hi.numsOf
  rw [nums_intItems] at hn
  subst hn
  rw [e] at hl
  have hsz : 0 < xs.size := by simpa using hne
  refine max_intTup hh hl hsz fun v h' tk hv hk => ?_
  obtain ⟨t, rfl⟩ := intItems_at hv
  obtain ⟨h1, h2⟩ := argBest_gt (numAt xs) (xs.size - 1)
  refine h h' tk _ t hk ?_ fun a ha => ?_
  · rw [numAt_eq]; exact PySem.getD_mem (by rw [List.length_map, Array.length_toList]; omega)
  · obtain ⟨j, hj, rfl⟩ := mem_getD ha
    rw [List.length_map, Array.length_toList] at hj
    rw [← numAt_eq]; exact h2 j (by omega)
theorem min_rawT (hh : A.handled = none) (hl : s.heap.IsTuple l its.toArray) (hi : IntsAre its ns) (hne : 0 < ns.length)
    (h : ∀ h' tk M t', (∀ b o, s.heap.get? b = some o → h'.get? b = some o) → M ∈ ns → (∀ a, a ∈ ns → M ≤ a) → Q (.int M t') { s with heap := h', toks := tk }) : wpAny (model prog w) A (call (.builtin "min") [.ref l]) Q E s := by
  obtain ⟨xs, e⟩ := hi.allInts.items
  have hn : numsOf (intItems xs).toList = ns := by rw [← e]; exact hi.numsOf
  rw [nums_intItems] at hn
  subst hn
  rw [e] at hl
  have hsz : 0 < xs.size := by simpa using hne
  refine min_intTup hh hl hsz fun v h' tk hv hk => ?_
  obtain ⟨t, rfl⟩ := intItems_at hv
  obtain ⟨h1, h2⟩ := argBest_lt (numAt xs) (xs.size - 1)
  refine h h' tk _ t hk ?_ fun a ha => ?_
  · rw [numAt_eq]; exact PySem.getD_mem (by rw [List.length_map, Array.length_toList]; omega)
  · obtain ⟨j, hj, rfl⟩ := mem_getD ha
    rw [List.length_map, Array.length_toList] at hj
    rw [← numAt_eq]; exact h2 j (by omega)
end
def rMaxT (K : PySem.W.Frag) : List V → Hp → VK → Prop := fun vs H Q => ∃ (a : Addr) (ns : List Int), vs = [V.ref a] ∧ SqT K H a (ns.map V.int) ∧ 0 < ns.length ∧ ∀ m, m ∈ ns → (∀ y, y ∈ ns → y ≤ m) → Q (.int m) H
def rMinT (K : PySem.W.Frag) : List V → Hp → VK → Prop := fun vs H Q => ∃ (a : Addr) (ns : List Int), vs = [V.ref a] ∧ SqT K H a (ns.map V.int) ∧ 0 < ns.length ∧ ∀ m, m ∈ ns → (∀ y, y ∈ ns → m ≤ y) → Q (.int m) H
theorem cr_maxT {X : Cx} (hc : X.calm = true) : CallR X (.builtin "max") (rMaxT X.K) := by
  intro pins s σ H vs us Q I r h
  obtain ⟨a, ns, rfl, hs, hne, q⟩ := h
  obtain ⟨its, rv, hl, _⟩ := I.tuple hs
  rw [Vals.ref1 r]
  exact max_rawT (I.ok.hd hc) (show s.heap.IsTuple a its.toArray from hl) rv.ints hne fun h' tk m t' hk h1 h2 => ⟨.int _, H, I.kept hk, ⟨_, rfl⟩, q m h1 h2⟩
theorem cr_minT {X : Cx} (hc : X.calm = true) : CallR X (.builtin "min") (rMinT X.K) := by
  intro pins s σ H vs us Q I r h
  obtain ⟨a, ns, rfl, hs, hne, q⟩ := h
  obtain ⟨its, rv, hl, _⟩ := I.tuple hs
  rw [Vals.ref1 r]
  exact min_rawT (I.ok.hd hc) (show s.heap.IsTuple a its.toArray from hl) rv.ints hne fun h' tk m t' hk h1 h2 => ⟨.int _, H, I.kept hk, ⟨_, rfl⟩, q m h1 h2⟩
def biR (K : PySem.W.Frag) (w : World) : BI → List V → Hp → VK → Prop
  | .len => fun xs H Q => (∃ p ys, xs = [.ref p] ∧ (SqL K H p ys ∨ SqT K H p ys) ∧ Q (.int ys.length) H) ∨ ((∃ z, xs = [.str z] ∧ z.length ≤ sizeLine ∧ Q (.int z.length) H) ∨ ∃ a kvs, xs = [V.ref a] ∧ H a = some (.dK kvs) ∧ Q (.int kvs.length) H)
  | .abs => fun xs H Q => ∃ i, xs = [.int i] ∧ Q (.int (if i < 0 then -i else i)) H
  | .int => fun xs H Q => (∃ i, xs = [.int i] ∧ Q (.int i) H) ∨ ∃ k, xs = [.bl k] ∧ Q (.int (if k then 1 else 0)) H
  | .bool => fun xs H Q => (∃ i, xs = [.int i] ∧ Q (.bl (i != 0)) H) ∨ ∃ k, xs = [.bl k] ∧ Q (.bl k) H
  | .str => fun xs H Q => (∃ i : Int, xs = [.int i] ∧ i.natAbs.log2 < 1920 ∧ Q (.str (toString i)) H) ∨ ∃ a, xs = [.str a] ∧ Q (.str a) H
  | .min => fun xs H Q => (∃ i j, xs = [.int i, .int j] ∧ Q (.int (if j < i then j else i)) H) ∨ (rMin K xs H Q ∨ rMinT K xs H Q)
  | .max => fun xs H Q => (∃ i j, xs = [.int i, .int j] ∧ Q (.int (if j > i then j else i)) H) ∨ (rMax K xs H Q ∨ rMaxT K xs H Q)
  | .tuple => fun xs H Q => ∃ p ys, xs = [.ref p] ∧ ((SqL K H p ys ∧ ∀ l, H l = none → Q (.ref l) (upd H l (.tup ys))) ∨ (SqT K H p ys ∧ Q (.ref p) H))
  | .list => fun xs H Q => ∃ p ys, xs = [.ref p] ∧ (SqL K H p ys ∨ SqT K H p ys) ∧ ∀ l, H l = none → Q (.ref l) (upd H l (.lst ys))
  | .sum => rSum K
  | .all => rAll K
  | .any => rAny K
  | .sorted => fun xs H Q => rSortedI K xs H Q ∨ rSortedSet w xs H Q
  | .set => rSetL K w
  | _ => fun _ _ _ => False
/-- a value that a built-in name holds -/
def biVal : BI → Value
  | .len => .builtin "len" | .abs => .builtin "abs" | .min => .builtin "min" | .max => .builtin "max" | .sum => .builtin "sum" | .all => .builtin "all" | .any => .builtin "any" | .sorted => .builtin "sorted"
  | .int => .type "int" | .str => .type "str" | .bool => .type "bool" | .tuple => .type "tuple" | .list => .type "list" | .set => .type "set" | .dict => .type "dict"
theorem bi_call (hc : X.calm = true) : ∀ f : BI, CallR X (biVal f) (biR X.K X.w f)
  | .len => .or call_len_seq (.or call_len_str call_lenD)
  | .abs => call_abs
  | .int => call_int1
  | .bool => call_bool1
  | .str => .or call_str_int SkE.call_str_str
  | .min => .or (call_min2 hc) (.or (cr_min hc) (cr_minT hc))
  | .max => .or (call_max2 hc) (.or (cr_max hc) (cr_maxT hc))
  | .tuple => call_tuple_of
  | .list => call_list_of
  | .sum => cr_sum hc
  | .all => cr_all hc
  | .any => cr_any hc
  | .sorted => .or cr_sortedI (cr_sortedSet hc)
  | .set => cr_setL hc
  | .dict => fun _ _ _ _ _ _ _ _ _ h => h.elim
end
/-! sortI sorts -/
theorem insI_perm (i : Int) : ∀ l : List Int, (insI i l).Perm (i :: l)
  | [] => .refl _
  | j :: r => by
    unfold insI
    split
    · exact .refl _
    · exact ((insI_perm i r).cons j).trans (.swap i j r)
theorem sortI_perm : ∀ l : List Int, (sortI l).Perm l
  | [] => .refl _
  | i :: r => (insI_perm i (sortI r)).trans ((sortI_perm r).cons i)
theorem dedI_mem (k : Int) : ∀ l : List Int, k ∈ dedI l ↔ k ∈ l
  | [] => Iff.rfl
  | i :: r => by
    unfold dedI
    split
    · rename_i h
      rw [dedI_mem k r]
      constructor
      · exact List.mem_cons_of_mem _
      · intro z
        rcases List.mem_cons.mp z with rfl | z
        · exact h
        · exact z
    · rw [List.mem_cons, List.mem_cons, dedI_mem k r]
theorem dedI_nodup : ∀ l : List Int, (dedI l).Nodup
  | [] => .nil
  | i :: r => by
    unfold dedI
    split
    · exact dedI_nodup r
    · rename_i h
      exact List.nodup_cons.mpr ⟨fun z => h ((dedI_mem i r).mp z), dedI_nodup r⟩
theorem intsI_map : ∀ l : List Int, intsI (l.map PV.int) = some l
  | [] => rfl
  | i :: r => by show (intsI (r.map PV.int)).map _ = _; rw [intsI_map r]; rfl
theorem intsI_eq : ∀ {vs : List PV} {ns : List Int}, intsI vs = some ns → vs = ns.map PV.int
  | [], ns, h => by cases h; rfl
  | v :: vs, ns, h => by
    cases v <;> simp [intsI] at h
    case int i =>
      obtain ⟨ms, h1, h2⟩ := h
      rw [← h2, intsI_eq h1]; rfl
theorem insI_sorted (i : Int) : ∀ l : List Int, l.Pairwise (· ≤ ·) → (insI i l).Pairwise (· ≤ ·)
  | [], _ => by simp [insI]
  | j :: r, h => by
    unfold insI
    have h' := List.pairwise_cons.mp h
    split
    · rename_i hij
      refine List.pairwise_cons.mpr ⟨fun b hb => ?_, h⟩
      rcases List.mem_cons.mp hb with rfl | hb
      · exact hij
      · have := h'.1 b hb; omega
    · rename_i hij
      refine List.pairwise_cons.mpr ⟨fun b hb => ?_, insI_sorted i r h'.2⟩
      rcases List.mem_cons.mp ((insI_perm i r).mem_iff.mp hb) with rfl | hb
      · omega
      · exact h'.1 b hb
theorem sortI_sorted : ∀ l : List Int, (sortI l).Pairwise (· ≤ ·)
  | [] => .nil
  | i :: r => insI_sorted i _ (sortI_sorted r)
theorem sorted_unique : ∀ {a b : List Int}, a.Perm b → a.Pairwise (· ≤ ·) → b.Pairwise (· ≤ ·) → a = b := fun {a b} p h1 h2 =>
  p.eq_of_pairwise (fun x y _ _ h h' => Int.le_antisymm h h') h1 h2
section
variable {X : KX} {H H' : Hp}
theorem rpl_ints {m : Bool} : ∀ ns : List Int, RpL m X H (ns.map PV.int) (ns.map V.int) []
  | [] => RpL.nil
  | n :: ns => RpL.cons (F := []) rp_int (rpl_ints ns)
theorem rpl1 {m : Bool} {v : PV} {ws : List V} {F : List Addr} (h : RpL m X H [v] ws F) : ∃ w, ws = [w] ∧ Rp m X H v w F := by
  unfold RpL at h
  obtain ⟨w, ws', F1, F2, e, eF, r1, r2⟩ := h
  unfold RpL at r2
  rw [r2.1] at e
  rw [r2.2, List.append_nil] at eF
  exact ⟨w, e, by rw [eF]; exact r1⟩
theorem rpl2 {m : Bool} {v u : PV} {ws : List V} {F : List Addr} (h : RpL m X H [v, u] ws F) : ∃ w z F1 F2, ws = [w, z] ∧ F = F1 ++ F2 ∧ Rp m X H v w F1 ∧ Rp m X H u z F2 := by
  unfold RpL at h
  obtain ⟨w, ws', F1, F2, e, eF, r1, r2⟩ := h
  obtain ⟨z, e2, r2⟩ := rpl1 r2
  rw [e2] at e
  exact ⟨w, z, F1, F2, e, eF, r1, r2⟩
theorem bi_ok (ok : X.Ok) {w : World} (hw : X.w = w) {f : BI} {vs : List PV} {v : PV} {ws : List V} {F : List Addr} {Q : VK} (h : biI f vs = some v) (r0 : RpL false X H vs ws F) (q : Gives X H v Q) : biR X.K w f ws H Q := by
  unfold biI at h
  split at h
  · cases h
    obtain ⟨x, rfl, r⟩ := rpl1 r0
    obtain ⟨p, zs, rfl, hs, r⟩ := rp_tup' r
    refine .inl ⟨p, zs, rfl, .inr hs, ?_⟩
    rw [← r.length]; exact q.int
  · cases h
    obtain ⟨x, rfl, r⟩ := rpl1 r0
    obtain ⟨p, zs, G1, rfl, hs, r⟩ := rp_lst' r
    refine .inl ⟨p, zs, rfl, .inl hs.sq, ?_⟩
    rw [← r.length]; exact q.int
  · cases h
    obtain ⟨x, rfl, r⟩ := rpl1 r0
    obtain ⟨p, zs, rfl, hs, r⟩ := rp_fls' r
    refine .inl ⟨p, zs, rfl, .inl hs, ?_⟩
    rw [← r.length]; exact q.int
  · cases h
    obtain ⟨x, rfl, r⟩ := rpl1 r0
    obtain ⟨d, kvs, G2, rfl, hd, hk, eG, r⟩ := rp_dct' r
    refine .inr (.inr ⟨d, kvs, rfl, hd, ?_⟩)
    rw [← hk.1, List.length_map] at q
    exact q.int
  · split at h
    · rename_i hz
      cases h
      obtain ⟨x, rfl, r⟩ := rpl1 r0
      rw [rp_str' r]
      exact .inr (.inl ⟨_, rfl, hz, q.int⟩)
    · cases h
  · cases h
    obtain ⟨x, rfl, r⟩ := rpl1 r0
    rw [rp_int' r]
    exact ⟨_, rfl, q.int⟩
  · cases h
    obtain ⟨x, rfl, r⟩ := rpl1 r0
    rw [rp_int' r]
    exact .inl ⟨_, rfl, q.int⟩
  · cases h
    obtain ⟨x, rfl, r⟩ := rpl1 r0
    rw [rp_bl' r]
    exact .inr ⟨_, rfl, q.int⟩
  · cases h
    obtain ⟨x, rfl, r⟩ := rpl1 r0
    rw [rp_int' r]
    exact .inl ⟨_, rfl, q.bl⟩
  · cases h
    obtain ⟨x, rfl, r⟩ := rpl1 r0
    rw [rp_bl' r]
    exact .inr ⟨_, rfl, q.bl⟩
  · split at h
    · rename_i hz
      cases h
      obtain ⟨x, rfl, r⟩ := rpl1 r0
      rw [rp_int' r]
      exact .inl ⟨_, rfl, hz, q.str⟩
    · cases h
  · cases h
    obtain ⟨x, rfl, r⟩ := rpl1 r0
    rw [rp_str' r]
    exact .inr ⟨_, rfl, q.str⟩
  · cases h
    obtain ⟨x, y, F1, F2, rfl, eF, r1, r2⟩ := rpl2 r0
    rw [rp_int' r1, rp_int' r2]
    exact .inl ⟨_, _, rfl, q.int⟩
  · cases h
    obtain ⟨x, y, F1, F2, rfl, eF, r1, r2⟩ := rpl2 r0
    rw [rp_int' r1, rp_int' r2]
    exact .inl ⟨_, _, rfl, q.int⟩
  · split at h
    · rename_i hi
      cases h
      obtain ⟨x, rfl, r⟩ := rpl1 r0
      obtain ⟨p, zs, rfl, hs, r⟩ := rp_tup' r
      obtain ⟨_, r⟩ := r.imm (m' := true) hi
      exact ⟨p, zs, rfl, .inr ⟨hs, q.tupAt r hs⟩⟩
    · cases h
  · split at h
    · rename_i hi
      cases h
      obtain ⟨x, rfl, r⟩ := rpl1 r0
      obtain ⟨p, zs, G1, rfl, hs, r⟩ := rp_lst' r
      obtain ⟨_, r⟩ := r.imm (m' := true) hi
      exact ⟨p, zs, rfl, .inl ⟨hs.sq, q.tup ok r⟩⟩
    · cases h
  · split at h
    · rename_i hi
      cases h
      obtain ⟨x, rfl, r⟩ := rpl1 r0
      obtain ⟨p, zs, rfl, hs, r⟩ := rp_tup' r
      obtain ⟨_, r⟩ := r.imm (m' := true) hi
      exact ⟨p, zs, rfl, .inr hs, q.lst ok r⟩
    · cases h
  · split at h
    · rename_i hi
      cases h
      obtain ⟨x, rfl, r⟩ := rpl1 r0
      obtain ⟨p, zs, G1, rfl, hs, r⟩ := rp_lst' r
      obtain ⟨_, r⟩ := r.imm (m' := true) hi
      exact ⟨p, zs, rfl, .inl hs.sq, q.lst ok r⟩
    · cases h
  · obtain ⟨x, rfl, r⟩ := rpl1 r0
    obtain ⟨p, zs, G1, rfl, hs, r⟩ := rp_lst' r
    cases e : intsI ‹List PV› with
    | none => rw [e] at h; cases h
    | some ns =>
      rw [e] at h
      cases h
      obtain ⟨ez, _⟩ := r.ints e
      exact ⟨p, ns, rfl, by rw [← ez]; exact hs.sq, q.int⟩
  · obtain ⟨x, rfl, r⟩ := rpl1 r0
    obtain ⟨p, zs, G1, rfl, hs, r⟩ := rp_lst' r
    cases e : blsI ‹List PV› with
    | none => rw [e] at h; cases h
    | some ns =>
      rw [e] at h
      cases h
      obtain ⟨ez, _⟩ := r.bls e
      exact ⟨p, ns, rfl, by rw [← ez]; exact hs.sq, q.bl⟩
  · obtain ⟨x, rfl, r⟩ := rpl1 r0
    obtain ⟨p, zs, G1, rfl, hs, r⟩ := rp_lst' r
    cases e : blsI ‹List PV› with
    | none => rw [e] at h; cases h
    | some ns =>
      rw [e] at h
      cases h
      obtain ⟨ez, _⟩ := r.bls e
      exact ⟨p, ns, rfl, by rw [← ez]; exact hs.sq, q.bl⟩
  · obtain ⟨x, rfl, r⟩ := rpl1 r0
    obtain ⟨p, zs, G1, rfl, hs, r⟩ := rp_lst' r
    cases e : intsI ‹List PV› with
    | none => rw [e] at h; cases h
    | some ns =>
      rw [e] at h
      simp only [Option.bind_some] at h
      split at h
      · rename_i hz
        cases h
        obtain ⟨ez, _⟩ := r.ints e
        refine ⟨p, ns, rfl, by rw [← ez]; exact hs.sq, hz, fun a S c ha hS hc => ?_⟩
        have ec := hc (dedI ns) (dedI_nodup ns) (fun k => dedI_mem k ns)
        subst ec
        refine q _ [a] _ ⟨same_upd ha, ?_, by simp, fun b hb => ?_⟩
        · unfold Rp
          exact ⟨a, rfl, ⟨dedI ns, S, intsI_map _, dedI_nodup ns, fun k => by rw [hS, dedI_mem], by rw [← hw]; exact upd_same⟩, rfl⟩
        · have : b = a := by simpa using hb
          rw [this]; exact ha
      · cases h
  · obtain ⟨x, rfl, r⟩ := rpl1 r0
    obtain ⟨p, zs, G1, rfl, hs, r⟩ := rp_lst' r
    cases e : intsI ‹List PV› with
    | none => rw [e] at h; cases h
    | some ns =>
      rw [e] at h
      cases h
      obtain ⟨ez, _⟩ := r.ints e
      refine .inl ⟨p, ns, rfl, by rw [← ez]; exact hs.sq, fun ns' l hp hq hl => ?_⟩
      have en : ns' = sortI ns := sorted_unique (hp.trans (sortI_perm ns).symm) hq (sortI_sorted ns)
      rw [en]
      exact q.lst ok (rpl_ints _) l hl
  · obtain ⟨x, rfl, r⟩ := rpl1 r0
    unfold Rp at r
    obtain ⟨p, rfl, ⟨ns, S, h1, h2, h3, h4⟩, eF⟩ := r
    rw [h1] at h
    simp only [Option.bind_some] at h
    split at h
    · rename_i hz
      cases h
      rw [hw] at h4
      refine .inr ⟨p, S, ns.length, rfl, h4, hz, fun ns' l hp hm hl hn => ?_⟩
      have nd' : ns'.Nodup := hp.imp fun h => Int.ne_of_lt h
      have pm : ns'.Perm ns := (List.perm_ext_iff_of_nodup nd' h2).mpr fun k => by rw [hm, h3]
      have en : ns' = sortI ns := sorted_unique (pm.trans (sortI_perm ns).symm) (hp.imp fun h => Int.le_of_lt h) (sortI_sorted ns)
      rw [en]
      exact q.lst ok (rpl_ints _) l hn
    · cases h
  · obtain ⟨x, rfl, r⟩ := rpl1 r0
    obtain ⟨p, zs, rfl, hs, r⟩ := rp_tup' r
    cases e : intsI ‹List PV› with
    | none => rw [e] at h; cases h
    | some ns =>
      rw [e] at h
      simp only [Option.bind_some, mxO] at h
      split at h
      · cases h
      · rename_i hz
        cases h
        obtain ⟨ez, _⟩ := r.ints e
        have hne : ns ≠ [] := fun z => by rw [z] at hz; exact hz rfl
        refine .inr (.inr ⟨p, ns, rfl, by rw [← ez]; exact hs, List.length_pos_iff.mpr hne, fun m h1 h2 => ?_⟩)
        obtain ⟨g1, g2⟩ := mxI_mem hne
        have em : m = mxI ns := Int.le_antisymm (g2 m h1) (h2 _ g1)
        rw [em]
        exact q.int
  · obtain ⟨x, rfl, r⟩ := rpl1 r0
    obtain ⟨p, zs, G1, rfl, hs, r⟩ := rp_lst' r
    cases e : intsI ‹List PV› with
    | none => rw [e] at h; cases h
    | some ns =>
      rw [e] at h
      simp only [Option.bind_some, mxO] at h
      split at h
      · cases h
      · rename_i hz
        cases h
        obtain ⟨ez, _⟩ := r.ints e
        have hne : ns ≠ [] := fun z => by rw [z] at hz; exact hz rfl
        refine .inr (.inl ⟨p, ns, rfl, by rw [← ez]; exact hs.sq, List.length_pos_iff.mpr hne, fun m h1 h2 => ?_⟩)
        obtain ⟨g1, g2⟩ := mxI_mem hne
        have em : m = mxI ns := Int.le_antisymm (g2 m h1) (h2 _ g1)
        rw [em]
        exact q.int
  · obtain ⟨x, rfl, r⟩ := rpl1 r0
    obtain ⟨p, zs, rfl, hs, r⟩ := rp_tup' r
    cases e : intsI ‹List PV› with
    | none => rw [e] at h; cases h
    | some ns =>
      rw [e] at h
      simp only [Option.bind_some, mnO] at h
      split at h
      · cases h
      · rename_i hz
        cases h
        obtain ⟨ez, _⟩ := r.ints e
        have hne : ns ≠ [] := fun z => by rw [z] at hz; exact hz rfl
        refine .inr (.inr ⟨p, ns, rfl, by rw [← ez]; exact hs, List.length_pos_iff.mpr hne, fun m h1 h2 => ?_⟩)
        obtain ⟨g1, g2⟩ := mnI_mem hne
        have em : m = mnI ns := Int.le_antisymm (h2 _ g1) (g2 m h1)
        rw [em]
        exact q.int
  · obtain ⟨x, rfl, r⟩ := rpl1 r0
    obtain ⟨p, zs, G1, rfl, hs, r⟩ := rp_lst' r
    cases e : intsI ‹List PV› with
    | none => rw [e] at h; cases h
    | some ns =>
      rw [e] at h
      simp only [Option.bind_some, mnO] at h
      split at h
      · cases h
      · rename_i hz
        cases h
        obtain ⟨ez, _⟩ := r.ints e
        have hne : ns ≠ [] := fun z => by rw [z] at hz; exact hz rfl
        refine .inr (.inl ⟨p, ns, rfl, by rw [← ez]; exact hs.sq, List.length_pos_iff.mpr hne, fun m h1 h2 => ?_⟩)
        obtain ⟨g1, g2⟩ := mnI_mem hne
        have em : m = mnI ns := Int.le_antisymm (h2 _ g1) (g2 m h1)
        rw [em]
        exact q.int
  · cases h
end
end DI
set_option Elab.async false
set_option linter.all false
set_option maxRecDepth 100000
set_option maxHeartbeats 1000000
/-! DIS5: the readings of expressions. -/
namespace DI
open PySem PySem.Spec PyProof.Rows L2

section
variable {Y : Cz} {σ : St} {env env' env1 env2 : PEnv} {fp fp1 fp2 : Nat → List Addr} {H H1 H2 : Hp}
theorem RdB.mono {e : E} {Q Q' : VK} (h : RdB Y e σ H Q) (k : ∀ w H', Q w H' → Q' w H') : RdB Y e σ H Q' := by
  obtain ⟨env, fp, S, h⟩ := h
  exact ⟨env, fp, S, h.imp fun r env' q w H' fp' P => k w H' (q w H' fp' P)⟩
/-- a value met before stands behind a later step -/
theorem Post.keepS (ok : Y.X.Ok) {e1 : E} {r1 : PV × Bool} {w1 : V} {q2 : Bool} (P1 : Post Y.X σ fp H e1 r1 env1 w1 H1 fp1) (t : Stp fp1 H1 fp2 H2) (hs : q2 = true → Same H1 H2) (hc : (r1.1.imm || r1.2 || q2) = true) : ∃ G, Rp false Y.X H2 r1.1 w1 G := by
  have fx := t.fix P1.sim
  rcases Bool.or_eq_true _ _ ▸ hc with hc | hc
  · rcases Bool.or_eq_true _ _ ▸ hc with hc | hc
    · obtain ⟨G, vb⟩ := P1.vb
      exact ⟨[], ((vb.rp.imm (m' := false) hc).2).fix ok fx fun _ hb => by cases hb⟩
    · obtain ⟨F, vo⟩ := P1.vo hc
      exact ⟨F, vo.rp.weak.fix ok fx fun b hb o ho => t.frm b o ho fun i hi => vo.dis b hb i hi⟩
  · obtain ⟨G, vb⟩ := P1.vb
    exact ⟨G, vb.rp.fix ok fx fun b hb o ho => hs hc b o ho⟩
theorem Post.keep (ok : Y.X.Ok) {e1 e2 : E} {r1 r2 : PV × Bool} {w1 w2 : V} (P1 : Post Y.X σ fp H e1 r1 env1 w1 H1 fp1) (P2 : Post Y.X σ fp1 H1 e2 r2 env2 w2 H2 fp2) (hc : (r1.1.imm || r1.2 || e2.quiet) = true) : ∃ G, Rp false Y.X H2 r1.1 w1 G :=
  P1.keepS ok P2.stp P2.same hc
theorem gives_of (ok : Y.X.Ok) {e : E} {v : PV} {Q : VK} (S : Sim Y.X env1 σ H1 fp1) (t : Stp fp H fp1 H1) (hq : e.quiet = true → Same H H1) (hm : e.quiet = true → ∀ i b, b ∈ fp1 i → b ∈ fp i) (hv : ∀ i, e ≠ .var i)
    (h : ∀ w H' fp', Post Y.X σ fp H e (v, true) env1 w H' fp' → Q w H') : Gives Y.X H1 v Q := fun w F H' n => h w H' fp1 (n.post ok S t hq hm hv)
theorem map_true {o : Option PV} {r : PV × Bool} (h : (o.map fun v => (v, true)) = some r) : ∃ v, o = some v ∧ r = (v, true) := by
  cases o with
  | none => cases h
  | some v => exact ⟨v, rfl, (Option.some.inj h).symm⟩
theorem and_l {a b : Bool} (h : (a && b) = true) : a = true := (Bool.and_eq_true_iff.mp h).1
theorem and_r {a b : Bool} (h : (a && b) = true) : b = true := (Bool.and_eq_true_iff.mp h).2
/-- two operands -/
theorem rd_two (ok : Y.X.Ok) {a b e : E} {f : PV → PV → Option PV} {Q : VK} (S : Sim Y.X env σ H fp) (hq : e.quiet = true → a.quiet = true ∧ b.quiet = true) (hv : ∀ i, e ≠ .var i)
    (h : Hold Y σ fp H (two (evB Y.p Y.cf a env) b.quiet (evB Y.p Y.cf b) f) fun r env' => ∀ w H' fp', Post Y.X σ fp H e r env' w H' fp' → Q w H') :
    RdB Y a σ H fun x H1 => RdB Y b σ H1 fun y H2 => ∃ va vb v G G', f va vb = some v ∧ Rp false Y.X H2 va x G ∧ Rp false Y.X H2 vb y G' ∧ Gives Y.X H2 v Q := by
  refine ⟨env, fp, S, h.bind.imp fun ra env1 hra w1 H1 fp1 P1 => ?_⟩
  obtain ⟨hc, hra⟩ := hra.ite
  refine ⟨env1, fp1, P1.sim, (hra.adv P1.stp).bind.imp fun rb env2 hrb w2 H2 fp2 P2 => ?_⟩
  obtain ⟨r, er, hΦ⟩ := hrb.opt
  obtain ⟨v, ev, rfl⟩ := map_true er
  obtain ⟨G, rp1⟩ := P1.keep ok P2 hc
  obtain ⟨G', vb⟩ := P2.vb
  exact ⟨_, _, v, G, G', ev, rp1, vb.rp, gives_of ok P2.sim (P1.stp.trans P2.stp) (fun e => same_trans (P1.same (hq e).1) (P2.same (hq e).2)) (fun e i b hb => P1.mono (hq e).1 i b (P2.mono (hq e).2 i b hb)) hv hΦ⟩
/-- one operand -/
theorem rd_one (ok : Y.X.Ok) {a e : E} {f : PV → Option PV} {Q : VK} (S : Sim Y.X env σ H fp) (hq : e.quiet = true → a.quiet = true) (hv : ∀ i, e ≠ .var i)
    (h : Hold Y σ fp H ((evB Y.p Y.cf a env).bind fun v env => opt ((f v.1).map fun v => (v, true)) env) fun r env' => ∀ w H' fp', Post Y.X σ fp H e r env' w H' fp' → Q w H') :
    RdB Y a σ H fun x H1 => ∃ va v G, f va = some v ∧ Rp false Y.X H1 va x G ∧ Gives Y.X H1 v Q := by
  refine ⟨env, fp, S, h.bind.imp fun ra env1 hra w1 H1 fp1 P1 => ?_⟩
  obtain ⟨r, er, hΦ⟩ := hra.opt
  obtain ⟨v, ev, rfl⟩ := map_true er
  obtain ⟨G, vb⟩ := P1.vb
  exact ⟨_, v, G, ev, vb.rp, gives_of ok P1.sim P1.stp (fun z => P1.same (hq z)) (fun z => P1.mono (hq z)) hv hΦ⟩
end

structure Ok0 (Y : Cz) (X : Cx) : Prop where
  ok : Y.X.Ok
  K : Y.X.K = X.K
  w : Y.X.w = X.w
  hu : X.A.units + 200 < cLine
section
variable {Y : Cz} {X : Cx} {a b c : Expr} {ea eb ec : E} {pos : Pos}
theorem pe_cint (O : Ok0 Y X) {i : Int} {j : Nat} : PE X (.Constant (.int i) j pos) (RdB Y (.int i)) := PE.mono pe_int (rd_const O.ok (fun _ h => nomatch h) (fun _ => by unfold evB; rfl) fun _ => rp_int)
theorem pe_cstr (O : Ok0 Y X) {i : Str} {j : Nat} : PE X (.Constant (.str i) j pos) (RdB Y (.str i)) := PE.mono pe_str (rd_const O.ok (fun _ h => nomatch h) (fun _ => by unfold evB; rfl) fun _ => rp_str)
theorem pe_cbl (O : Ok0 Y X) {i : Bool} {j : Nat} : PE X (.Constant (.bool i) j pos) (RdB Y (.bl i)) := PE.mono pe_bl (rd_const O.ok (fun _ h => nomatch h) (fun _ => by unfold evB; rfl) fun _ => rp_bl)
theorem pe_cnon (O : Ok0 Y X) {j : Nat} : PE X (.Constant .none j pos) (RdB Y .non) := PE.mono pe_non (rd_const O.ok (fun _ h => nomatch h) (fun _ => by unfold evB; rfl) fun _ => rp_non)
theorem pe_v {i : Nat} {x : Str} (hN : X.N[i]? = some x) (hv : Vis X.env.scope x) (hd : (x == ("__debug__" : Str)) = false) (hcd : (x == ("__classdict__" : Str)) = false) : PE X (.Name x pos) (RdB Y (.var i)) := PE.mono (pe_var hN hv hd hcd) rd_var
theorem pe_g (O : Ok0 Y X) {x : Str} {v : PV} {w : V} {u : Value} (hg : Gl X x) (hm : X.mg x = some u) (r : RelV w u) (hp : Y.p.globs.lookup x = some v) (hr : ∀ H, Rp true Y.X H v w []) (hd : (x == ("__debug__" : Str)) = false) : PE X (.Name x pos) (RdB Y (.glob x)) :=
  PE.mono (pe_glob hg hm r hd) (rd_const O.ok (fun _ h => nomatch h) (fun _ => by unfold evB; rw [hp]) hr)
theorem pe_bin (O : Ok0 Y X) {op : Operator} (ha : PE X a (RdB Y ea)) (hb : PE X b (RdB Y eb)) : PE X (.BinOp a op b pos) (RdB Y (.bin op ea eb)) := by
  refine PE.mono (pe_op (op_bin op) ha hb) fun σ H Q ⟨env, fp, S, h⟩ => ?_
  unfold evB at h
  refine (rd_two (e := .bin op ea eb) O.ok S (fun e => ⟨and_l e, and_r e⟩) (fun _ h => nomatch h) h).mono fun x H1 h1 => h1.mono fun y H2 ⟨va, vb, v, G, G', e, r1, r2, g⟩ => ?_
  rw [← O.K]
  exact bin_ok O.ok e r1 r2 g
theorem mark_ok {op : CmpOp} (h : ∀ es k p, b ≠ .Set es k p) : behindInMarks op b = false := by
  cases b <;> first | rfl | exact absurd rfl (h _ _ _)
theorem pe_cmp' (O : Ok0 Y X) {op : CmpOp} (ha : PE X a (RdB Y ea)) (hb : PE X b (RdB Y eb)) (hs : ∀ es k p, b ≠ .Set es k p) : PE X (.Compare a [op] [b] pos) (RdB Y (.cmp op ea eb)) := by
  refine PE.mono (pe_cmpR (op_cmp O.hu op) ha hb (mark_ok hs)) fun σ H Q ⟨env, fp, S, h⟩ => ?_
  unfold evB at h
  refine (rd_two (e := .cmp op ea eb) O.ok S (fun e => ⟨and_l e, and_r e⟩) (fun _ h => nomatch h) h).mono fun x H1 h1 => h1.mono fun y H2 ⟨va, vb, v, G, G', e, r1, r2, g⟩ => ?_
  rw [← O.K]
  exact cmp_ok e r1 r2 g
/-- isinstance of what is None -/
theorem rp_isN {m : Bool} {X : KX} {H : Hp} {v : PV} {w : V} {G : List Addr} (r : Rp m X H v w G) : decide (w = .non) = v.isNon := by
  cases v with
  | non => rw [rp_non' r]; rfl
  | bl _ => rw [rp_bl' r]; rfl
  | int _ => rw [rp_int' r]; rfl
  | str _ => rw [rp_str' r]; rfl
  | tup _ => obtain ⟨_, _, e, _⟩ := rp_tup' r; rw [e]; rfl
  | lst _ => obtain ⟨_, _, _, e, _⟩ := rp_lst' r; rw [e]; rfl
  | dct _ _ => obtain ⟨_, _, _, e, _⟩ := rp_dct' r; rw [e]; rfl
  | set _ => unfold Rp at r; obtain ⟨_, e, _⟩ := r; rw [e]; rfl
  | err _ _ => unfold Rp at r; obtain ⟨_, _, e, _⟩ := r; rw [e]; rfl
  | fls _ => obtain ⟨_, _, e, _⟩ := rp_fls' r; rw [e]; rfl
theorem pe_isN (O : Ok0 Y X) {j : Nat} {p' : Pos} (ha : PE X a (RdB Y ea)) : PE X (.Compare a [.Is] [.Constant .none j p'] pos) (RdB Y (.isN ea)) := by
  refine PE.mono (pe_cmp (pc_isN ha)) fun σ H Q ⟨env, fp, S, h⟩ => ?_
  unfold evB at h
  refine (rd_one (a := ea) (e := .isN ea) (f := fun v => some (.bl v.isNon)) O.ok S (fun e => e) (fun _ h => nomatch h) h).mono fun x H1 ⟨va, v, G, e, r, g⟩ => ?_
  cases e
  rw [rp_isN r]
  exact g.bl
theorem pe_isNN (O : Ok0 Y X) {j : Nat} {p' : Pos} (ha : PE X a (RdB Y ea)) : PE X (.Compare a [.IsNot] [.Constant .none j p'] pos) (RdB Y (.isNN ea)) := by
  refine PE.mono (pe_cmp (pc_notN ha)) fun σ H Q ⟨env, fp, S, h⟩ => ?_
  unfold evB at h
  refine (rd_one (a := ea) (e := .isNN ea) (f := fun v => some (.bl (!v.isNon))) O.ok S (fun e => e) (fun _ h => nomatch h) h).mono fun x H1 ⟨va, v, G, e, r, g⟩ => ?_
  cases e
  rw [rp_isN r]
  exact g.bl
theorem pe_neg (O : Ok0 Y X) (ha : PE X a (RdB Y ea)) : PE X (.UnaryOp .USub a pos) (RdB Y (.neg ea)) := by
  refine PE.mono (pe_un un_neg ha) fun σ H Q ⟨env, fp, S, h⟩ => ?_
  unfold evB at h
  refine ⟨env, fp, S, h.bind.imp fun ra env1 hra w1 H1 fp1 P1 => ?_⟩
  obtain ⟨G, vb⟩ := P1.vb
  obtain ⟨v, fr⟩ := ra
  cases v <;> first | exact hra.elim | skip
  rename_i i
  have e : w1 = .int i := rp_int' vb.rp
  exact ⟨i, e, (gives_of (e := .neg ea) O.ok P1.sim P1.stp (fun z => P1.same z) (fun z => P1.mono z) (fun _ h => nomatch h) hra).int⟩
theorem pe_not' (O : Ok0 Y X) (ha : PE X a (RdB Y ea)) : PE X (.UnaryOp .Not a pos) (RdB Y (.not ea)) := by
  refine PE.mono (pe_notT ha) fun σ H Q ⟨env, fp, S, h⟩ => ?_
  unfold evB at h
  refine ⟨env, fp, S, h.bind.imp fun ra env1 hra w1 H1 fp1 P1 => ?_⟩
  obtain ⟨r, er, hΦ⟩ := hra.opt
  cases et : truthI ra.1 with
  | none => rw [et] at er; cases er
  | some t =>
    rw [et] at er
    cases er
    obtain ⟨G, vb⟩ := P1.vb
    refine ⟨t, by rw [← O.K]; exact truth_ok et vb.rp, (gives_of (e := .not ea) O.ok P1.sim P1.stp (fun z => P1.same z) (fun z => P1.mono z) (fun _ h => nomatch h) hΦ).bl⟩
end
end DI
set_option Elab.async false
set_option linter.all false
set_option maxRecDepth 100000
set_option maxHeartbeats 1000000
/-! DIS6: subscripts, slices, and, or, if, displays, built-in calls. -/
namespace DI
open PySem PySem.Spec PyProof.Rows L2

section
variable {Y : Cz} {σ : St} {env env' env1 env2 : PEnv} {fp fp1 fp2 : Nat → List Addr} {H H1 H2 : Hp}
/-- a slot's part given away -/
def cl (fp : Nat → List Addr) (i : Nat) : Nat → List Addr := fun j => if j = i then [] else fp j
theorem cl_sub {fp : Nat → List Addr} {i j : Nat} {b : Addr} (h : b ∈ cl fp i j) : j ≠ i ∧ b ∈ fp j := by
  unfold cl at h
  by_cases e : j = i
  · rw [if_pos e] at h; cases h
  · rw [if_neg e] at h; exact ⟨e, h⟩
theorem getM_set_un {env : PEnv} {i j : Nat} : getM (env.set i .un) j = if j = i then none else getM env j := by
  unfold getM
  by_cases e : j = i
  · subst e
    rw [if_pos rfl]
    by_cases h : j < env.length
    · rw [List.getElem?_set_self h]
    · rw [List.getElem?_eq_none (by simpa using h)]
  · rw [if_neg e, List.getElem?_set_ne (Ne.symm e)]
theorem Sim.clear {X : KX} (S : Sim X env σ H fp) (i : Nat) (hf : ∀ s, env[i]? = some s → s.fix = false) : Sim X (env.set i .un) σ H (cl fp i) := by
  refine ⟨by rw [List.length_set]; exact S.len, fun j v h => ?_, fun j h => ?_, fun j k v h => ?_, S.qz, fun j k b h1 h2 => S.dis j k b (cl_sub h1).2 (cl_sub h2).2, fun j => ?_, fun j b hb => S.zd j b (cl_sub hb).2, S.zt, fun j w h => ?_⟩
  rotate_right
  · obtain ⟨e1, s, e2, e3⟩ := S.fx j w h
    refine ⟨e1, s, ?_, e3⟩
    rw [List.getElem?_set_ne (fun e => by subst e; rw [hf s e2] at e3; cases e3)]
    exact e2
  · rw [getM_set_un] at h
    by_cases e : j = i
    · rw [if_pos e] at h; cases h
    · rw [if_neg e] at h
      obtain ⟨w, e1, r⟩ := S.own j v h
      refine ⟨w, e1, ?_⟩
      unfold cl
      rw [if_neg e]
      exact r
  · rw [getM_set_un] at h
    unfold cl
    by_cases e : j = i
    · rw [if_pos e]
    · rw [if_neg e] at h ⊢
      exact S.emp j h
  · by_cases e : j = i
    · subst e
      by_cases hl : j < env.length
      · rw [List.getElem?_set_self hl] at h; cases h
      · rw [List.getElem?_eq_none (by simpa using hl)] at h; cases h
    · rw [List.getElem?_set_ne (Ne.symm e)] at h
      obtain ⟨w, G, e1, r, d⟩ := S.ro j k v h
      exact ⟨w, G, e1, r, d⟩
  · unfold cl
    by_cases e : j = i
    · rw [if_pos e]; exact List.nodup_nil
    · rw [if_neg e]; exact S.nd j
theorem cl_stp : Stp fp H (cl fp i) H := ⟨fun b o h _ => h, fun j b hb => .inl ⟨j, (cl_sub hb).2⟩⟩
/-- what ownE gives -/
theorem own_step {e : E} {r : PV × Bool} {w : V} {α : Type} {k : PV → PEnv → R α} {Φ : α → PEnv → Prop} (P : Post Y.X σ fp H e r env1 w H1 fp1) (h : Hold Y σ fp H ((ownE e r env1).bind k) Φ) :
    ∃ v env2 fp2 F, Sim Y.X env2 σ H1 fp2 ∧ Stp fp H fp2 H1 ∧ (e.quiet = true → ∀ i b, b ∈ fp2 i → b ∈ fp i) ∧ VO Y.X fp H fp2 H1 v w F ∧ Hold Y σ fp H (k v env2) Φ ∧ ownE e r env1 = .ok v env2 := by
  unfold ownE at h ⊢
  by_cases hr : r.2 = true
  · rw [if_pos hr] at h ⊢
    obtain ⟨F, vo⟩ := P.vo hr
    exact ⟨r.1, env1, fp1, F, P.sim, P.stp, P.mono, vo, h, rfl⟩
  · rw [if_neg hr] at h ⊢
    cases e with
    | var i =>
      simp only at h ⊢
      cases hs : env1[i]? with
      | none => rw [hs] at h; exact h.elim
      | some s =>
        rw [hs] at h
        cases s with
        | ow v =>
          have hm : getM env1 i = some v := by unfold getM; rw [hs]
          obtain ⟨w', e1, rp⟩ := P.sim.own i v hm
          have ew : w' = w := by
            have := P.at_ i rfl
            rw [e1] at this
            exact Option.some.inj (Option.some.inj this)
          subst ew
          refine ⟨v, env1.set i .un, cl fp1 i, fp1 i, P.sim.clear i (fun s e => by rw [hs] at e; cases e; rfl), P.stp.trans cl_stp, fun hq j b hb => P.mono hq j b (cl_sub hb).2, ⟨rp, P.sim.nd i, fun b hb j hj => ?_, fun b hb => P.stp.new i b hb, P.sim.zd i⟩, h, rfl⟩
          exact (cl_sub hj).1 (P.sim.dis j i b (cl_sub hj).2 hb)
        | un => exact h.elim
        | ro k v => exact h.elim
        | rf v => exact h.elim
    | _ => exact h.elim
end
section
variable {Y : Cz} {X : Cx} {a b c : Expr} {ea eb ec : E} {pos : Pos}
theorem pe_ix' (O : Ok0 Y X) (ha : PE X a (RdB Y ea)) (hb : PE X b (RdB Y eb)) (hs : PlainIx b) : PE X (.Subscript a b pos) (RdB Y (.ix ea eb)) := by
  refine PE.mono (pe_ix (ixP O.hu) ha hb hs) fun σ H Q ⟨env, fp, S, h⟩ => ?_
  unfold evB at h
  refine ⟨env, fp, S, h.bind.imp fun ra env1 hra w1 H1 fp1 P1 => ?_⟩
  obtain ⟨hc, hra⟩ := hra.ite
  refine ⟨env1, fp1, P1.sim, (hra.adv P1.stp).bind.imp fun rb env2 hrb w2 H2 fp2 P2 => ?_⟩
  cases ev : ixI ra.1 rb.1 with
  | none => rw [ev] at hrb; exact hrb.elim
  | some v =>
    rw [ev] at hrb
    have hΦ : ∀ w H' fp', Post Y.X σ fp H (.ix ea eb) (v, v.imm) env2 w H' fp' → Q w H' := hrb
    -- the container behind the second operand, its parts in the slots
    have cont : ∃ G, Rp false Y.X H2 ra.1 w1 G ∧ ∀ x ∈ G, ∀ i, x ∈ fp2 i → ea.root = some i := by
      have fx := P2.stp.fix P1.sim
      rcases Bool.or_eq_true _ _ ▸ hc with hc | hc
      · rcases Bool.or_eq_true _ _ ▸ hc with hc | hc
        · obtain ⟨G, vb⟩ := P1.vb
          exact ⟨[], ((vb.rp.imm (m' := false) hc).2).fix O.ok fx (fun _ hb => by cases hb), fun _ hb => by cases hb⟩
        · obtain ⟨F, vo⟩ := P1.vo hc
          refine ⟨F, vo.rp.weak.fix O.ok fx fun b hb o ho => P2.stp.frm b o ho fun i hi => vo.dis b hb i hi, fun x hx i hi => ?_⟩
          rcases P2.stp.new i x hi with ⟨j, hj⟩ | h0
          · exact absurd hj (vo.dis x hx j)
          · obtain ⟨o, ho⟩ := vo.rp.trk x hx
            rw [h0] at ho; cases ho
      · obtain ⟨G, vb⟩ := P1.vb
        exact ⟨G, vb.rp.fix O.ok fx fun b hb o ho => P2.same hc b o ho, fun x hx i hi => vb.rt x hx i (P2.mono hc i x hi)⟩
    obtain ⟨G, rp1, rt⟩ := cont
    obtain ⟨G', vb⟩ := P2.vb
    rw [← O.K]
    refine ix_ok ev rp1 vb.rp fun w G1 rp hG => hΦ w H2 fp2 ⟨P2.sim, P1.stp.trans P2.stp, fun q => same_trans (P1.same (and_l q)) (P2.same (and_r q)), fun q i x hx => P1.mono (and_l q) i x (P2.mono (and_r q) i x hx), ⟨G1, rp, fun x hx i hi => rt x (hG x hx) i hi⟩, fun hi => ?_, fun _ z => nomatch z⟩
    exact ⟨[], (VB.vo (root := none) ⟨rp, fun x hx i _ => by rw [(rp.imm (m' := false) hi).1] at hx; cases hx⟩ hi)⟩
/-- a part of a slice -/
def TOr (Y : Cz) (el : E) : TO := fun σ H Q => RdB Y el σ H fun x H1 => (el = .non ∧ Q none H1) ∨ (el ≠ .non ∧ ∃ i, x = .int i ∧ Q (some i) H1)
theorem po_part (O : Ok0 Y X) {lo : Option Expr} {el : E} (h : (lo = none ∧ el = .non) ∨ ∃ e, lo = some e ∧ el ≠ .non ∧ PE X e (RdB Y el)) : PO X lo (TOr Y el) := by
  rcases h with ⟨rfl, rfl⟩ | ⟨e, rfl, hn, he⟩
  · refine ⟨fun pins s σ H Q I q => po_none.run pins s σ H Q I ?_⟩
    rcases rd_const (e := .non) O.ok (fun _ h => nomatch h) (fun _ => by unfold evB; rfl) (fun _ => rp_non) σ H _ q with ⟨_, q⟩ | ⟨z, _⟩
    · exact q
    · exact absurd rfl z
  · refine ⟨fun pins s σ H Q I q => (po_some he).run pins s σ H Q I (RdB.mono q fun x H1 z => ?_)⟩
    rcases z with ⟨z, _⟩ | ⟨_, z⟩
    · exact absurd z hn
    · exact z
theorem part_at {el : E} {v : PV} {l : Option Int} {x : V} {X : KX} {H : Hp} {G : List Addr} {Q : Option Int → Prop} (h : partE el v = some l) (r : Rp false X H v x G) (q : Q l) : (el = .non ∧ Q none) ∨ (el ≠ .non ∧ ∃ i, x = .int i ∧ Q (some i)) := by
  by_cases e : el = .non
  · subst e
    cases h
    exact .inl ⟨rfl, q⟩
  · have h' : intO v = some l := by
      unfold partE at h
      split at h
      · exact absurd rfl e
      · exact h
    cases v <;> simp [intO] at h'
    subst h'
    exact .inr ⟨e, _, rp_int' r, q⟩
theorem pe_sl' (O : Ok0 Y X) {lo hi : Option Expr} {el eh : E} {p2 : Pos} (ha : PE X a (RdB Y ea)) (hl : (lo = none ∧ el = .non) ∨ ∃ e, lo = some e ∧ el ≠ .non ∧ PE X e (RdB Y el)) (hh : (hi = none ∧ eh = .non) ∨ ∃ e, hi = some e ∧ eh ≠ .non ∧ PE X e (RdB Y eh)) :
    PE X (.Subscript a (.Slice lo hi none p2) pos) (RdB Y (.sl ea el eh)) := by
  refine PE.mono (pe_slice slP ha (po_part O hl) (po_part O hh)) fun σ H Q ⟨env, fp, S, h⟩ => ?_
  unfold evB at h
  refine ⟨env, fp, S, h.bind.imp fun ra env1 hra w1 H1 fp1 P1 => ?_⟩
  obtain ⟨hc, hra⟩ := hra.ite
  refine ⟨env1, fp1, P1.sim, (hra.adv P1.stp).bind.imp fun rl env2 hrl w2 H2 fp2 P2 => ?_⟩
  cases el1 : partE el rl.1 with
  | none =>
    rw [el1] at hrl
    exact hrl.elim
  | some l =>
    obtain ⟨G2, vb2⟩ := P2.vb
    refine part_at (Q := fun l => TOr Y eh σ H2 fun h' H3 => rSlP X.K w1 l h' H3 Q) el1 vb2.rp ?_
    rw [el1] at hrl
    have hrl : Hold Y σ fp1 H1 ((evB Y.p Y.cf eh env2).bind _) _ := hrl
    refine ⟨env2, fp2, P2.sim, (hrl.adv P2.stp).bind.imp fun rh env3 hrh w3 H3 fp3 P3 => ?_⟩
    cases eh1 : partE eh rh.1 with
    | none => rw [eh1] at hrh; exact hrh.elim
    | some h' =>
      rw [eh1] at hrh
      obtain ⟨G3, vb3⟩ := P3.vb
      refine part_at (Q := fun h' => rSlP X.K w1 l h' H3 Q) eh1 vb3.rp ?_
      obtain ⟨r, er, hΦ⟩ := Hold.opt hrh
      obtain ⟨v, ev, rfl⟩ := map_true er
      obtain ⟨G, vb⟩ := P1.vb
      obtain ⟨G1, rp1⟩ : ∃ G1, Rp false Y.X H3 ra.1 w1 G1 := by
        rcases Bool.or_eq_true _ _ ▸ hc with hi | hc
        · exact ⟨[], ((vb.rp.imm (m' := false) hi).2).fix O.ok ((P2.stp.trans P3.stp).fix P1.sim) fun _ hb => by cases hb⟩
        · have s12 := same_trans (P2.same (and_l hc)) (P3.same (and_r hc))
          exact ⟨G, vb.rp.fix O.ok (Fix.same s12) fun b _ o ho => s12 b o ho⟩
      rw [← O.K]
      refine sl_ok O.ok ev rp1 (gives_of (e := .sl ea el eh) O.ok P3.sim ((P1.stp.trans P2.stp).trans P3.stp) (fun q => same_trans (P1.same (and_l (and_l q))) (same_trans (P2.same (and_r (and_l q))) (P3.same (and_r q)))) (fun q i x hx => P1.mono (and_l (and_l q)) i x (P2.mono (and_r (and_l q)) i x (P3.mono (and_r q) i x hx))) (fun _ z => nomatch z) hΦ)
end
end DI
set_option Elab.async false
set_option linter.all false
set_option maxRecDepth 100000
set_option maxHeartbeats 1000000
/-! DIS7: tests, and, or, if, lists of expressions, displays, built-in calls. -/
namespace DI
open PySem PySem.Spec PyProof.Rows L2

section
variable {Y : Cz} {σ : St} {env env' env1 env2 : PEnv} {fp fp1 fp2 : Nat → List Addr} {H H1 H2 : Hp}
/-- a value that may be kept, as another expression's -/
theorem Post.as_own {e e' : E} {r : PV × Bool} {w : V} (P : Post Y.X σ fp H e r env1 w H1 fp1) (h : (r.1.imm || r.2) = true) (hq : e'.quiet = true → e.quiet = true) (hv : ∀ i, e' ≠ .var i) : Post Y.X σ fp H e' (r.1, true) env1 w H1 fp1 := by
  have : ∃ F, VO Y.X fp H fp1 H1 r.1 w F := by
    rcases Bool.or_eq_true _ _ ▸ h with h | h
    · obtain ⟨G, vb⟩ := P.vb
      exact ⟨[], vb.vo h⟩
    · exact P.vo h
  obtain ⟨F, vo⟩ := this
  exact ⟨P.sim, P.stp, fun q => P.same (hq q), fun q => P.mono (hq q), ⟨F, vo.vb⟩, fun _ => ⟨F, vo⟩, fun i z => absurd z (hv i)⟩
/-- behind a step -/
theorem Post.after {e e' : E} {r : PV × Bool} {w : V} (P : Post Y.X σ fp1 H1 e r env2 w H2 fp2) (t : Stp fp H fp1 H1) (hr : r.2 = true) (he : ∀ i, e' ≠ .var i) (hq : e'.quiet = true → Same H H1 ∧ (∀ i b, b ∈ fp1 i → b ∈ fp i) ∧ e.quiet = true) : Post Y.X σ fp H e' r env2 w H2 fp2 := by
  obtain ⟨F, vo⟩ := P.vo hr
  have vo' : VO Y.X fp H fp2 H2 r.1 w F := by
    refine ⟨vo.rp, vo.nd, vo.dis, fun b hb => ?_, vo.z⟩
    rcases vo.new b hb with ⟨j, hj⟩ | h0
    · exact t.new j b hj
    · by_cases hx : ∃ j, b ∈ fp j
      · exact .inl hx
      · refine .inr ?_
        cases h : H b with
        | none => rfl
        | some o =>
          have := t.frm b o h fun j hj => hx ⟨j, hj⟩
          rw [h0] at this; cases this
  exact ⟨P.sim, t.trans P.stp, fun q => same_trans (hq q).1 (P.same (hq q).2.2), fun q i b hb => (hq q).2.1 i b (P.mono (hq q).2.2 i b hb), ⟨F, vo'.vb⟩, fun _ => ⟨F, vo'⟩, fun i z => absurd z (he i)⟩
/-- the reading of a test -/
def RdT (Y : Cz) (e : E) : TT := fun σ H Q => ∃ env fp, Sim Y.X env σ H fp ∧
  Hold Y σ fp H (evB Y.p Y.cf e env) fun r env' => ∀ w H' fp', Post Y.X σ fp H e r env' w H' fp' → ∃ b, truthI r.1 = some b ∧ Q b H'
theorem RdT.rdB {e : E} {Q : Bool → Hp → Prop} {K : PySem.W.Frag} (hK : Y.X.K = K) (h : RdT Y e σ H Q) : RdB Y e σ H fun x H' => ∃ k, TruV K x H' k ∧ Q k H' := by
  obtain ⟨env, fp, S, h⟩ := h
  refine ⟨env, fp, S, h.imp fun r env1 hr w H1 fp1 P => ?_⟩
  obtain ⟨b, e, q⟩ := hr w H1 fp1 P
  obtain ⟨G, vb⟩ := P.vb
  exact ⟨b, by rw [← hK]; exact truth_ok e vb.rp, q⟩
/-- of a test whose value is a bool -/
theorem RdT.rdBl {e : E} {Q : Bool → Hp → Prop} (hb : ∀ env r env', evB Y.p Y.cf e env = .ok r env' → ∃ b, r.1 = .bl b) (h : RdT Y e σ H Q) : RdB Y e σ H fun x H' => ∃ k, x = .bl k ∧ Q k H' := by
  obtain ⟨env, fp, S, h⟩ := h
  refine ⟨env, fp, S, ?_⟩
  cases er : evB Y.p Y.cf e env with
  | bad => rw [er] at h; exact h
  | exc c fs env => rw [er] at h; exact h
  | ok r env1 =>
    rw [er] at h
    intro w H1 fp1 P
    obtain ⟨b, eb⟩ := hb _ _ _ er
    obtain ⟨b', e', q⟩ := h w H1 fp1 P
    rw [eb] at e'
    cases e'
    obtain ⟨G, vb⟩ := P.vb
    rw [eb] at vb
    exact ⟨b, rp_bl' vb.rp, q⟩
end
section
variable {Y : Cz} {X : Cx} {a b c : Expr} {ea eb ec : E} {pos : Pos} {rest : List Expr}
theorem pt_of (O : Ok0 Y X) {e : E} (h : PE X a (RdB Y e)) (he : ∀ whole, isTrue a X.env whole = (do let v ← whole; standAt a.pos; holding [v] (truthy v))) : PT X a (RdT Y e) :=
  PT.mono (pt_truth h he) fun σ H Q q => q.rdB O.K
theorem pe_and' (O : Ok0 Y X) (ha : PE X a (RdB Y ea)) (hb : PE X (.BoolOp .And (b :: rest) pos) (RdB Y eb)) : PE X (.BoolOp .And (a :: b :: rest) pos) (RdB Y (.and ea eb)) := by
  refine PE.mono (pe_andT ha hb) fun σ H Q ⟨env, fp, S, h⟩ => ?_
  unfold evB at h
  refine ⟨env, fp, S, h.bind.imp fun ra env1 hra w1 H1 fp1 P1 => ?_⟩
  obtain ⟨G, vb⟩ := P1.vb
  cases et : truthI ra.1 with
  | none => rw [et] at hra; exact hra.elim
  | some t =>
    rw [et] at hra
    refine ⟨t, by rw [← O.K]; exact truth_ok et vb.rp, ?_⟩
    cases t with
    | false =>
      rw [if_neg (by decide)]
      obtain ⟨hi, hΦ⟩ := Hold.ite hra
      exact hΦ _ _ _ (P1.as_own (e' := .and ea eb) (by rw [hi]; rfl) and_l fun _ z => nomatch z)
    | true =>
      rw [if_pos rfl]
      have hra : Hold Y σ fp H ((evB Y.p Y.cf eb env1).bind _) _ := hra
      refine ⟨env1, fp1, P1.sim, (hra.adv P1.stp).bind.imp fun rb env2 hrb w2 H2 fp2 P2 => ?_⟩
      obtain ⟨hi, hΦ⟩ := hrb.ite
      exact hΦ _ _ _ ((P2.as_own (e' := .tup [eb]) hi (fun z => and_l z) fun _ z => nomatch z).after (e' := .and ea eb) P1.stp rfl (fun _ z => nomatch z) fun q => ⟨P1.same (and_l q), P1.mono (and_l q), by show (eb.quiet && true) = true; rw [and_r q]; rfl⟩)
theorem pe_or' (O : Ok0 Y X) (ha : PE X a (RdB Y ea)) (hb : PE X (.BoolOp .Or (b :: rest) pos) (RdB Y eb)) : PE X (.BoolOp .Or (a :: b :: rest) pos) (RdB Y (.or ea eb)) := by
  refine PE.mono (pe_orT ha hb) fun σ H Q ⟨env, fp, S, h⟩ => ?_
  unfold evB at h
  refine ⟨env, fp, S, h.bind.imp fun ra env1 hra w1 H1 fp1 P1 => ?_⟩
  obtain ⟨G, vb⟩ := P1.vb
  cases et : truthI ra.1 with
  | none => rw [et] at hra; exact hra.elim
  | some t =>
    rw [et] at hra
    refine ⟨t, by rw [← O.K]; exact truth_ok et vb.rp, ?_⟩
    cases t with
    | true =>
      rw [if_pos rfl]
      obtain ⟨hi, hΦ⟩ := Hold.ite hra
      exact hΦ _ _ _ (P1.as_own (e' := .or ea eb) (by rw [hi]; rfl) and_l fun _ z => nomatch z)
    | false =>
      rw [if_neg (by decide)]
      have hra : Hold Y σ fp H ((evB Y.p Y.cf eb env1).bind _) _ := hra
      refine ⟨env1, fp1, P1.sim, (hra.adv P1.stp).bind.imp fun rb env2 hrb w2 H2 fp2 P2 => ?_⟩
      obtain ⟨hi, hΦ⟩ := hrb.ite
      exact hΦ _ _ _ ((P2.as_own (e' := .tup [eb]) hi (fun z => and_l z) fun _ z => nomatch z).after (e' := .or ea eb) P1.stp rfl (fun _ z => nomatch z) fun q => ⟨P1.same (and_l q), P1.mono (and_l q), by show (eb.quiet && true) = true; rw [and_r q]; rfl⟩)
/-- tests by their form -/
theorem cmpI_bl {op : CmpOp} {x y v : PV} (h : cmpI op x y = some v) : ∃ b, v = .bl b := by
  unfold cmpI at h
  split at h <;> first | (obtain ⟨c, _, rfl⟩ := Option.map_eq_some_iff.mp h; exact ⟨_, rfl⟩) | (cases h; exact ⟨_, rfl⟩) | (split at h <;> cases h; exact ⟨_, rfl⟩) | cases h
theorem R.bind_eq {α β : Type} {r : R α} {f : α → PEnv → R β} {b : β} {env : PEnv} (h : r.bind f = .ok b env) : ∃ a env1, r = .ok a env1 ∧ f a env1 = .ok b env := by
  cases r with
  | ok a env1 => exact ⟨a, env1, rfl, h⟩
  | exc c fs env1 => cases h
  | bad => cases h
theorem opt_eq {α : Type} {o : Option α} {a : α} {env env' : PEnv} (h : opt o env = .ok a env') : o = some a := by
  cases o with
  | none => cases h
  | some b => cases h; rfl
theorem cmp_bl {p : Prog} {cf : Str → List PV → CR} {op : CmpOp} : ∀ env r env', evB p cf (.cmp op ea eb) env = .ok r env' → ∃ b, r.1 = .bl b := by
  intro env r env' h
  unfold evB two at h
  obtain ⟨x, e1, h1, h2⟩ := R.bind_eq h
  split at h2
  · obtain ⟨y, e2, h3, h4⟩ := R.bind_eq h2
    obtain ⟨v, ev, rfl⟩ := map_true (opt_eq h4)
    exact cmpI_bl ev
  · cases h2
theorem pt_cmp' (O : Ok0 Y X) {op : CmpOp} (ha : PE X a (RdB Y ea)) (hb : PE X b (RdB Y eb)) (hs : ∀ es k p, b ≠ .Set es k p) : PT X (.Compare a [op] [b] pos) (RdT Y (.cmp op ea eb)) := by
  refine PT.mono (pt_cmpR (op_cmp O.hu op) ha hb (mark_ok hs)) fun σ H Q q => ?_
  obtain ⟨env, fp, S, h⟩ := q.rdBl cmp_bl
  unfold evB at h
  show tOp (cmpR X.K op) (RdB Y ea) (RdB Y eb) σ H _
  refine (rd_two (e := .cmp op ea eb) O.ok S (fun e => ⟨and_l e, and_r e⟩) (fun _ h => nomatch h) h).mono fun x H1 h1 => h1.mono fun y H2 ⟨va, vb, v, G, G', e, r1, r2, g⟩ => ?_
  rw [← O.K]
  exact cmp_ok e r1 r2 g
theorem pt_isN (O : Ok0 Y X) {j : Nat} {p' : Pos} (ha : PE X a (RdB Y ea)) : PT X (.Compare a [.Is] [.Constant .none j p'] pos) (RdT Y (.isN ea)) := by
  refine PT.mono (pt_cmp (pc_isN ha)) fun σ H Q q => ?_
  obtain ⟨env, fp, S, h⟩ := q.rdBl (fun env r env' h => by
    unfold evB at h
    obtain ⟨x, e1, h1, h2⟩ := R.bind_eq h
    cases h2
    exact ⟨_, rfl⟩)
  unfold evB at h
  refine (rd_one (a := ea) (e := .isN ea) (f := fun v => some (.bl v.isNon)) O.ok S (fun e => e) (fun _ h => nomatch h) h).mono fun x H1 ⟨va, v, G, e, r, g⟩ => ?_
  cases e
  rw [rp_isN r]
  exact g.bl
theorem pt_isNN (O : Ok0 Y X) {j : Nat} {p' : Pos} (ha : PE X a (RdB Y ea)) : PT X (.Compare a [.IsNot] [.Constant .none j p'] pos) (RdT Y (.isNN ea)) := by
  refine PT.mono (pt_cmp (pc_notN ha)) fun σ H Q q => ?_
  obtain ⟨env, fp, S, h⟩ := q.rdBl (fun env r env' h => by
    unfold evB at h
    obtain ⟨x, e1, h1, h2⟩ := R.bind_eq h
    cases h2
    exact ⟨_, rfl⟩)
  unfold evB at h
  refine (rd_one (a := ea) (e := .isNN ea) (f := fun v => some (.bl (!v.isNon))) O.ok S (fun e => e) (fun _ h => nomatch h) h).mono fun x H1 ⟨va, v, G, e, r, g⟩ => ?_
  cases e
  rw [rp_isN r]
  exact g.bl
theorem pt_not' (O : Ok0 Y X) (ha : PT X a (RdT Y ea)) : PT X (.UnaryOp .Not a pos) (RdT Y (.not ea)) := by
  refine PT.mono (pt_not ha) fun σ H Q ⟨env, fp, S, h⟩ => ?_
  unfold evB at h
  refine ⟨env, fp, S, h.bind.imp fun ra env1 hra w1 H1 fp1 P1 => ?_⟩
  obtain ⟨r, er, hΦ⟩ := hra.opt
  cases et : truthI ra.1 with
  | none => rw [et] at er; cases er
  | some t =>
    rw [et] at er
    cases er
    have P : Post Y.X σ fp H (.not ea) (.bl (!t), true) env1 (.bl (!t)) H1 fp1 := (New.flat rp_bl).post O.ok P1.sim P1.stp P1.same P1.mono fun _ z => nomatch z
    obtain ⟨b, e, q⟩ := hΦ _ _ _ P
    cases e
    exact ⟨t, rfl, q⟩
theorem pw_one_and (O : Ok0 Y X) (ha : PT X a (RdT Y ea)) : PW X (.BoolOp .And [a] pos) (RdT Y ea) := pw_and1 ha
theorem pw_and' (O : Ok0 Y X) (ha : PT X a (RdT Y ea)) (hb : PW X (.BoolOp .And (b :: rest) pos) (RdT Y eb)) : PW X (.BoolOp .And (a :: b :: rest) pos) (RdT Y (.and ea eb)) := by
  refine PW.mono (pw_and ha hb) fun σ H Q ⟨env, fp, S, h⟩ => ?_
  unfold evB at h
  refine ⟨env, fp, S, h.bind.imp fun ra env1 hra w1 H1 fp1 P1 => ?_⟩
  cases et : truthI ra.1 with
  | none => rw [et] at hra; exact hra.elim
  | some t =>
    rw [et] at hra
    refine ⟨t, rfl, ?_⟩
    cases t with
    | false =>
      rw [if_neg (by decide)]
      obtain ⟨hi, hΦ⟩ := Hold.ite hra
      obtain ⟨b', e', q⟩ := hΦ _ _ _ (P1.as_own (e' := .and ea eb) (by rw [hi]; rfl) and_l fun _ z => nomatch z)
      rw [et] at e'
      cases e'
      exact q
    | true =>
      rw [if_pos rfl]
      have hra : Hold Y σ fp H ((evB Y.p Y.cf eb env1).bind _) _ := hra
      refine ⟨env1, fp1, P1.sim, (hra.adv P1.stp).bind.imp fun rb env2 hrb w2 H2 fp2 P2 => ?_⟩
      obtain ⟨hi, hΦ⟩ := hrb.ite
      exact hΦ _ _ _ ((P2.as_own (e' := .tup [eb]) hi (fun z => and_l z) fun _ z => nomatch z).after (e' := .and ea eb) P1.stp rfl (fun _ z => nomatch z) fun q => ⟨P1.same (and_l q), P1.mono (and_l q), by show (eb.quiet && true) = true; rw [and_r q]; rfl⟩)
theorem pw_or' (O : Ok0 Y X) (ha : PT X a (RdT Y ea)) (hb : PW X (.BoolOp .Or (b :: rest) pos) (RdT Y eb)) : PW X (.BoolOp .Or (a :: b :: rest) pos) (RdT Y (.or ea eb)) := by
  refine PW.mono (pw_or ha hb) fun σ H Q ⟨env, fp, S, h⟩ => ?_
  unfold evB at h
  refine ⟨env, fp, S, h.bind.imp fun ra env1 hra w1 H1 fp1 P1 => ?_⟩
  cases et : truthI ra.1 with
  | none => rw [et] at hra; exact hra.elim
  | some t =>
    rw [et] at hra
    refine ⟨t, rfl, ?_⟩
    cases t with
    | true =>
      rw [if_pos rfl]
      obtain ⟨hi, hΦ⟩ := Hold.ite hra
      obtain ⟨b', e', q⟩ := hΦ _ _ _ (P1.as_own (e' := .or ea eb) (by rw [hi]; rfl) and_l fun _ z => nomatch z)
      rw [et] at e'
      cases e'
      exact q
    | false =>
      rw [if_neg (by decide)]
      have hra : Hold Y σ fp H ((evB Y.p Y.cf eb env1).bind _) _ := hra
      refine ⟨env1, fp1, P1.sim, (hra.adv P1.stp).bind.imp fun rb env2 hrb w2 H2 fp2 P2 => ?_⟩
      obtain ⟨hi, hΦ⟩ := hrb.ite
      exact hΦ _ _ _ ((P2.as_own (e' := .tup [eb]) hi (fun z => and_l z) fun _ z => nomatch z).after (e' := .or ea eb) P1.stp rfl (fun _ z => nomatch z) fun q => ⟨P1.same (and_l q), P1.mono (and_l q), by show (eb.quiet && true) = true; rw [and_r q]; rfl⟩)
/-- a if t else b -/
theorem pe_ife (O : Ok0 Y X) (hc : PT X c (RdT Y ec)) (ha : PE X a (RdB Y ea)) (hb : PE X b (RdB Y eb)) : PE X (.IfExp c a b pos) (RdB Y (.ife ec ea eb)) := by
  refine PE.mono (pe_ifExp hc ha hb) fun σ H Q ⟨env, fp, S, h⟩ => ?_
  unfold evB at h
  refine ⟨env, fp, S, h.bind.imp fun rc env1 hrc w1 H1 fp1 P1 => ?_⟩
  cases et : truthI rc.1 with
  | none => rw [et] at hrc; exact hrc.elim
  | some t =>
    rw [et] at hrc
    refine ⟨t, rfl, ?_⟩
    cases t with
    | true =>
      rw [if_pos rfl]
      have hrc : Hold Y σ fp H ((evB Y.p Y.cf ea env1).bind _) _ := hrc
      refine ⟨env1, fp1, P1.sim, (hrc.adv P1.stp).bind.imp fun ra env2 hra w2 H2 fp2 P2 => ?_⟩
      obtain ⟨v, env3, fp3, F, S3, st3, mono3, vo3, h3, _⟩ := own_step P2 hra
      have P3 : Post Y.X σ fp1 H1 (.tup [ea]) (v, true) env3 w2 H2 fp3 := ⟨S3, st3, fun q => P2.same (and_l q), fun q => mono3 (and_l q), ⟨F, vo3.vb⟩, fun _ => ⟨F, vo3⟩, fun _ z => nomatch z⟩
      exact h3 _ _ _ (P3.after (e' := .ife ec ea eb) P1.stp rfl (fun _ z => nomatch z) fun q => ⟨P1.same (and_l (and_l q)), P1.mono (and_l (and_l q)), by show (ea.quiet && true) = true; rw [and_r (and_l q)]; rfl⟩)
    | false =>
      rw [if_neg (by decide)]
      have hrc : Hold Y σ fp H ((evB Y.p Y.cf eb env1).bind _) _ := hrc
      refine ⟨env1, fp1, P1.sim, (hrc.adv P1.stp).bind.imp fun ra env2 hra w2 H2 fp2 P2 => ?_⟩
      obtain ⟨v, env3, fp3, F, S3, st3, mono3, vo3, h3, _⟩ := own_step P2 hra
      have P3 : Post Y.X σ fp1 H1 (.tup [eb]) (v, true) env3 w2 H2 fp3 := ⟨S3, st3, fun q => P2.same (and_l q), fun q => mono3 (and_l q), ⟨F, vo3.vb⟩, fun _ => ⟨F, vo3⟩, fun _ z => nomatch z⟩
      exact h3 _ _ _ (P3.after (e' := .ife ec ea eb) P1.stp rfl (fun _ z => nomatch z) fun q => ⟨P1.same (and_l (and_l q)), P1.mono (and_l (and_l q)), by show (eb.quiet && true) = true; rw [and_r q]; rfl⟩)
end
end DI
set_option Elab.async false
set_option linter.all false
set_option maxRecDepth 100000
set_option maxHeartbeats 1000000
/-! DIS8: lists of expressions, displays, built-in calls. -/
namespace DI
open PySem PySem.Spec PyProof.Rows L2

/-- values of their own -/
structure VOs (X : KX) (fp : Nat → List Addr) (H : Hp) (fp' : Nat → List Addr) (H' : Hp) (vs : List PV) (ws : List V) (F : List Addr) : Prop where
  rp : RpL true X H' vs ws F
  nd : F.Nodup
  dis : ∀ b ∈ F, ∀ i, b ∉ fp' i
  new : ∀ b ∈ F, (∃ j, b ∈ fp j) ∨ H b = none
  z : ∀ b ∈ F, ¬ X.Z b
structure PostO (X : KX) (σ : St) (fp : Nat → List Addr) (H : Hp) (es : List E) (vs : List PV) (env' : PEnv) (ws : List V) (H' : Hp) (fp' : Nat → List Addr) : Prop where
  sim : Sim X env' σ H' fp'
  stp : Stp fp H fp' H'
  same : quietL es = true → Same H H'
  mono : quietL es = true → ∀ i b, b ∈ fp' i → b ∈ fp i
  vo : ∃ F, VOs X fp H fp' H' vs ws F
structure PostA (X : KX) (σ : St) (fp : Nat → List Addr) (H : Hp) (es : List E) (vs : List PV) (env' : PEnv) (ws : List V) (H' : Hp) (fp' : Nat → List Addr) : Prop where
  sim : Sim X env' σ H' fp'
  stp : Stp fp H fp' H'
  same : quietL es = true → Same H H'
  mono : quietL es = true → ∀ i b, b ∈ fp' i → b ∈ fp i
  vb : ∃ G, RpL false X H' vs ws G
def RdO (Y : Cz) (es : List E) : TA := fun σ H Q => ∃ env fp, Sim Y.X env σ H fp ∧
  Hold Y σ fp H (evO Y.p Y.cf es env) fun vs env' => ∀ ws H' fp', PostO Y.X σ fp H es vs env' ws H' fp' → Q ws H'
def RdA (Y : Cz) (es : List E) : TA := fun σ H Q => ∃ env fp, Sim Y.X env σ H fp ∧
  Hold Y σ fp H (evA Y.p Y.cf es env) fun vs env' => ∀ ws H' fp', PostA Y.X σ fp H es vs env' ws H' fp' → Q ws H'
section
variable {Y : Cz} {σ : St} {env env' env1 env2 : PEnv} {fp fp1 fp2 : Nat → List Addr} {H H1 H2 : Hp}
theorem Stp.fresh (t : Stp fp H fp1 H1) {b : Addr} (h : (∃ j, b ∈ fp1 j) ∨ H1 b = none) : (∃ j, b ∈ fp j) ∨ H b = none := by
  rcases h with ⟨j, hj⟩ | h0
  · exact t.new j b hj
  · by_cases hx : ∃ j, b ∈ fp j
    · exact .inl hx
    · refine .inr ?_
      cases h : H b with
      | none => rfl
      | some o =>
        have := t.frm b o h fun j hj => hx ⟨j, hj⟩
        rw [h0] at this; cases this
/-- one more at the front -/
theorem VO.cons (ok : Y.X.Ok) {v : PV} {w : V} {F : List Addr} {vs : List PV} {ws : List V} (S : Sim Y.X env1 σ H1 fp1) (t1 : Stp fp H fp1 H1) (v1 : VO Y.X fp H fp1 H1 v w F) (t2 : Stp fp1 H1 fp2 H2) {G : List Addr} (v2 : VOs Y.X fp1 H1 fp2 H2 vs ws G) :
    VOs Y.X fp H fp2 H2 (v :: vs) (w :: ws) (F ++ G) := by
  have apart : ∀ b ∈ F, ¬ ((∃ j, b ∈ fp1 j) ∨ H1 b = none) := fun b hb h => by
    rcases h with ⟨j, hj⟩ | h0
    · exact v1.dis b hb j hj
    · obtain ⟨o, ho⟩ := v1.rp.trk b hb
      rw [h0] at ho; cases ho
  have r1 : Rp true Y.X H2 v w F := v1.rp.fix ok (t2.fix S) fun b hb o ho => t2.frm b o ho fun i hi => v1.dis b hb i hi
  refine ⟨RpL.cons r1 v2.rp, List.nodup_append.mpr ⟨v1.nd, v2.nd, fun b hb c hc e => ?_⟩, fun b hb i hi => ?_, fun b hb => ?_, fun b hb => (List.mem_append.mp hb).elim (v1.z b) (v2.z b)⟩
  · subst e
    exact apart b hb (v2.new b hc)
  · rcases List.mem_append.mp hb with hb | hb
    · exact apart b hb (t2.new i b hi)
    · exact v2.dis b hb i hi
  · rcases List.mem_append.mp hb with hb | hb
    · exact v1.new b hb
    · exact t1.fresh (v2.new b hb)
theorem rdO_nil {Q : List V → Hp → Prop} (h : RdO Y [] σ H Q) : Q [] H := by
  obtain ⟨env, fp, S, h⟩ := h
  unfold evO at h
  exact h [] H fp ⟨S, Stp.refl, fun _ => same_refl, fun _ _ _ h => h, [], RpL.nil, List.nodup_nil, fun _ hb => (by cases hb), fun _ hb => (by cases hb), fun _ hb => (by cases hb)⟩
theorem rdO_cons (ok : Y.X.Ok) {e : E} {es : List E} {Q : List V → Hp → Prop} (h : RdO Y (e :: es) σ H Q) : RdB Y e σ H fun x H1 => RdO Y es σ H1 fun xs H2 => Q (x :: xs) H2 := by
  obtain ⟨env, fp, S, h⟩ := h
  unfold evO at h
  refine ⟨env, fp, S, h.bind.imp fun r env1 hr w1 H1 fp1 P1 => ?_⟩
  obtain ⟨v, env2, fp2, F, S2, st2, mono2, vo, h2, _⟩ := own_step P1 hr
  refine ⟨env2, fp2, S2, (h2.adv st2).bind.imp fun vs env3 h3 ws H3 fp3 P3 => ?_⟩
  obtain ⟨G, vos⟩ := P3.vo
  exact h3 _ _ _ ⟨P3.sim, st2.trans P3.stp, fun q => same_trans (P1.same (and_l q)) (P3.same (and_r q)), fun q i b hb => mono2 (and_l q) i b (P3.mono (and_r q) i b hb), _, VO.cons ok S2 st2 vo P3.stp vos⟩
theorem rdA_nil {Q : List V → Hp → Prop} (h : RdA Y [] σ H Q) : Q [] H := by
  obtain ⟨env, fp, S, h⟩ := h
  unfold evA at h
  exact h [] H fp ⟨S, Stp.refl, fun _ => same_refl, fun _ _ _ h => h, [], RpL.nil⟩
theorem rdA_cons (ok : Y.X.Ok) {e : E} {es : List E} {Q : List V → Hp → Prop} (h : RdA Y (e :: es) σ H Q) : RdB Y e σ H fun x H1 => RdA Y es σ H1 fun xs H2 => Q (x :: xs) H2 := by
  obtain ⟨env, fp, S, h⟩ := h
  unfold evA at h
  refine ⟨env, fp, S, h.bind.imp fun r env1 hr w1 H1 fp1 P1 => ?_⟩
  obtain ⟨hc, hr⟩ := hr.ite
  refine ⟨env1, fp1, P1.sim, (hr.adv P1.stp).bind.imp fun vs env3 h3 ws H3 fp3 P3 => ?_⟩
  obtain ⟨G, vb⟩ := P3.vb
  obtain ⟨G1, r1⟩ := P1.keepS ok P3.stp P3.same hc
  exact h3 _ _ _ ⟨P3.sim, P1.stp.trans P3.stp, fun q => same_trans (P1.same (and_l q)) (P3.same (and_r q)), fun q i b hb => P1.mono (and_l q) i b (P3.mono (and_r q) i b hb), _, RpL.cons r1 vb⟩
end
/-- expressions with their terms, one by one -/
inductive Alls (Y : Cz) (X : Cx) : List Expr → List E → Prop
  | nil : Alls Y X [] []
  | cons {a : Expr} {as : List Expr} {e : E} {es : List E} : PE X a (RdB Y e) → (starEach (a :: as) X.env = (false, eval a X.env) :: starEach as X.env) → Alls Y X as es → Alls Y X (a :: as) (e :: es)
section
variable {Y : Cz} {X : Cx} {as : List Expr} {es : List E} {pos : Pos}
theorem Alls.plain {pos : Pos} : ∀ {as : List Expr} {es : List E}, Alls Y X as es → (backTo pos (starEach as X.env)).any (·.1) = false
  | _, _, .nil => rfl
  | _, _, .cons h hs t => by
    rw [hs]
    show (false || (backTo pos _).any _) = false
    rw [t.plain]; rfl
theorem pa_O (O : Ok0 Y X) : ∀ {as : List Expr} {es : List E}, Alls Y X as es → PA X as (RdO Y es)
  | _, _, .nil => PA.mono pa_nil fun σ H Q h => rdO_nil h
  | _, _, .cons h hs t => PA.mono (pa_cons h (pa_O O t) hs) fun σ H Q h => rdO_cons O.ok h
theorem pa_A (O : Ok0 Y X) : ∀ {as : List Expr} {es : List E}, Alls Y X as es → PA X as (RdA Y es)
  | _, _, .nil => PA.mono pa_nil fun σ H Q h => rdA_nil h
  | _, _, .cons h hs t => PA.mono (pa_cons h (pa_A O t) hs) fun σ H Q h => rdA_cons O.ok h
/-- a new tuple of values of their own -/
theorem VOs.tup {fp fp' : Nat → List Addr} {H H' : Hp} {vs : List PV} {ws : List V} {F : List Addr} {σ : St} {env' : PEnv} (ok : Y.X.Ok) (S : Sim Y.X env' σ H' fp') (v : VOs Y.X fp H fp' H' vs ws F) {p : Addr} (hp : H' p = none) : VO Y.X fp H fp' (upd H' p (.tup ws)) (.tup vs) (.ref p) F := by
  have s := same_upd (o := .tup ws) hp
  refine ⟨?_, v.nd, v.dis, v.new, v.z⟩
  unfold Rp
  exact ⟨p, ws, rfl, SqT.of upd_same, v.rp.fix ok (Fix.same s) fun b _ o ho => s b o ho⟩
theorem VOs.lst {fp fp' : Nat → List Addr} {H H' : Hp} {vs : List PV} {ws : List V} {F : List Addr} {σ : St} {env' : PEnv} (ok : Y.X.Ok) (S : Sim Y.X env' σ H' fp') (t : Stp fp H fp' H') (v : VOs Y.X fp H fp' H' vs ws F) {p : Addr} (hp : H' p = none) : VO Y.X fp H fp' (upd H' p (.lst ws)) (.lst vs) (.ref p) (p :: F) := by
  have s := same_upd (o := .lst ws) hp
  refine ⟨?_, List.nodup_cons.mpr ⟨fun hm => ?_, v.nd⟩, fun b hb i hi => ?_, fun b hb => ?_, fun b hb hz => ?_⟩
  rotate_right
  · rcases List.mem_cons.mp hb with rfl | hb
    · obtain ⟨o, ho⟩ := S.zt _ hz
      rw [hp] at ho; cases ho
    · exact v.z b hb hz
  · unfold Rp
    exact ⟨p, ws, F, rfl, .inl ⟨upd_same, rfl⟩, v.rp.fix ok (Fix.same s) fun b _ o ho => s b o ho⟩
  · obtain ⟨o, ho⟩ := v.rp.trk p hm
    rw [hp] at ho; cases ho
  · rcases List.mem_cons.mp hb with rfl | hb
    · obtain ⟨o, ho, _⟩ := S.owned hi
      rw [hp] at ho; cases ho
    · exact v.dis b hb i hi
  · rcases List.mem_cons.mp hb with rfl | hb
    · exact t.fresh (.inr hp)
    · exact v.new b hb
theorem pe_tup' (O : Ok0 Y X) {k : Nat} (h : Alls Y X as es) : PE X (.Tuple as k pos) (RdB Y (.tup es)) := by
  refine PE.mono (pe_tup (pa_O O h)) fun σ H Q ⟨env, fp, S, h⟩ => ?_
  unfold evB at h
  refine ⟨env, fp, S, h.bind.imp fun vs env1 hr ws H1 fp1 P => ?_⟩
  obtain ⟨hz, hΦ⟩ := hr.ite
  obtain ⟨F, v⟩ := P.vo
  refine ⟨by rw [← v.rp.length]; exact hz, fun p hp => ?_⟩
  have s := same_upd (o := .tup ws) hp
  have vo := v.tup O.ok P.sim hp
  exact hΦ _ _ _ ⟨P.sim.same O.ok s, P.stp.trans (Stp.same s), fun q => same_trans (P.same q) s, P.mono, ⟨F, vo.vb⟩, fun _ => ⟨F, vo⟩, fun _ z => nomatch z⟩
theorem pe_lst' (O : Ok0 Y X) (h : Alls Y X as es) : PE X (.List as pos) (RdB Y (.lst es)) := by
  refine PE.mono (pe_lst (pa_O O h)) fun σ H Q ⟨env, fp, S, h⟩ => ?_
  unfold evB at h
  refine ⟨env, fp, S, h.bind.imp fun vs env1 hr ws H1 fp1 P => ?_⟩
  obtain ⟨hz, hΦ⟩ := hr.ite
  obtain ⟨F, v⟩ := P.vo
  refine ⟨by rw [← v.rp.length]; exact hz, fun p hp => ?_⟩
  have s := same_upd (o := .lst ws) hp
  have vo := v.lst O.ok P.sim P.stp hp
  exact hΦ _ _ _ ⟨P.sim.same O.ok s, P.stp.trans (Stp.same s), fun q => same_trans (P.same q) s, P.mono, ⟨_, vo.vb⟩, fun _ => ⟨_, vo⟩, fun _ z => nomatch z⟩
/-- a built-in function -/
theorem rd_bi (O : Ok0 Y X) {f : BI} {σ : St} {H : Hp} {Q : VK} (h : RdB Y (.bi f es) σ H Q) : RdA Y es σ H fun ws H1 => biR X.K X.w f ws H1 Q := by
  obtain ⟨env, fp, S, h⟩ := h
  unfold evB at h
  refine ⟨env, fp, S, h.bind.imp fun vs env1 hr ws H1 fp1 P => ?_⟩
  obtain ⟨r, er, hΦ⟩ := hr.opt
  obtain ⟨v, ev, rfl⟩ := map_true er
  obtain ⟨G, rp⟩ := P.vb
  rw [← O.K]
  exact bi_ok O.ok O.w ev rp (gives_of (e := .bi f es) O.ok P.sim P.stp P.same P.mono (fun _ z => nomatch z) hΦ)
/-- the name of a built-in function -/
def biName : BI → Str
  | .len => "len" | .abs => "abs" | .int => "int" | .str => "str" | .bool => "bool" | .min => "min" | .max => "max" | .tuple => "tuple" | .list => "list" | .set => "set" | .sorted => "sorted" | .sum => "sum" | .all => "all" | .any => "any" | .dict => "dict"
theorem biName_boot : ∀ f : BI, bootBuiltins (biName f) = some (biVal f) := by
  intro f
  cases f <;> decide +kernel
theorem biName_ne : ∀ f : BI, biName f ≠ ("__name__" : Str) ∧ (biName f == ("__debug__" : Str)) = false := by
  intro f
  cases f <;> decide +kernel
theorem pe_bi (O : Ok0 Y X) (hc : X.calm = true) {f : BI} {a : Expr} {p : Pos} (h : Alls Y X (a :: as) es) (hg : Gl X (biName f)) (hm : X.mg (biName f) = none) : PE X (.Call (.Name (biName f) p) (a :: as) [] pos) (RdB Y (.bi f es)) := by
  have k := bi_call (X := X) hc f
  have hb := biName_boot f
  obtain ⟨n1, n2⟩ := biName_ne f
  have fin : ∀ σ H Q, RdB Y (.bi f es) σ H Q → tCB (biR X.K X.w f) (RdA Y es) σ H Q := fun σ H Q h => rd_bi O h
  have hst : starEach (a :: as) X.env = (false, eval a X.env) :: starEach as X.env := by cases h; assumption
  have hpl : (backTo pos (starEach as X.env)).any (·.1) = false := by
    cases h with
    | cons _ _ t => exact t.plain
  cases f
  case len => exact PE.mono (pe_callB k hg hm hb (pa_A O h) n1 n2 hst hpl) fin
  case abs => exact PE.mono (pe_callB k hg hm hb (pa_A O h) n1 n2 hst hpl) fin
  case min => exact PE.mono (pe_callB k hg hm hb (pa_A O h) n1 n2 hst hpl) fin
  case max => exact PE.mono (pe_callB k hg hm hb (pa_A O h) n1 n2 hst hpl) fin
  case sum => exact PE.mono (pe_callB k hg hm hb (pa_A O h) n1 n2 hst hpl) fin
  case all => exact PE.mono (pe_callB k hg hm hb (pa_A O h) n1 n2 hst hpl) fin
  case any => exact PE.mono (pe_callB k hg hm hb (pa_A O h) n1 n2 hst hpl) fin
  case sorted => exact PE.mono (pe_callB k hg hm hb (pa_A O h) n1 n2 hst hpl) fin
  all_goals exact PE.mono (pe_callTy k hg hm hb (pa_A O h) n1 n2 hst hpl) fin
end
end DI
set_option Elab.async false
set_option linter.all false
set_option maxRecDepth 100000
set_option maxHeartbeats 3200000
/-! DIExt: xs.extend of a tuple. -/
namespace DIExt
open PySem PySem.Spec PyProof.Rows L2 PySem.SeqAt
open AutoSeq1 (wpAny_loadPart')
theorem extend_any {T : String} (hT : T = "tuple" ∨ T = "list") (l : Addr) (items : Array Value) (n : Nat) (b : Addr) (items2 : Array Value) (n2 : Nat) (dd : Option Addr) (sl : Array (Option Value)) (h0 : ¬(!items.isEmpty && Builtin.List.listTooLong (items.size + items2.size)) = true) (h1 : items.size ≤ sizeLine) (h2 : (items ++ items2).size ≤ sizeLine + 1) :
    Meets (Builtin.«list.extend» ⟨[.ref l, .ref b], []⟩) (fun _ R s => (s.heap.get? l = some { cls := .type "list", data := .seq items n } ∧ s.heap.get? b = some { cls := .type T, dict := dd, data := .seq items2 n2, slots := sl }) ∧
      R (.ok (.ret Value.none)) { s with heap := s.heap.update l (Obj.mapSeq fun x => x ++ items2) }) := by
  refine .of_wp fun prog w A R s h => ?_
  obtain ⟨hp, g, d, tk, os⟩ := s
  obtain ⟨⟨hl, hb⟩, h⟩ := h
  have f1 := AutoSeq1.idx_int
  have f2 := AutoSeq1.sub_tuple_tuple
  have f3 := AutoSeq1.sub_list_list
  have f4 := AutoSeq1.sub_tuple_list
  have f5 := AutoSeq1.sub_list_tuple
  rcases hT with rfl | rfl
  · wp_walk using (wpAny_updateSeq hl rfl (hz := h1) (_hz' := h2)), wpAny_loadPart' hl, wpAny_loadPart' hb
    exact ⟨_, rfl, h⟩
  · wp_walk using (wpAny_updateSeq hl rfl (hz := h1) (_hz' := h2)), wpAny_loadPart' hl, wpAny_loadPart' hb
    exact ⟨_, rfl, h⟩
section
variable {X : Cx}
/-- xs.extend(ys), ys a list or a tuple -/
def rExt (K : PySem.W.Frag) : V → List V → Hp → VK → Prop := fun x vs H Q => ∃ l b xs zs, x = .ref l ∧ vs = [.ref b] ∧ H l = some (.lst xs) ∧ (SqL K H b zs ∨ SqT K H b zs) ∧ xs.length + zs.length ≤ sizeLine ∧ Q .non (upd H l (.lst (xs ++ zs)))
theorem mt_ext : MtR X "list.extend" (rExt X.K) := by
  intro pins s σ H x vs v us Q I rx rv h
  obtain ⟨l, b, xs, zs, rfl, rfl, hH, hB, hz, q⟩ := h
  cases rx
  obtain ⟨u, rfl, ru⟩ := rv.one
  cases ru
  obtain ⟨z, its, n, r, hl, e⟩ := I.lstM hH
  have other : ∃ its2 T dd n2 sl, (T = "tuple" ∨ T = "list") ∧ Vals zs its2 ∧ s.heap.get? b = some { cls := .type T, dict := dd, data := .seq its2.toArray n2, slots := sl } := by
    rcases hB with hB | hB
    · obtain ⟨its2, r2, ⟨o, n2, e2, c2, _, d2⟩, _⟩ := I.list hB
      obtain ⟨cls, dd, data, sl⟩ := o
      simp only at c2 d2
      subst c2 d2
      exact ⟨its2, _, dd, n2, sl, .inr rfl, r2, e2⟩
    · obtain ⟨its2, r2, ⟨o, e2, c2, n2, d2⟩, _⟩ := I.tuple hB
      obtain ⟨cls, dd, data, sl⟩ := o
      simp only at c2 d2
      subst c2 d2
      exact ⟨its2, _, dd, n2, sl, .inl rfl, r2, e2⟩
  obtain ⟨its2, T, dd, n2, sl, hT, r2, e2⟩ := other
  have hl2 := r2.length
  have sz : its.toArray.size + its2.toArray.size ≤ sizeLine := by rw [List.size_toArray, List.size_toArray]; omega
  have long : ¬ (!its.toArray.isEmpty && Builtin.List.listTooLong (its.toArray.size + its2.toArray.size)) = true := by
    rw [notLongL sz, Bool.and_false]
    decide
  refine call_meets F.slot_list_extend ⟨_, e, rfl⟩ F.entry_list_extend (F.args_list_extend_2 _ _)
    (extend_any hT l its.toArray n b its2.toArray n2 dd sl long (by rw [List.size_toArray]; omega) (by rw [Array.size_append]; omega)) ⟨⟨e, e2⟩, ?_⟩
  refine ⟨.non, _, I.lset (its' := its ++ its2) hH e (by simp) (r.append r2) ?_, rfl, q⟩
  rw [List.length_append]
  omega
end
end DIExt
set_option Elab.async false
set_option linter.all false
set_option maxRecDepth 100000
set_option maxHeartbeats 1000000
/-! DIS9: paths and what is changed at their ends. -/
namespace DI
open PySem PySem.Spec PyProof.Rows L2

/-- one step down from a list or a dict -/
def StepAt (H : Hp) (w : V) (k : PV) (y : V) : Prop :=
  (∃ a ws i, w = .ref a ∧ k = .int i ∧ H a = some (.lst ws) ∧ atI ws i = some y) ∨ ∃ a kvs q, w = .ref a ∧ keyI k = some q ∧ H a = some (.dK kvs) ∧ valV kvs q = some y
def PAt (H : Hp) : V → List PV → V → Prop
  | w, [], x => w = x
  | w, k :: ks, x => ∃ y, StepAt H w k y ∧ PAt H y ks x
theorem PAt.snoc {H : Hp} {k : PV} {y : V} : ∀ {ks : List PV} {w x : V}, PAt H w ks x → StepAt H x k y → PAt H w (ks ++ [k]) y
  | [], w, x, h, s => by
    have h : w = x := h
    subst h
    exact ⟨y, s, rfl⟩
  | j :: ks, w, x, h, s => by
    obtain ⟨z, h1, h2⟩ := h
    exact ⟨z, h1, h2.snoc s⟩
theorem StepAt.same {H H' : Hp} {w y : V} {k : PV} (s : Same H H') (h : StepAt H w k y) : StepAt H' w k y := by
  rcases h with ⟨a, ws, i, e1, e2, e3, e4⟩ | ⟨a, kvs, q, e1, e2, e3, e4⟩
  · exact .inl ⟨a, ws, i, e1, e2, s _ _ e3, e4⟩
  · exact .inr ⟨a, kvs, q, e1, e2, s _ _ e3, e4⟩
theorem PAt.same {H H' : Hp} (s : Same H H') : ∀ {ks : List PV} {w x : V}, PAt H w ks x → PAt H' w ks x
  | [], w, x, h => h
  | j :: ks, w, x, h => by
    obtain ⟨z, h1, h2⟩ := h
    exact ⟨z, h1.same s, h2.same s⟩
section
variable {X : KX} {H H' : Hp}
/-- the parts beside a place -/
theorem RpL.put {m : Bool} : ∀ {vs : List PV} {ws : List V} {j : Nat} {v : PV} {F : List Addr}, RpL m X H vs ws F → vs[j]? = some v → ∃ (w : V) (F1 G F2 : List Addr), ws[j]? = some w ∧ F = F1 ++ (G ++ F2) ∧ Rp m X H v w G ∧
    ∀ (H' : Hp) (v' : PV) (G' : List Addr), Fix H H' → X.Ok → (∀ b ∈ F1 ++ F2, ∀ o, H b = some o → H' b = some o) → Rp m X H' v' w G' → RpL m X H' (vs.set j v') ws (F1 ++ (G' ++ F2))
  | [], ws, j, v, F, r, e => by simp at e
  | u :: vs, ws, 0, v, F, r, e => by
    simp at e; subst e
    unfold RpL at r
    obtain ⟨w, ws', F1, F2, e, eF, r1, r2⟩ := r
    subst e; subst eF
    refine ⟨w, [], F1, F2, rfl, rfl, r1, fun H' v' G' fx ok k rv => ?_⟩
    show RpL m X H' (v' :: vs) (w :: ws') ([] ++ (G' ++ F2))
    rw [List.nil_append]
    exact RpL.cons rv (r2.fix ok fx fun b hb => k b hb)
  | u :: vs, ws, j + 1, v, F, r, e => by
    unfold RpL at r
    obtain ⟨w, ws', F1, F2, e1, eF, r1, r2⟩ := r
    subst e1; subst eF
    obtain ⟨w2, G1, G, G2, h1, h2, h3, h4⟩ := RpL.put (j := j) (v := v) r2 (by simpa using e)
    subst h2
    refine ⟨w2, F1 ++ G1, G, G2, by simpa using h1, by simp [List.append_assoc], h3, fun H' v' G' fx ok k rv => ?_⟩
    have q := h4 H' v' G' fx ok (fun b hb => k b (by
      rcases List.mem_append.mp hb with hb | hb
      · exact List.mem_append_left _ (List.mem_append_right _ hb)
      · exact List.mem_append_right _ hb)) rv
    have q1 := r1.fix ok fx fun b hb => k b (List.mem_append_left _ (List.mem_append_left _ hb))
    have := RpL.cons q1 q
    simpa [List.append_assoc] using this
/-- a dict's keys and values at a key that is there -/
theorem lookK_at (k : Key) : ∀ {ks : List Key} {vs : List PV} {v : PV}, lookK k ks vs = some v → ∃ j, ks[j]? = some k ∧ vs[j]? = some v ∧ ∀ x, replK k x ks vs = vs.set j x
  | [], vs, v, h => by cases vs <;> simp [lookK] at h
  | q :: ks, [], v, h => by simp [lookK] at h
  | q :: ks, u :: vs, v, h => by
    unfold lookK at h
    by_cases e : k = q
    · rw [if_pos e] at h
      cases h
      exact ⟨0, by rw [e]; rfl, rfl, fun x => by unfold replK; rw [if_pos e]; rfl⟩
    · rw [if_neg e] at h
      obtain ⟨j, h1, h2, h3⟩ := lookK_at k h
      exact ⟨j + 1, by simpa using h1, by simpa using h2, fun x => by unfold replK; rw [if_neg e, h3]; rfl⟩
theorem memK_iff {k : Key} : ∀ {ks : List Key}, memK k ks = true ↔ k ∈ ks
  | [] => by simp [memK]
  | q :: ks => by simp [memK, memK_iff (ks := ks)]
theorem valV_at {kvs : List (Key × V)} {j : Nat} {p : Key × V} (nd : (kvs.map (·.1)).Nodup) (h : kvs[j]? = some p) : valV kvs p.1 = some p.2 := by
  induction kvs generalizing j with
  | nil => simp at h
  | cons q r ih =>
    cases j with
    | zero =>
      simp at h
      subst h
      exact valV_pos rfl
    | succ j =>
      simp only [List.map_cons, List.nodup_cons] at nd
      have h' : r[j]? = some p := by simpa using h
      have hm : p.1 ∈ r.map (·.1) := List.mem_map_of_mem (List.mem_of_getElem? h')
      rw [valV_neg (fun e => nd.1 (by rw [e]; exact hm))]
      exact ih nd.2 h'
/-- the thing at a path, and the whole with another one there -/
theorem rp_path (ok : X.Ok) : ∀ {ks : List PV} {v w0 : PV} {wv x : V} {F : List Addr}, Rp true X H v wv F → F.Nodup → getP v ks = some w0 → PAt H wv ks x →
    ∃ (G rest : List Addr), (∀ b, b ∈ F ↔ b ∈ G ∨ b ∈ rest) ∧ (∀ b ∈ G, b ∉ rest) ∧ G.Nodup ∧ Rp true X H w0 x G ∧
      ∀ (H' : Hp) (w1 v' : PV) (G' : List Addr), Fix H H' → (∀ b ∈ rest, ∀ o, H b = some o → H' b = some o) → Rp true X H' w1 x G' → G'.Nodup → (∀ b ∈ G', b ∉ rest) → setP v ks w1 = some v' →
        ∃ F', Rp true X H' v' wv F' ∧ F'.Nodup ∧ ∀ b, b ∈ F' ↔ b ∈ G' ∨ b ∈ rest
  | [], v, w0, wv, x, F, r, nd, hg, hp => by
    have hp : wv = x := hp
    subst hp
    cases hg
    refine ⟨F, [], fun b => by simp, fun b _ => by simp, nd, r, fun H' w1 v' G' fx _ rw' nd' _ hs => ?_⟩
    cases hs
    exact ⟨G', rw', nd', fun b => by simp⟩
  | k :: ks, v, w0, wv, x, F, r, nd, hg, hp => by
    obtain ⟨y, hst, hpy⟩ := hp
    unfold getP at hg
    by_cases hbox : v.isBox = true
    rotate_left
    · rw [if_neg hbox] at hg; cases hg
    rw [if_pos hbox] at hg
    cases hix : ixI v k with
    | none => rw [hix] at hg; cases hg
    | some u =>
      rw [hix] at hg
      -- a list or a dict
      have node : ∃ (a : Addr) (F1 G1 F2 : List Addr), F = a :: (F1 ++ (G1 ++ F2)) ∧ Rp true X H u y G1 ∧
          ∀ (H' : Hp) (u' v' : PV) (G' : List Addr), Fix H H' → (∀ b ∈ a :: (F1 ++ F2), ∀ o, H b = some o → H' b = some o) → Rp true X H' u' y G' → setI v k u' = some v' → Rp true X H' v' wv (a :: (F1 ++ (G' ++ F2))) := by
        rcases hst with ⟨a, ws, i, rfl, rfl, ha, hy⟩ | ⟨a, kvs, q, rfl, hq, ha, hy⟩
        · cases v with
          | lst vs =>
            obtain ⟨a', ws', G0, e, hl, rl⟩ := rp_lst' r
            cases e
            obtain ⟨hl1, hl2⟩ := hl.own
            rw [ha] at hl1
            cases hl1
            have hix' : atI vs i = some u := hix
            unfold atI at hix'
            cases ej : ixN vs.length i with
            | none => rw [ej] at hix'; cases hix'
            | some j =>
              rw [ej] at hix'
              have hix' : vs[j]? = some u := hix'
              obtain ⟨w2, F1, G1, F2, e1, e2, r2, put⟩ := rl.put hix'
              have hy' : ws[j]? = some y := by
                unfold atI at hy
                rw [← rl.length, ej] at hy
                exact hy
              rw [e1] at hy'
              cases hy'
              refine ⟨a, F1, G1, F2, by rw [hl2, e2], r2, fun H' u' v' G' fx kk ru hs => ?_⟩
              have hs' : (ixN vs.length i).map (fun j => PV.lst (vs.set j u')) = some v' := hs
              rw [ej] at hs'
              cases hs'
              unfold Rp
              exact ⟨a, ws, _, rfl, .inl ⟨kk a List.mem_cons_self _ ha, rfl⟩, put H' u' G' fx ok (fun b hb => kk b (List.mem_cons_of_mem _ hb)) ru⟩
          | dct ks vs =>
            obtain ⟨a', kvs, G0, e, hd, _⟩ := rp_dct' r
            cases e
            rw [ha] at hd; cases hd
          | _ => cases hbox
        · cases v with
          | dct ks vs =>
            obtain ⟨a', kvs', G0, e, hd, hk, eG, rl⟩ := rp_dct' r
            cases e
            rw [ha] at hd
            cases hd
            have hlk : lookK q ks vs = some u := by
              unfold ixI at hix
              cases k <;> first | (cases hq; done) | (simp only [keyI] at hq; cases hq; exact hix)
            obtain ⟨j, j1, j2, j3⟩ := lookK_at q hlk
            obtain ⟨w2, F1, G1, F2, e1, e2, r2, put⟩ := rl.put j2
            have hw : w2 = y := by
              rw [List.getElem?_map] at e1
              cases ep : kvs[j]? with
              | none => rw [ep] at e1; cases e1
              | some p =>
                rw [ep] at e1
                have e1' : p.2 = w2 := by simpa using e1
                have hp1 : p.1 = q := by
                  rw [← hk.1, List.getElem?_map, ep] at j1
                  simpa using j1
                have := valV_at (by rw [hk.1]; exact hk.2) ep
                rw [hp1, hy] at this
                rw [← e1']
                exact (Option.some.inj this).symm
            subst hw
            refine ⟨a, F1, G1, F2, by rw [eG, e2], r2, fun H' u' v' G' fx kk ru hs => ?_⟩
            have hs' : (if ks.length < sizeLine then some (PV.dct (setK q u' ks vs).1 (setK q u' ks vs).2) else none) = some v' := by
              unfold setI at hs
              rw [hq] at hs
              exact hs
            split at hs'
            · cases hs'
              have mem : memK q ks = true := memK_iff.mpr (List.mem_of_getElem? j1)
              have es : setK q u' ks vs = (ks, vs.set j u') := by
                unfold setK
                rw [if_pos mem, j3]
              rw [es]
              unfold Rp
              exact ⟨a, kvs, _, rfl, kk a List.mem_cons_self _ ha, hk, rfl, put H' u' G' fx ok (fun b hb => kk b (List.mem_cons_of_mem _ hb)) ru⟩
            · cases hs'
          | lst vs =>
            obtain ⟨a', ws', G0, e, hl, rl⟩ := rp_lst' r
            cases e
            obtain ⟨hl1, _⟩ := hl.own
            rw [ha] at hl1; cases hl1
          | _ => cases hbox
      obtain ⟨a, F1, G1, F2, eF, r1, put⟩ := node
      subst eF
      have nd1 : G1.Nodup := ((List.nodup_append.mp (List.nodup_append.mp (List.nodup_cons.mp nd).2).2.1).1)
      obtain ⟨G, rest, m1, m2, m3, m4, m5⟩ := rp_path ok r1 nd1 hg hpy
      have nd0 := List.nodup_cons.mp nd
      have ndA := List.nodup_append.mp nd0.2
      have ndB := List.nodup_append.mp ndA.2.1
      have aG : ∀ b ∈ G, b ∈ G1 := fun b hb => (m1 b).mpr (.inl hb)
      have aR : ∀ b ∈ rest, b ∈ G1 := fun b hb => (m1 b).mpr (.inr hb)
      have out : ∀ b ∈ G1, b ≠ a ∧ b ∉ F1 ∧ b ∉ F2 := fun b hb =>
        ⟨fun e => nd0.1 (by rw [← e]; exact List.mem_append_right _ (List.mem_append_left _ hb)), fun h => ndA.2.2 b h b (List.mem_append_left _ hb) rfl, fun h => ndB.2.2 b hb b h rfl⟩
      refine ⟨G, a :: (F1 ++ (rest ++ F2)), fun b => ?_, fun b hb h => ?_, m3, m4, fun H' w1 v' G' fx kk rw' nd' ds hs => ?_⟩
      · simp only [List.mem_cons, List.mem_append, m1]
        constructor
        · rintro (h | h | (h | h) | h)
          · exact .inr (.inl h)
          · exact .inr (.inr (.inl h))
          · exact .inl h
          · exact .inr (.inr (.inr (.inl h)))
          · exact .inr (.inr (.inr (.inr h)))
        · rintro (h | h | h | h | h)
          · exact .inr (.inr (.inl (.inl h)))
          · exact .inl h
          · exact .inr (.inl h)
          · exact .inr (.inr (.inl (.inr h)))
          · exact .inr (.inr (.inr h))
      · obtain ⟨o1, o2, o3⟩ := out b (aG b hb)
        simp only [List.mem_cons, List.mem_append] at h
        rcases h with h | h | h | h
        · exact o1 h
        · exact o2 h
        · exact m2 b hb h
        · exact o3 h
      · unfold setP at hs
        rw [hix] at hs
        dsimp only at hs
        cases hs1 : setP u ks w1 with
        | none => rw [hs1] at hs; cases hs
        | some u' =>
          rw [hs1] at hs
          have hs : setI v k u' = some v' := hs
          have ds' : ∀ b ∈ G', b ∉ rest ∧ b ≠ a ∧ b ∉ F1 ∧ b ∉ F2 := fun b hb => by
            have := ds b hb
            simp only [List.mem_cons, List.mem_append, not_or] at this
            exact ⟨this.2.2.1, this.1, this.2.1, this.2.2.2⟩
          obtain ⟨F', r', n', m'⟩ := m5 H' w1 u' G' fx (fun b hb => kk b (List.mem_cons_of_mem _ (List.mem_append_right _ (List.mem_append_left _ hb)))) rw' nd' (fun b hb => (ds' b hb).1) hs1
          have fin := put H' u' v' F' fx (fun b hb => kk b (by
            rcases List.mem_cons.mp hb with h | h
            · rw [h]; exact List.mem_cons_self
            · rcases List.mem_append.mp h with h | h
              · exact List.mem_cons_of_mem _ (List.mem_append_left _ h)
              · exact List.mem_cons_of_mem _ (List.mem_append_right _ (List.mem_append_right _ h)))) r' hs
          have outF : ∀ b ∈ F', b ≠ a ∧ b ∉ F1 ∧ b ∉ F2 := fun b hb => by
            rcases (m' b).mp hb with h | h
            · exact (ds' b h).2
            · exact out b (aR b h)
          refine ⟨_, fin, List.nodup_cons.mpr ⟨fun h => ?_, List.nodup_append.mpr ⟨ndA.1, List.nodup_append.mpr ⟨n', ndB.2.1, fun x hx y hy e => ?_⟩, fun x hx y hy e => ?_⟩⟩, fun b => ?_⟩
          · rcases List.mem_append.mp h with h | h
            · exact nd0.1 (List.mem_append_left _ h)
            · rcases List.mem_append.mp h with h | h
              · exact (outF a h).1 rfl
              · exact nd0.1 (List.mem_append_right _ (List.mem_append_right _ h))
          · subst e
            exact (outF x hx).2.2 hy
          · subst e
            rcases List.mem_append.mp hy with h | h
            · exact (outF x h).2.1 hx
            · exact ndA.2.2 x hx x (List.mem_append_right _ h) rfl
          · simp only [List.mem_cons, List.mem_append, m']
            constructor
            · rintro (h | h | (h | h) | h)
              · exact .inr (.inl h)
              · exact .inr (.inr (.inl h))
              · exact .inl h
              · exact .inr (.inr (.inr (.inl h)))
              · exact .inr (.inr (.inr (.inr h)))
            · rintro (h | h | h | h | h)
              · exact .inr (.inr (.inl (.inl h)))
              · exact .inl h
              · exact .inr (.inl h)
              · exact .inr (.inr (.inl (.inr h)))
              · exact .inr (.inr (.inr h))
/-- another list of parts for a slot -/
def pu (fp : Nat → List Addr) (i : Nat) (F : List Addr) : Nat → List Addr := fun j => if j = i then F else fp j
theorem pu_mem {fp : Nat → List Addr} {i j : Nat} {F : List Addr} {b : Addr} (h : b ∈ pu fp i F j) : (j = i ∧ b ∈ F) ∨ (j ≠ i ∧ b ∈ fp j) := by
  unfold pu at h
  by_cases e : j = i
  · rw [if_pos e] at h; exact .inl ⟨e, h⟩
  · rw [if_neg e] at h; exact .inr ⟨e, h⟩
theorem getM_putS {env : PEnv} {i j : Nat} {v v' : PV} (h : getM env i = some v) : getM (putS env i v') j = if j = i then some v' else getM env j := by
  unfold getM at h
  have hl : i < env.length := by
    by_cases hl : i < env.length
    · exact hl
    · rw [List.getElem?_eq_none (by omega)] at h; cases h
  unfold putS
  cases hs : env[i]? with
  | none => rw [hs] at h; cases h
  | some s =>
    rw [hs] at h
    cases s with
    | un => cases h
    | ro k u => cases h
    | ow u =>
      unfold getM
      by_cases e : j = i
      · subst e
        rw [if_pos rfl, List.getElem?_set_self hl]
      · rw [if_neg e, List.getElem?_set_ne (Ne.symm e)]
    | rf u =>
      unfold getM
      by_cases e : j = i
      · subst e
        rw [if_pos rfl, List.getElem?_set_self hl]
      · rw [if_neg e, List.getElem?_set_ne (Ne.symm e)]
theorem putS_ro {env : PEnv} {i j : Nat} {k : Bool} {v v' u : PV} (h : getM env i = some v) : (putS env i v')[j]? = some (.ro k u) → env[j]? = some (.ro k u) := by
  intro hj
  unfold putS at hj
  unfold getM at h
  by_cases e : j = i
  · subst e
    cases hs : env[j]? with
    | none => rw [hs] at h; cases h
    | some s =>
      rw [hs] at h hj
      have hl : j < env.length := by
        by_cases hl : j < env.length
        · exact hl
        · rw [List.getElem?_eq_none (by omega)] at hs; cases hs
      cases s <;> first | (cases h; done) | (simp only [List.getElem?_set_self hl] at hj; cases hj)
  · split at hj
    · rwa [List.getElem?_set_ne (Ne.symm e)] at hj
    · rwa [List.getElem?_set_ne (Ne.symm e)] at hj
    · exact hj
theorem putS_len {env : PEnv} {i : Nat} {v' : PV} : (putS env i v').length = env.length := by
  unfold putS
  split <;> simp
theorem putS_fix {env : PEnv} {i j : Nat} {v' : PV} {s : Slot} (h : env[j]? = some s) (hf : s.fix = true) : ∃ s', (putS env i v')[j]? = some s' ∧ s'.fix = true := by
  unfold putS
  have hl : j < env.length := by
    rcases Nat.lt_or_ge j env.length with z | z
    · exact z
    · rw [List.getElem?_eq_none z] at h; cases h
  by_cases e : j = i
  · subst e
    rw [h]
    cases s with
    | un => cases hf
    | ow u => cases hf
    | ro k u => exact ⟨_, h, hf⟩
    | rf u => exact ⟨_, List.getElem?_set_self hl, rfl⟩
  · split
    · exact ⟨s, by rw [List.getElem?_set_ne (Ne.symm e)]; exact h, hf⟩
    · exact ⟨s, by rw [List.getElem?_set_ne (Ne.symm e)]; exact h, hf⟩
    · exact ⟨s, h, hf⟩
/-- a slot's value is changed: what is new is no part of anything else -/
theorem Sim.put (ok : X.Ok) {env : PEnv} {σ : St} {fp : Nat → List Addr} {i : Nat} {v v' : PV} {wv : V} {F' : List Addr} (S : Sim X env σ H fp) (hm : getM env i = some v) (hσ : σ[i]? = some (some wv)) (r : Rp true X H' v' wv F') (nd : F'.Nodup)
    (frm : ∀ b o, H b = some o → b ∉ fp i → H' b = some o) (nw : ∀ b ∈ F', b ∈ fp i ∨ ((∀ j, b ∉ fp j) ∧ ¬ X.Z b)) : Sim X (putS env i v') σ H' (pu fp i F') ∧ Fix H H' := by
  have fx : Fix H H' := ⟨fun b o h ho => frm b o h fun hb => by
    obtain ⟨o', h', e⟩ := S.owned hb
    rw [h] at h'; cases h'; rw [ho] at e; cases e⟩
  have keepj : ∀ j, j ≠ i → ∀ b ∈ fp j, ∀ o, H b = some o → H' b = some o := fun j hj b hb o ho => frm b o ho fun h => hj (S.dis j i b hb h)
  refine ⟨⟨by rw [putS_len]; exact S.len, fun j u h => ?_, fun j h => ?_, fun j k u h => ?_, S.qz, fun j k b h1 h2 => ?_, fun j => ?_, fun j b hb => ?_, fun b hz => ?_, fun j w h => ?_⟩, fx⟩
  rotate_right
  · obtain ⟨e1, s, e2, e3⟩ := S.fx j w h
    obtain ⟨s', e2', e3'⟩ := putS_fix (v' := v') e2 e3
    exact ⟨e1, s', e2', e3'⟩
  · rw [getM_putS hm] at h
    unfold pu
    by_cases e : j = i
    · rw [if_pos e] at h ⊢
      cases h
      exact ⟨wv, by rw [e]; exact hσ, r⟩
    · rw [if_neg e] at h ⊢
      obtain ⟨w, e1, rw'⟩ := S.own j u h
      exact ⟨w, e1, rw'.fix ok fx (keepj j e)⟩
  · rw [getM_putS hm] at h
    unfold pu
    by_cases e : j = i
    · rw [if_pos e] at h; cases h
    · rw [if_neg e] at h ⊢
      exact S.emp j h
  · obtain ⟨w, G, e1, rw', hz⟩ := S.ro j k u (putS_ro hm h)
    exact ⟨w, G, e1, rw'.fix ok fx fun b hb o ho => frm b o ho fun h => S.zd i b h (S.qz _ _ _ _ hz b hb), hz⟩
  · rcases pu_mem h1 with ⟨e1, h1⟩ | ⟨e1, h1⟩ <;> rcases pu_mem h2 with ⟨e2, h2⟩ | ⟨e2, h2⟩
    · rw [e1, e2]
    · rcases nw b h1 with h | h
      · exact absurd (S.dis k i b h2 h) e2
      · exact absurd h2 (h.1 k)
    · rcases nw b h2 with h | h
      · exact absurd (S.dis j i b h1 h) e1
      · exact absurd h1 (h.1 j)
    · exact S.dis j k b h1 h2
  · unfold pu
    by_cases e : j = i
    · rw [if_pos e]; exact nd
    · rw [if_neg e]; exact S.nd j
  · rcases pu_mem hb with ⟨_, hb⟩ | ⟨_, hb⟩
    · rcases nw b hb with h | h
      · exact S.zd i b h
      · exact h.2
    · exact S.zd j b hb
  · obtain ⟨o, ho⟩ := S.zt b hz
    exact ⟨o, frm b o ho fun h => S.zd i b h hz⟩
/-- mutP, in the heap: x is the thing at the path; what the operation wants is said of it -/
theorem mut_step (ok : X.Ok) {env env' : PEnv} {σ : St} {fp : Nat → List Addr} {i : Nat} {ks : List PV} {α : Type} {f : PV → Option (PV × α)} {r : α} {wv x : V} (S : Sim X env σ H fp) (hσ : σ[i]? = some (some wv)) (hp : PAt H wv ks x)
    (h : mutP env i ks f = .ok r env') :
    ∃ w0 w1 G, f w0 = some (w1, r) ∧ Rp true X H w0 x G ∧ G.Nodup ∧ (∀ b ∈ G, b ∈ fp i) ∧
      ∀ (H' : Hp) (G' : List Addr), (∀ b o, H b = some o → b ∉ G → H' b = some o) → Rp true X H' w1 x G' → G'.Nodup → (∀ b ∈ G', b ∈ G ∨ ((∀ j, b ∉ fp j) ∧ ¬ X.Z b)) →
        ∃ fp', Sim X env' σ H' fp' ∧ (∀ j b, b ∈ fp' j → (b ∈ fp j ∧ b ∉ G) ∨ b ∈ G') ∧ Fix H H' := by
  unfold mutP at h
  cases hm : getM env i with
  | none => rw [hm] at h; cases h
  | some v =>
    rw [hm] at h
    dsimp only at h
    cases hg : getP v ks with
    | none => rw [hg] at h; cases h
    | some w0 =>
      rw [hg] at h
      dsimp only at h
      cases hf : f w0 with
      | none => rw [hf] at h; cases h
      | some q =>
        obtain ⟨w1, r'⟩ := q
        rw [hf] at h
        dsimp only at h
        cases hs : setP v ks w1 with
        | none => rw [hs] at h; cases h
        | some v' =>
          rw [hs] at h
          cases h
          obtain ⟨w, e1, rv⟩ := S.own i v hm
          rw [hσ] at e1
          have ew : wv = w := Option.some.inj (Option.some.inj e1)
          subst ew
          obtain ⟨G, rest, m1, m2, m3, m4, m5⟩ := rp_path ok rv (S.nd i) hg hp
          refine ⟨w0, w1, G, hf, m4, m3, fun b hb => (m1 b).mpr (.inl hb), fun H' G' frm rw' nd' nw => ?_⟩
          have fx : Fix H H' := ⟨fun b o h ho => frm b o h fun hb => by
            obtain ⟨o', h', e⟩ := S.owned ((m1 b).mpr (.inl hb))
            rw [h] at h'; cases h'; rw [ho] at e; cases e⟩
          have d1 : ∀ b ∈ G', b ∉ rest := fun b hb hr => by
            rcases nw b hb with h | h
            · exact m2 b h hr
            · exact h.1 i ((m1 b).mpr (.inr hr))
          obtain ⟨F', r', n', m'⟩ := m5 H' w1 v' G' fx (fun b hb o ho => frm b o ho fun h => m2 b h hb) rw' nd' d1 hs
          obtain ⟨S', _⟩ := Sim.put ok S hm hσ r' n' (fun b o h hb => frm b o h fun hG => hb ((m1 b).mpr (.inl hG))) (fun b hb => by
            rcases (m' b).mp hb with h | h
            · rcases nw b h with h | h
              · exact .inl ((m1 b).mpr (.inl h))
              · exact .inr h
            · exact .inl ((m1 b).mpr (.inr h)))
          refine ⟨_, S', fun j b hb => ?_, fx⟩
          rcases pu_mem hb with ⟨e, hb⟩ | ⟨nj, hb⟩
          · rcases (m' b).mp hb with h | h
            · exact .inr h
            · exact .inl ⟨by rw [e]; exact (m1 b).mpr (.inr h), fun hG => m2 b hG h⟩
          · exact .inl ⟨hb, fun hG => nj (S.dis j i b hb ((m1 b).mpr (.inl hG)))⟩
end
end DI
set_option Elab.async false
set_option linter.all false
set_option maxRecDepth 100000
set_option maxHeartbeats 1000000
/-! DIS10: paths read, statements' readings, methods that change. -/
namespace DI
open PySem PySem.Spec PyProof.Rows L2

theorem getP_snoc {k w0 u : PV} : ∀ {ks : List PV} {v : PV}, getP v ks = some w0 → w0.isBox = true → ixI w0 k = some u → getP v (ks ++ [k]) = some u
  | [], v, h, hb, hi => by
    cases h
    show getP w0 [k] = some u
    unfold getP
    rw [if_pos hb, hi]
    rfl
  | j :: ks, v, h, hb, hi => by
    show getP v (j :: (ks ++ [k])) = some u
    unfold getP at h ⊢
    by_cases hv : v.isBox = true
    · rw [if_pos hv] at h ⊢
      cases e : ixI v j with
      | none => rw [e] at h; cases h
      | some w => rw [e] at h; exact getP_snoc (ks := ks) h hb hi
    · rw [if_neg hv] at h; cases h
section
variable {X : KX} {H : Hp}
/-- one step down, read -/
theorem step_ok (ok : X.Ok) {m : Bool} {w0 k u : PV} {x kw : V} {G Gk : List Addr} (r : Rp true X H w0 x G) (hb : w0.isBox = true) (hi : ixI w0 k = some u) (rk : Rp m X H k kw Gk) : ∃ y, StepAt H x k y ∧ ∀ Q : VK, Q y H → rIxP X.K x kw H Q := by
  cases w0 with
  | lst vs =>
    obtain ⟨a, ws, G0, rfl, hl, rl⟩ := rp_lst' r
    cases k <;> try cases hi
    rename_i i
    have hi' : atI vs i = some u := hi
    obtain ⟨y, Gy, hy, _, _⟩ := atI_rp rl hi'
    have ek : kw = .int i := rp_int' rk
    subst ek
    exact ⟨y, .inl ⟨a, ws, i, rfl, rfl, hl.own.1, hy⟩, fun Q q => .inl (.inl ⟨a, ws, i, y, rfl, rfl, .inl (.inl hl.own.1), hy, q⟩)⟩
  | dct ks vs =>
    obtain ⟨a, kvs, G0, rfl, hd, hk, eG, rl⟩ := rp_dct' r
    have fin : ∀ q : Key, lookK q ks vs = some u → ∃ y, valV kvs q = some y := fun q hq => by
      obtain ⟨j, j1, j2, _⟩ := lookK_at q hq
      have : ∃ p, kvs[j]? = some p ∧ p.1 = q := by
        rw [← hk.1, List.getElem?_map] at j1
        cases ep : kvs[j]? with
        | none => rw [ep] at j1; cases j1
        | some p => rw [ep] at j1; exact ⟨p, rfl, by simpa using j1⟩
      obtain ⟨p, ep, e1⟩ := this
      refine ⟨p.2, ?_⟩
      rw [← e1]
      exact valV_at (by rw [hk.1]; exact hk.2) ep
    cases k <;> try cases hi
    · rename_i i
      obtain ⟨y, hy⟩ := fin (.inl i) hi
      have ek : kw = .int i := rp_int' rk
      subst ek
      refine ⟨y, .inr ⟨a, kvs, .inl i, rfl, rfl, hd, hy⟩, fun Q q => .inr ⟨a, y, rfl, ?_, q⟩⟩
      have := DGet.k (k := .inl i) hd
      rw [hy] at this
      exact this
    · rename_i i
      obtain ⟨y, hy⟩ := fin (.inr i) hi
      have ek : kw = .str i := rp_str' rk
      subst ek
      refine ⟨y, .inr ⟨a, kvs, .inr i, rfl, rfl, hd, hy⟩, fun Q q => .inr ⟨a, y, rfl, ?_, q⟩⟩
      have := DGet.k (k := .inr i) hd
      rw [hy] at this
      exact this
  | _ => cases hb
end
/-- behind a path -/
structure PostP (X : KX) (σ : St) (fp : Nat → List Addr) (H : Hp) (a : Nat × List PV) (env' : PEnv) (x : V) (H' : Hp) (fp' : Nat → List Addr) : Prop where
  sim : Sim X env' σ H' fp'
  stp : Stp fp H fp' H'
  same : Same H H'
  mono : ∀ i b, b ∈ fp' i → b ∈ fp i
  path : ∃ wv v w0, σ[a.1]? = some (some wv) ∧ PAt H' wv a.2 x ∧ getM env' a.1 = some v ∧ getP v a.2 = some w0
def RdP (Y : Cz) (e : E) : TE := fun σ H Q => ∃ env fp, Sim Y.X env σ H fp ∧
  Hold Y σ fp H (pathR Y.p Y.cf e env) fun a env' => ∀ w H' fp', PostP Y.X σ fp H a env' w H' fp' → Q w H'
section
variable {Y : Cz} {X : Cx} {a b c : Expr} {ea eb ec : E} {pos : Pos}
theorem pp_v {i : Nat} {x : Str} (hN : X.N[i]? = some x) (hv : Vis X.env.scope x) (hd : (x == ("__debug__" : Str)) = false) (hcd : (x == ("__classdict__" : Str)) = false) : PE X (.Name x pos) (RdP Y (.var i)) := by
  refine PE.mono (pe_var hN hv hd hcd) fun σ H Q ⟨env, fp, S, h⟩ => ?_
  unfold pathR at h
  obtain ⟨hc, hΦ⟩ := h.ite
  cases e : getM env i with
  | none => rw [e] at hc; cases hc
  | some v =>
    obtain ⟨w, e1, r⟩ := S.own i v e
    exact ⟨w, e1, hΦ w H fp ⟨S, Stp.refl, same_refl, fun _ _ h => h, w, v, v, e1, rfl, e, rfl⟩⟩
theorem pp_ix (O : Ok0 Y X) (ha : PE X a (RdP Y ea)) (hb : PE X b (RdB Y eb)) (hs : PlainIx b) : PE X (.Subscript a b pos) (RdP Y (.ix ea eb)) := by
  refine PE.mono (pe_ix (ixP O.hu) ha hb hs) fun σ H Q ⟨env, fp, S, h⟩ => ?_
  unfold pathR at h
  obtain ⟨hq, h⟩ := h.ite
  refine ⟨env, fp, S, h.bind.imp fun x env1 hx w1 H1 fp1 P1 => ?_⟩
  refine ⟨env1, fp1, P1.sim, (hx.adv P1.stp).bind.imp fun rb env2 hrb w2 H2 fp2 P2 => ?_⟩
  obtain ⟨hc, hΦ⟩ := hrb.ite
  have hc2 := and_r hc
  unfold pathOk at hc2
  cases em : getM env2 x.1 with
  | none => rw [em] at hc2; cases hc2
  | some v =>
    rw [em] at hc2
    dsimp only at hc2
    cases eg : getP v x.2 with
    | none => rw [eg] at hc2; cases hc2
    | some w0 =>
      rw [eg] at hc2
      dsimp only at hc2
      have hbox := and_l hc2
      cases ei : ixI w0 rb.1 with
      | none => rw [ei] at hc2; simp at hc2
      | some u =>
        obtain ⟨wv, v1, w01, e1, pa, _, _⟩ := P1.path
        obtain ⟨wv', e2, rv⟩ := P2.sim.own x.1 v em
        rw [e1] at e2
        have ew : wv = wv' := Option.some.inj (Option.some.inj e2)
        subst ew
        have sm := P2.same hq
        have pa2 := pa.same sm
        obtain ⟨G, rest, _, _, _, r0, _⟩ := rp_path O.ok rv (P2.sim.nd x.1) eg pa2
        obtain ⟨Gk, vbk⟩ := P2.vb
        obtain ⟨y, hst, fin⟩ := step_ok O.ok r0 hbox ei vbk.rp
        rw [← O.K]
        refine fin Q (hΦ y H2 fp2 ⟨P2.sim, P1.stp.trans P2.stp, same_trans P1.same sm, fun i b hb => P1.mono i b (P2.mono hq i b hb), wv, v, u, e1, pa2.snoc hst, em, getP_snoc eg hbox ei⟩)
end

/-! ### statements -/
def HoldS (Y : Cz) (fp : Nat → List Addr) (H : Hp) (r : SR) (D : Ends) : Prop :=
  match r with
  | .nx env => ∀ σ' H' fp', Sim Y.X env σ' H' fp' → Stp fp H fp' H' → D.nx σ' H'
  | .brk env => ∀ σ' H' fp', Sim Y.X env σ' H' fp' → Stp fp H fp' H' → D.bk σ' H'
  | .cnt env => ∀ σ' H' fp', Sim Y.X env σ' H' fp' → Stp fp H fp' H' → D.ct σ' H'
  | .ret v env => ∀ w F σ' H' fp', Sim Y.X env σ' H' fp' → Stp fp H fp' H' → VO Y.X fp H fp' H' v w F → D.rt w H'
  | .exc c fs env => ∀ σ' cls d H' fp', Sim Y.X env σ' H' fp' → Stp fp H fp' H' → Y.er c fs cls d H' → Y.W cls d σ' H'
  | .bad => False
def RdS (Y : Cz) (s : S) : TS := fun D σ H => ∃ env fp, Sim Y.X env σ H fp ∧ HoldS Y fp H (exS Y.p Y.cf Y.fu s env) D
def RdSs (Y : Cz) (ss : List S) : TS := fun D σ H => ∃ env fp, Sim Y.X env σ H fp ∧ HoldS Y fp H (exSs Y.p Y.cf Y.fu ss env) D
section
variable {Y : Cz} {σ : St} {env env' env1 env2 : PEnv} {fp fp1 fp2 : Nat → List Addr} {H H1 H2 : Hp} {D : Ends}
theorem VO.adv (t : Stp fp H fp1 H1) {fp' : Nat → List Addr} {H' : Hp} {v : PV} {w : V} {F : List Addr} (h : VO Y.X fp1 H1 fp' H' v w F) : VO Y.X fp H fp' H' v w F :=
  ⟨h.rp, h.nd, h.dis, fun b hb => t.fresh (h.new b hb), h.z⟩
theorem HoldS.adv {r : SR} (h : HoldS Y fp H r D) (t : Stp fp H fp1 H1) : HoldS Y fp1 H1 r D := by
  cases r with
  | nx env => exact fun σ' H' fp' S t' => h σ' H' fp' S (t.trans t')
  | brk env => exact fun σ' H' fp' S t' => h σ' H' fp' S (t.trans t')
  | cnt env => exact fun σ' H' fp' S t' => h σ' H' fp' S (t.trans t')
  | ret v env => exact fun w F σ' H' fp' S t' vo => h w F σ' H' fp' S (t.trans t') (vo.adv t)
  | exc c fs env => exact fun σ' cls d H' fp' S t' e => h σ' cls d H' fp' S (t.trans t') e
  | bad => exact h
theorem HoldS.st {α : Type} {r : R α} {f : α → PEnv → SR} (h : HoldS Y fp H (r.st f) D) : Hold Y σ fp H r fun a env => HoldS Y fp H (f a env) D := by
  cases r with
  | ok a env => exact h
  | exc c fs env => exact fun cls d H' fp' S t e => h σ cls d H' fp' S t e
  | bad => exact h
theorem HoldS.ite {c : Prop} [Decidable c] {a : SR} (h : HoldS Y fp H (if c then a else .bad) D) : c ∧ HoldS Y fp H a D := by
  by_cases hc : c
  · rw [if_pos hc] at h; exact ⟨hc, h⟩
  · rw [if_neg hc] at h; exact h.elim
theorem Hold.ite' {α : Type} {Φ : α → PEnv → Prop} {c : Prop} [Decidable c] {a : R α} (h : Hold Y σ fp H (if c then a else .bad) Φ) : c ∧ Hold Y σ fp H a Φ := h.ite

/-! ### a change at a path's end -/
theorem fix_upd {H : Hp} {a : Addr} {o o' : HO} (h : H a = some o) (ho : HOwn o = true) : Fix H (upd H a o') := ⟨fun b u e hu => by
  by_cases eb : b = a
  · subst eb
    rw [h] at e; cases e; rw [ho] at hu; cases hu
  · rw [upd_ne eb]; exact e⟩
theorem mut_done (ok : Y.X.Ok) {i : Nat} {ks : List PV} {α : Type} {f : PV → Option (PV × α)} {r : α} {wv x : V} (S : Sim Y.X env1 σ H1 fp1) (t : Stp fp H fp1 H1) (hσ : σ[i]? = some (some wv)) (hp : PAt H1 wv ks x) (h : mutP env1 i ks f = .ok r env') :
    ∃ w0 w1 G, f w0 = some (w1, r) ∧ Rp true Y.X H1 w0 x G ∧ G.Nodup ∧ (∀ b ∈ G, b ∈ fp1 i) ∧
      ∀ (H' : Hp) (G' : List Addr), (∀ b o, H1 b = some o → b ∉ G → H' b = some o) → Rp true Y.X H' w1 x G' → G'.Nodup → (∀ b ∈ G', b ∈ G ∨ ((∀ j, b ∉ fp1 j) ∧ ¬ Y.X.Z b ∧ ((∃ j, b ∈ fp j) ∨ H b = none))) →
        ∃ fp', Sim Y.X env' σ H' fp' ∧ Stp fp H fp' H' ∧ (∀ j b, b ∈ fp' j → (b ∈ fp1 j ∧ b ∉ G) ∨ b ∈ G') := by
  obtain ⟨w0, w1, G, e1, r0, nd, sub, k⟩ := mut_step ok S hσ hp h
  refine ⟨w0, w1, G, e1, r0, nd, sub, fun H' G' frm rw' nd' nw => ?_⟩
  obtain ⟨fp', S', m', _⟩ := k H' G' frm rw' nd' fun b hb => (nw b hb).imp (fun h => h) fun h => ⟨h.1, h.2.1⟩
  refine ⟨fp', S', ⟨fun b o hb hn => ?_, fun j b hb => ?_⟩, m'⟩
  · refine frm b o (t.frm b o hb hn) fun hG => ?_
    rcases t.new i b (sub b hG) with ⟨j, hj⟩ | h0
    · exact hn j hj
    · rw [hb] at h0; cases h0
  · rcases m' j b hb with h | h
    · exact t.new j b h.1
    · rcases nw b h with h | h
      · exact t.new i b (sub b h)
      · exact h.2.2
end
end DI
set_option Elab.async false
set_option linter.all false
set_option maxRecDepth 100000
set_option maxHeartbeats 1000000
/-! DIS11: methods of lists. -/
namespace DI
open PySem PySem.Spec PyProof.Rows L2

section
variable {Y : Cz} {σ : St} {env env' env1 env2 : PEnv} {fp fp1 fp2 : Nat → List Addr} {H H1 H2 : Hp} {D : Ends}
theorem PostP.ty (ok : Y.X.Ok) {a : Nat × List PV} {x : V} (P : PostP Y.X σ fp H a env1 x H1 fp1) (h : lstAt env1 a.1 a.2 = true) : tyV Y.X.K "list" x H1 := by
  obtain ⟨wv, v, w0, e1, pa, em, eg⟩ := P.path
  unfold lstAt at h
  rw [em] at h
  dsimp only at h
  rw [eg] at h
  obtain ⟨wv', e2, rv⟩ := P.sim.own a.1 v em
  rw [e1] at e2
  have ew : wv = wv' := Option.some.inj (Option.some.inj e2)
  subst ew
  obtain ⟨G, rest, _, _, _, r0, _⟩ := rp_path ok rv (P.sim.nd a.1) eg pa
  cases w0 <;> first | (cases h; done) | skip
  obtain ⟨p, ws, G0, rfl, hl, rl⟩ := rp_lst' r0
  exact .inl ⟨rfl, ws, hl.sq⟩
/-- the path again behind the arguments -/
theorem PostP.again {a : Nat × List PV} {x : V} {q : Bool} (P : PostP Y.X σ fp H a env1 x H1 fp1) (hs : q = true → Same H1 H2) (h : (a.2.isEmpty || q) = true) : ∃ wv, σ[a.1]? = some (some wv) ∧ PAt H2 wv a.2 x := by
  obtain ⟨wv, v, w0, e1, pa, em, eg⟩ := P.path
  refine ⟨wv, e1, ?_⟩
  rcases Bool.or_eq_true _ _ ▸ h with h | h
  · cases e : a.2 with
    | nil => rw [e] at pa; exact pa
    | cons k ks => rw [e] at h; cases h
  · exact pa.same (hs h)
/-- what a method's rule asks, met by muI -/
def MuOk (K : PySem.W.Frag) (m : MU) (r : V → List V → Hp → VK → Prop) : Prop :=
  ∀ (X : KX) (H : Hp) (vs : List PV) (w0 w1 : PV) (x : V) (ws : List V) (G F : List Addr) (Q : VK), X.K = K → X.Ok → muI m vs w0 = some (w1, ()) → Rp true X H w0 x G → G.Nodup → RpL true X H vs ws F → F.Nodup → (∀ b ∈ F, b ∉ G) →
    (∀ H' G', (∀ b o, H b = some o → b ∉ G → H' b = some o) → Rp true X H' w1 x G' → G'.Nodup → (∀ b ∈ G', b ∈ G ∨ b ∈ F) → Q .non H') → r x ws H Q
theorem rp_lstT {X : KX} {H : Hp} {vs : List PV} {x : V} {G : List Addr} (r : Rp true X H (.lst vs) x G) : ∃ a ws G0, x = .ref a ∧ H a = some (.lst ws) ∧ G = a :: G0 ∧ RpL true X H vs ws G0 := by
  obtain ⟨a, ws, G0, e, hl, rl⟩ := rp_lst' r
  obtain ⟨h1, h2⟩ := hl.own
  exact ⟨a, ws, G0, e, h1, h2, rl⟩
theorem rp_lstI {X : KX} {H : Hp} {vs : List PV} {a : Addr} {ws : List V} {G0 : List Addr} (h : H a = some (.lst ws)) (rl : RpL true X H vs ws G0) : Rp true X H (.lst vs) (.ref a) (a :: G0) := by
  unfold Rp
  exact ⟨a, ws, G0, rfl, .inl ⟨h, rfl⟩, rl⟩
theorem RpL.updA {X : KX} (ok : X.Ok) {H : Hp} {a : Addr} {o o' : HO} {vs : List PV} {ws : List V} {F : List Addr} (r : RpL true X H vs ws F) (ha : H a = some o) (ho : HOwn o = true) (hn : a ∉ F) : RpL true X (upd H a o') vs ws F :=
  r.fix ok (fix_upd ha ho) fun b hb u hu => by rw [upd_ne (fun e => hn (by rw [← e]; exact hb))]; exact hu
theorem Rp.updA {X : KX} (ok : X.Ok) {H : Hp} {a : Addr} {o o' : HO} {v : PV} {w : V} {F : List Addr} (r : Rp true X H v w F) (ha : H a = some o) (ho : HOwn o = true) (hn : a ∉ F) : Rp true X (upd H a o') v w F :=
  r.fix ok (fix_upd ha ho) fun b hb u hu => by rw [upd_ne (fun e => hn (by rw [← e]; exact hb))]; exact hu
theorem frm_upd {H : Hp} {a : Addr} {o' : HO} {G : List Addr} (h : a ∈ G) : ∀ b o, H b = some o → b ∉ G → upd H a o' b = some o := fun b o hb hn => by
  rw [upd_ne (fun e => hn (by rw [e]; exact h))]; exact hb
theorem rpL_one {m : Bool} {X : KX} {H : Hp} {v : PV} {ws : List V} {F : List Addr} (r : RpL m X H [v] ws F) : ∃ w, ws = [w] ∧ Rp m X H v w F := by
  unfold RpL at r
  obtain ⟨w, ws', F1, F2, e, eF, r1, r2⟩ := r
  unfold RpL at r2
  obtain ⟨e2, e3⟩ := r2
  subst e2 e3 eF e
  exact ⟨w, rfl, by rw [List.append_nil]; exact r1⟩
theorem mu_append {K : PySem.W.Frag} : MuOk K .append rAppend := by
  intro X H vs w0 w1 x ws G F Q eK ok h r nd rF ndF dj q
  cases w0 with
  | lst xs =>
    match vs, h with
    | [y], h =>
      have h' : (if xs.length < sizeLine then some (PV.lst (xs ++ [y]), ()) else none) = some (w1, ()) := h
      by_cases hz : xs.length < sizeLine
      · rw [if_pos hz] at h'
        cases h'
        obtain ⟨a, us, G0, rfl, ha, rfl, rl⟩ := rp_lstT r
        obtain ⟨w, rfl, ry⟩ := rpL_one rF
        have n0 := List.nodup_cons.mp nd
        have hF : a ∉ F := fun hb => dj a hb List.mem_cons_self
        have rn := (rl.append (RpL.cons ry RpL.nil)).updA (o' := .lst (us ++ [w])) ok ha rfl (fun hb => by
          rcases List.mem_append.mp hb with hb | hb
          · exact n0.1 hb
          · rw [List.append_nil] at hb; exact hF hb)
        refine ⟨a, us, w, rfl, rfl, ha, by rw [← rl.length]; exact hz, q _ _ (frm_upd List.mem_cons_self) (rp_lstI upd_same rn) ?_ fun b hb => ?_⟩
        · rw [List.append_nil]
          refine List.nodup_cons.mpr ⟨fun hb => ?_, List.nodup_append.mpr ⟨n0.2, ndF, fun b hb c hc e => ?_⟩⟩
          · rcases List.mem_append.mp hb with hb | hb
            · exact n0.1 hb
            · exact hF hb
          · subst e
            exact dj b hc (List.mem_cons_of_mem _ hb)
        · rw [List.append_nil] at hb
          rcases List.mem_cons.mp hb with e | hb
          · exact .inl (by rw [e]; exact List.mem_cons_self)
          · rcases List.mem_append.mp hb with hb | hb
            · exact .inl (List.mem_cons_of_mem _ hb)
            · exact .inr hb
      · rw [if_neg hz] at h'; cases h'
    | [], h => cases h
    | _ :: _ :: _, h => cases h
  | _ => cases h
def rInsert : V → List V → Hp → VK → Prop := fun x vs H Q => ∃ (l : Addr) (xs : List V) (i : Int) (y : V), x = .ref l ∧ vs = [.int i, y] ∧ H l = some (.lst xs) ∧ xs.length < sizeLine ∧ 0 ≤ i ∧ i < 2 ^ 63 ∧
    Q .non (upd H l (.lst (xs.take i.toNat ++ [y] ++ xs.drop i.toNat)))
theorem mu_insert {K : PySem.W.Frag} : MuOk K .insert rInsert := by
  intro X H vs w0 w1 x ws G F Q eK ok h r nd rF ndF dj q
  cases w0 with
  | lst xs =>
    match vs, h with
    | [.int 0, y], h =>
      have h' : (if xs.length < sizeLine then some (PV.lst (y :: xs), ()) else none) = some (w1, ()) := h
      by_cases hz : xs.length < sizeLine
      · rw [if_pos hz] at h'
        cases h'
        obtain ⟨a, us, G0, rfl, ha, rfl, rl⟩ := rp_lstT r
        have rF2 : ∃ w, ws = [.int 0, w] ∧ Rp true X H y w F := by
          unfold RpL at rF
          obtain ⟨w, ws', F1, F2, e, eF, r1, r2⟩ := rF
          obtain ⟨w2, e2, r2'⟩ := rpL_one r2
          have e1 : w = .int 0 := rp_int' r1
          have eF1 : F1 = [] := (r1.imm (m' := true) rfl).1
          subst e1 e2 e eF eF1
          exact ⟨w2, rfl, r2'⟩
        obtain ⟨w, rfl, ry⟩ := rF2
        have n0 := List.nodup_cons.mp nd
        have hF : a ∉ F := fun hb => dj a hb List.mem_cons_self
        have rn := (RpL.cons ry rl).updA (o' := .lst (w :: us)) ok ha rfl (fun hb => by
          rcases List.mem_append.mp hb with hb | hb
          · exact hF hb
          · exact n0.1 hb)
        refine ⟨a, us, 0, w, rfl, rfl, ha, by rw [← rl.length]; exact hz, by decide, by decide, ?_⟩
        refine q _ _ (frm_upd List.mem_cons_self) (rp_lstI upd_same rn) ?_ fun b hb => ?_
        · refine List.nodup_cons.mpr ⟨fun hb => ?_, List.nodup_append.mpr ⟨ndF, n0.2, fun b hb c hc e => ?_⟩⟩
          · rcases List.mem_append.mp hb with hb | hb
            · exact hF hb
            · exact n0.1 hb
          · subst e
            exact dj b hb (List.mem_cons_of_mem _ hc)
        · rcases List.mem_cons.mp hb with e | hb
          · exact .inl (by rw [e]; exact List.mem_cons_self)
          · rcases List.mem_append.mp hb with hb | hb
            · exact .inr hb
            · exact .inl (List.mem_cons_of_mem _ hb)
      · rw [if_neg hz] at h'; cases h'
  | _ => cases h
theorem RpL.reverse {m : Bool} {X : KX} {H : Hp} : ∀ {vs : List PV} {ws : List V} {F : List Addr}, RpL m X H vs ws F → ∃ F', RpL m X H vs.reverse ws.reverse F' ∧ (∀ b, b ∈ F' ↔ b ∈ F) ∧ (F.Nodup → F'.Nodup)
  | [], ws, F, r => by
    unfold RpL at r
    obtain ⟨rfl, rfl⟩ := r
    exact ⟨[], RpL.nil, fun b => Iff.rfl, fun _ => List.nodup_nil⟩
  | v :: vs, ws, F, r => by
    unfold RpL at r
    obtain ⟨w, ws', F1, F2, e, eF, r1, r2⟩ := r
    subst e eF
    obtain ⟨F', h1, h2, h3⟩ := RpL.reverse r2
    refine ⟨F' ++ F1, ?_, fun b => ?_, fun nd => ?_⟩
    · rw [List.reverse_cons, List.reverse_cons]
      have := h1.append (RpL.cons r1 RpL.nil)
      rwa [List.append_nil] at this
    · simp only [List.mem_append, h2]
      exact Or.comm
    · have n := List.nodup_append.mp nd
      exact List.nodup_append.mpr ⟨h3 n.2.1, n.1, fun b hb c hc e => n.2.2 c hc b ((h2 b).mp hb) e.symm⟩
theorem mu_reverse {K : PySem.W.Frag} : MuOk K .reverse rReverse := by
  intro X H vs w0 w1 x ws G F Q eK ok h r nd rF ndF dj q
  cases w0 with
  | lst xs =>
    match vs, h with
    | [], h =>
      cases h
      obtain ⟨a, us, G0, rfl, ha, rfl, rl⟩ := rp_lstT r
      unfold RpL at rF
      obtain ⟨rfl, rfl⟩ := rF
      have n0 := List.nodup_cons.mp nd
      obtain ⟨F', h1, h2, h3⟩ := rl.reverse
      have rn := h1.updA (o' := .lst us.reverse) ok ha rfl (fun hb => n0.1 ((h2 a).mp hb))
      refine ⟨a, us, rfl, rfl, ha, q _ _ (frm_upd List.mem_cons_self) (rp_lstI upd_same rn) (List.nodup_cons.mpr ⟨fun hb => n0.1 ((h2 a).mp hb), h3 n0.2⟩) fun b hb => ?_⟩
      rcases List.mem_cons.mp hb with e | hb
      · exact .inl (by rw [e]; exact List.mem_cons_self)
      · exact .inl (List.mem_cons_of_mem _ ((h2 b).mp hb))
    | _ :: _, h => cases h
  | _ => cases h
end
section
variable {Y : Cz} {X : Cx} {o : Expr} {as : List Expr} {eo : E} {es : List E} {pos p1 p2 : Pos}
/-- o.m(e, ..) alone -/
theorem ps_mu {m : MU} {r : V → List V → Hp → VK → Prop} (O : Ok0 Y X) (hm : m ≠ .extend) (ok : MuOk X.K m r) (e : Expr) (he : PE X e fun σ H Q => RdP Y eo σ H fun x H1 => tyV X.K "list" x H1 ∧ RdO Y es σ H1 fun xs H2 => r x xs H2 Q)
    (hs : swapsWith e none pos.line X.env = pure false) : PS X (.Expr e pos) (RdS Y (.mu m eo es)) := by
  refine PS.mono (ps_expr he hs) fun D σ H ⟨env, fp, S, h⟩ => ?_
  have h0 : HoldS Y fp H ((pathR Y.p Y.cf eo env).st fun a env => if (lstAt env a.1 a.2 && (a.2.isEmpty || quietL es)) = true then (evO Y.p Y.cf es env).st fun vs env =>
      (mutP env a.1 a.2 (muI m vs)).st fun _ env => .nx env
    else .bad) D := by
    unfold exS at h
    cases m <;> first | exact absurd rfl hm | exact h
  refine ⟨env, fp, S, h0.st.imp fun a env1 h1 x H1 fp1 P1 => ?_⟩
  obtain ⟨hc, h1⟩ := h1.ite
  refine ⟨by rw [← O.K]; exact P1.ty O.ok (and_l hc), env1, fp1, P1.sim, (h1.adv P1.stp).st.imp fun vs env2 h2 ws H2 fp2 P2 => ?_⟩
  obtain ⟨wv, e1, pa⟩ := P1.again P2.same (and_r hc)
  cases hmu : mutP env2 a.1 a.2 (muI m vs) with
  | bad => rw [hmu] at h2; exact h2.elim
  | exc c fs e' =>
    unfold mutP at hmu
    repeat' split at hmu
    all_goals cases hmu
  | ok u env3 =>
    rw [hmu] at h2
    obtain ⟨w0, w1, G, f1, r0, nd, sub, k⟩ := mut_done O.ok P2.sim P2.stp e1 pa hmu
    obtain ⟨F, vo⟩ := P2.vo
    refine ok Y.X H2 vs w0 w1 x ws G F _ O.K O.ok f1 r0 nd vo.rp vo.nd (fun b hb hG => vo.dis b hb a.1 (sub b hG)) fun H' G' frm rw' nd' mem => ?_
    obtain ⟨fp3, S3, t3, _⟩ := k H' G' frm rw' nd' fun b hb => (mem b hb).imp (fun h => h) fun h => ⟨fun j => vo.dis b h j, vo.z b h, vo.new b h⟩
    have h2' : HoldS Y fp1 H1 (.nx env3) D := h2
    exact h2' σ H' fp3 S3 t3
end
end DI
set_option Elab.async false
set_option linter.all false
set_option maxRecDepth 100000
set_option maxHeartbeats 1000000
/-! DIS12: append, extend, insert, reverse, pop. -/
namespace DI
open PySem PySem.Spec PyProof.Rows L2

theorem mutP_exc {α : Type} {env : PEnv} {i : Nat} {ks : List PV} {f : PV → Option (PV × α)} {c : Str} {fs : List PV} {e' : PEnv} (h : mutP env i ks f = .exc c fs e') : False := by
  unfold mutP at h
  repeat' split at h
  all_goals cases h
section
variable {Y : Cz} {X : Cx} {o a : Expr} {as : List Expr} {eo : E} {es : List E} {pos ap cp : Pos}
theorem ps_append (O : Ok0 Y X) (ho : PE X o (RdP Y eo)) (ha : Alls Y X (a :: as) es)
    (hbase : attributeBase o "append" X.env (eval o X.env) = eval o X.env)
    (hfew : ((backTo cp (starEach (a :: as) X.env)).all (fun x => !x.1) && (backToKw cp (keywordEach [] X.env)).all (fun x => x.1.isSome) && decide ((a :: as).length + ([] : List Keyword).length + (if ([] : List Keyword).isEmpty then 0 else 1) < 30)) = true)
    (hline : (ap.endLine == cp.line) = true) (hsw : swapsWith (.Call (.Attribute o "append" ap) (a :: as) [] cp) none pos.line X.env = pure false) :
    PS X (.Expr (.Call (.Attribute o "append" ap) (a :: as) [] cp) pos) (RdS Y (.mu .append eo es)) := by
  have h1 : starEach (a :: as) X.env = (false, eval a X.env) :: starEach as X.env := by cases ha; assumption
  have h2 : (backTo cp (starEach as X.env)).any (·.1) = false := by cases ha with | cons _ _ t => exact t.plain
  exact ps_mu O (by decide) mu_append _ (pe_bm PySem.F.plainAttrs_list PySem.F.slot_list_append PySem.F.type_list_append mt_append ho (pa_O O ha) hbase hfew hline h1 h2) hsw
theorem ps_insert (O : Ok0 Y X) (ho : PE X o (RdP Y eo)) (ha : Alls Y X (a :: as) es)
    (hbase : attributeBase o "insert" X.env (eval o X.env) = eval o X.env)
    (hfew : ((backTo cp (starEach (a :: as) X.env)).all (fun x => !x.1) && (backToKw cp (keywordEach [] X.env)).all (fun x => x.1.isSome) && decide ((a :: as).length + ([] : List Keyword).length + (if ([] : List Keyword).isEmpty then 0 else 1) < 30)) = true)
    (hline : (ap.endLine == cp.line) = true) (hsw : swapsWith (.Call (.Attribute o "insert" ap) (a :: as) [] cp) none pos.line X.env = pure false) :
    PS X (.Expr (.Call (.Attribute o "insert" ap) (a :: as) [] cp) pos) (RdS Y (.mu .insert eo es)) := by
  have h1 : starEach (a :: as) X.env = (false, eval a X.env) :: starEach as X.env := by cases ha; assumption
  have h2 : (backTo cp (starEach as X.env)).any (·.1) = false := by cases ha with | cons _ _ t => exact t.plain
  exact ps_mu O (by decide) mu_insert _ (pe_bm PySem.F.plainAttrs_list PySem.F.slot_list_insert PySem.F.type_list_insert mt_insert ho (pa_O O ha) hbase hfew hline h1 h2) hsw
theorem ps_reverse (O : Ok0 Y X) (ho : PE X o (RdP Y eo))
    (hbase : attributeBase o "reverse" X.env (eval o X.env) = eval o X.env)
    (hline : (ap.endLine == cp.line) = true) (hsw : swapsWith (.Call (.Attribute o "reverse" ap) [] [] cp) none pos.line X.env = pure false) :
    PS X (.Expr (.Call (.Attribute o "reverse" ap) [] [] cp) pos) (RdS Y (.mu .reverse eo [])) := by
  refine ps_mu O (by decide) mu_reverse _ (PE.mono (pe_bm0 PySem.F.plainAttrs_list PySem.F.slot_list_reverse PySem.F.type_list_reverse mt_reverse ho hbase hline) fun σ H Q h => ?_) hsw
  obtain ⟨env, fp, S, h⟩ := h
  refine ⟨env, fp, S, h.imp fun a env' k w H' fp' P => ?_⟩
  obtain ⟨k1, k2⟩ := k w H' fp' P
  exact ⟨k1, rdO_nil k2⟩
/-- extend: its argument may be lent -/
theorem ps_extend (O : Ok0 Y X) (ho : PE X o (RdP Y eo)) (ha : Alls Y X (a :: as) es)
    (hbase : attributeBase o "extend" X.env (eval o X.env) = eval o X.env)
    (hfew : ((backTo cp (starEach (a :: as) X.env)).all (fun x => !x.1) && (backToKw cp (keywordEach [] X.env)).all (fun x => x.1.isSome) && decide ((a :: as).length + ([] : List Keyword).length + (if ([] : List Keyword).isEmpty then 0 else 1) < 30)) = true)
    (hline : (ap.endLine == cp.line) = true) (hsw : swapsWith (.Call (.Attribute o "extend" ap) (a :: as) [] cp) none pos.line X.env = pure false) :
    PS X (.Expr (.Call (.Attribute o "extend" ap) (a :: as) [] cp) pos) (RdS Y (.mu .extend eo es)) := by
  have h1 : starEach (a :: as) X.env = (false, eval a X.env) :: starEach as X.env := by cases ha; assumption
  have h2 : (backTo cp (starEach as X.env)).any (·.1) = false := by cases ha with | cons _ _ t => exact t.plain
  refine PS.mono (ps_expr (pe_bm PySem.F.plainAttrs_list PySem.F.slot_list_extend PySem.F.type_list_extend DIExt.mt_ext ho (pa_A O ha) hbase hfew hline h1 h2) hsw) fun D σ H ⟨env, fp, S, h⟩ => ?_
  unfold exS at h
  refine ⟨env, fp, S, h.st.imp fun a env1 h1 x H1 fp1 P1 => ?_⟩
  obtain ⟨hc, h1⟩ := h1.ite
  refine ⟨by rw [← O.K]; exact P1.ty O.ok (and_l hc), env1, fp1, P1.sim, (h1.adv P1.stp).st.imp fun vs env2 h2 ws H2 fp2 P2 => ?_⟩
  obtain ⟨wv, e1, pa⟩ := P1.again P2.same (and_r hc)
  cases hmu : mutP env2 a.1 a.2 (muI .extend vs) with
  | bad => rw [hmu] at h2; exact h2.elim
  | exc c fs e' => exact (mutP_exc hmu).elim
  | ok u env3 =>
    rw [hmu] at h2
    obtain ⟨w0, w1, G, f1, r0, nd, sub, k⟩ := mut_done O.ok P2.sim P2.stp e1 pa hmu
    obtain ⟨G2, rb⟩ := P2.vb
    have h2' : HoldS Y fp1 H1 (.nx env3) D := h2
    cases w0 with
    | lst xs =>
      match vs, f1, rb with
      | [y], f1, rb =>
        have f1' : (match seqI y with | some ys => (if xs.length + ys.length ≤ sizeLine ∧ immL ys = true then some (PV.lst (xs ++ ys), ()) else none) | none => none) = some (w1, ()) := f1
        cases ey : seqI y with
        | none => rw [ey] at f1'; cases f1'
        | some ys =>
          rw [ey] at f1'
          dsimp only at f1'
          split at f1'
          rotate_left
          · cases f1'
          rename_i hz
          cases f1'
          obtain ⟨l, us, G0, rfl, hl, rfl, rl⟩ := rp_lstT r0
          obtain ⟨wy, rfl, ry⟩ := rpL_one rb
          have n0 := List.nodup_cons.mp nd
          have arg : ∃ b zs, wy = .ref b ∧ (SqL Y.X.K H2 b zs ∨ SqT Y.X.K H2 b zs) ∧ RpL true Y.X H2 ys zs [] := by
            cases y with
            | lst vs' =>
              cases ey
              obtain ⟨b, zs, Gy, e, hb, rz⟩ := rp_lst' ry
              exact ⟨b, zs, e, .inl hb.sq, (rz.imm hz.2).2⟩
            | tup vs' =>
              cases ey
              obtain ⟨b, zs, e, hb, rz⟩ := rp_tup' ry
              exact ⟨b, zs, e, .inr hb, (rz.imm hz.2).2⟩
            | _ => cases ey
          obtain ⟨b, zs, rfl, hb, rz⟩ := arg
          have rn := (rl.append rz).updA (o' := .lst (us ++ zs)) O.ok hl rfl (by rw [List.append_nil]; exact n0.1)
          rw [List.append_nil] at rn
          refine ⟨l, b, us, zs, rfl, rfl, hl, by rw [← O.K]; exact hb, by rw [← rl.length, ← rz.length]; exact hz.1, ?_⟩
          obtain ⟨fp3, S3, t3, _⟩ := k _ _ (frm_upd List.mem_cons_self) (rp_lstI upd_same rn) nd fun b hb => .inl hb
          exact h2' σ _ fp3 S3 t3
    | _ => cases f1
/-! ### pop -/
theorem ixN_seq' {n : Nat} {i : Int} {j : Nat} (h : ixN n i = some j) (hn : n ≤ sizeLine) : -(2 ^ 63) ≤ i ∧ i < 2 ^ 63 ∧ seqIndex? i n = some j := by
  obtain ⟨h1, h2, h3, h4⟩ := ixN_seq h
  have := line63
  exact ⟨by omega, by omega, h1⟩
/-- one of the parts is taken out -/
theorem RpL.erase {m : Bool} {X : KX} {H : Hp} : ∀ {vs : List PV} {ws : List V} {F : List Addr} {j : Nat} {v : PV}, RpL m X H vs ws F → vs[j]? = some v → F.Nodup → ∃ w G F', ws[j]? = some w ∧ Rp m X H v w G ∧ RpL m X H (vs.eraseIdx j) (ws.eraseIdx j) F' ∧ G.Nodup ∧ F'.Nodup ∧ (∀ b ∈ G, b ∈ F ∧ b ∉ F') ∧ ∀ b ∈ F', b ∈ F
  | [], ws, F, j, v, r, e, nd => by simp at e
  | u :: vs, ws, F, 0, v, r, e, nd => by
    simp at e; subst e
    unfold RpL at r
    obtain ⟨w, ws', F1, F2, e, eF, r1, r2⟩ := r
    subst e; subst eF
    have n := List.nodup_append.mp nd
    exact ⟨w, F1, F2, rfl, r1, r2, n.1, n.2.1, fun b hb => ⟨List.mem_append_left _ hb, fun h => n.2.2 b hb b h rfl⟩, fun b hb => List.mem_append_right _ hb⟩
  | u :: vs, ws, F, j + 1, v, r, e, nd => by
    unfold RpL at r
    obtain ⟨w, ws', F1, F2, e1, eF, r1, r2⟩ := r
    subst e1; subst eF
    have n := List.nodup_append.mp nd
    obtain ⟨w2, G, F', h1, h2, h3, h4, h5, h6, h7⟩ := RpL.erase (j := j) (v := v) r2 (by simpa using e) n.2.1
    refine ⟨w2, G, F1 ++ F', by simpa using h1, h2, RpL.cons r1 h3, h4, List.nodup_append.mpr ⟨n.1, h5, fun b hb c hc e => n.2.2 b hb c (h7 c hc) e⟩, fun b hb => ⟨List.mem_append_right _ (h6 b hb).1, fun h => ?_⟩, fun b hb => ?_⟩
    · rcases List.mem_append.mp h with h | h
      · exact n.2.2 b h b (h6 b hb).1 rfl
      · exact (h6 b hb).2 h
    · rcases List.mem_append.mp hb with hb | hb
      · exact List.mem_append_left _ hb
      · exact List.mem_append_right _ (h7 b hb)
theorem dropLast_erase {α : Type} (l : List α) : l.eraseIdx (l.length - 1) = l.dropLast := by
  rw [List.dropLast_eq_take, List.eraseIdx_eq_take_drop_succ]
  cases l with
  | nil => rfl
  | cons x r => simp
/-- pop at j, met by popI -/
theorem popI_at {xs vs : List PV} {w1 v : PV} (h : popI vs (.lst xs) = some (w1, v)) : ∃ j, xs[j]? = some v ∧ w1 = .lst (xs.eraseIdx j) ∧ ((vs = [] ∧ j = xs.length - 1) ∨ ∃ k, vs = [.int k] ∧ ixN xs.length k = some j ∧ xs.length ≤ sizeLine) := by
  match vs, h with
  | [], h =>
    have h' : (match xs.getLast? with | some x => some (PV.lst xs.dropLast, x) | none => none) = some (w1, v) := h
    cases e : xs.getLast? with
    | none => rw [e] at h'; cases h'
    | some x =>
      rw [e] at h'
      cases h'
      refine ⟨xs.length - 1, ?_, by rw [dropLast_erase], .inl ⟨rfl, rfl⟩⟩
      rw [← List.getLast?_eq_getElem?]; exact e
  | [.int k], h =>
    have h' : (if xs.length ≤ sizeLine then (match ixN xs.length k with | some j => (match xs[j]? with | some x => some (PV.lst (xs.eraseIdx j), x) | none => none) | none => none) else none) = some (w1, v) := h
    by_cases hz : xs.length ≤ sizeLine
    rotate_left
    · rw [if_neg hz] at h'; cases h'
    rw [if_pos hz] at h'
    cases e : ixN xs.length k with
    | none => rw [e] at h'; cases h'
    | some j =>
      rw [e] at h'
      dsimp only at h'
      cases e2 : xs[j]? with
      | none => rw [e2] at h'; cases h'
      | some x =>
        rw [e2] at h'
        cases h'
        exact ⟨j, e2, rfl, .inr ⟨k, rfl, e, hz⟩⟩
  | [.non], h => cases h
  | [.bl _], h => cases h
  | [.str _], h => cases h
  | [.tup _], h => cases h
  | [.lst _], h => cases h
  | [.set _], h => cases h
  | [.dct _ _], h => cases h
  | [.err _ _], h => cases h
  | _ :: _ :: _, h => simp [popI] at h
theorem rd_pop (O : Ok0 Y X) {r : V → List V → Hp → VK → Prop} {σ : St} {H : Hp} {Q : VK}
    (hr : ∀ (l : Addr) (us ws : List V) (j : Nat) (w : V) (H : Hp) (Q : VK), H l = some (.lst us) → us[j]? = some w → ((ws = [] ∧ j = us.length - 1) ∨ ∃ k, ws = [.int k] ∧ ixN us.length k = some j ∧ us.length ≤ sizeLine) → Q w (upd H l (.lst (us.eraseIdx j))) → r (.ref l) ws H Q)
    (h : RdB Y (.pop eo es) σ H Q) : RdP Y eo σ H fun x H1 => tyV X.K "list" x H1 ∧ RdA Y es σ H1 fun ws H2 => r x ws H2 Q := by
  obtain ⟨env, fp, S, h⟩ := h
  unfold evB at h
  refine ⟨env, fp, S, h.bind.imp fun a env1 h1 x H1 fp1 P1 => ?_⟩
  obtain ⟨hc, h1⟩ := h1.ite
  refine ⟨by rw [← O.K]; exact P1.ty O.ok (and_l hc), env1, fp1, P1.sim, (h1.adv P1.stp).bind.imp fun vs env2 h2 ws H2 fp2 P2 => ?_⟩
  obtain ⟨wv, e1, pa⟩ := P1.again P2.same (and_r hc)
  cases hmu : mutP env2 a.1 a.2 (popI vs) with
  | bad => rw [hmu] at h2; exact h2.elim
  | exc c fs e' => exact (mutP_exc hmu).elim
  | ok v env3 =>
    rw [hmu] at h2
    have h2' : ∀ w H' fp', Post Y.X σ fp H (.pop eo es) (v, true) env3 w H' fp' → Q w H' := h2
    obtain ⟨w0, w1, G, f1, r0, nd, sub, k⟩ := mut_done O.ok P2.sim (P1.stp.trans P2.stp) e1 pa hmu
    obtain ⟨G2, rb⟩ := P2.vb
    cases w0 with
    | lst xs =>
      obtain ⟨j, hj, rfl, hv⟩ := popI_at f1
      obtain ⟨l, us, G0, rfl, hl, rfl, rl⟩ := rp_lstT r0
      have n0 := List.nodup_cons.mp nd
      obtain ⟨w, Gv, F', q1, q2, q3, q4, q5, q6, q7⟩ := rl.erase hj n0.2
      have q2' := q2.updA (o' := .lst (us.eraseIdx j)) O.ok hl rfl (fun hb => n0.1 (q6 l hb).1)
      have q3' := q3.updA (o' := .lst (us.eraseIdx j)) O.ok hl rfl (fun hb => n0.1 (q7 l hb))
      refine hr l us ws j w H2 Q hl q1 ?_ ?_
      · rcases hv with ⟨rfl, rfl⟩ | ⟨k, rfl, hk, hz⟩
        · unfold RpL at rb
          exact .inl ⟨rb.1, by rw [rl.length]⟩
        · obtain ⟨w2, rfl, r2⟩ := rpL_one rb
          rw [rp_int' r2]
          exact .inr ⟨k, rfl, by rw [← rl.length]; exact hk, by rw [← rl.length]; exact hz⟩
      · obtain ⟨fp3, S3, t3, m3⟩ := k _ (l :: F') (frm_upd List.mem_cons_self) (rp_lstI upd_same q3') (List.nodup_cons.mpr ⟨fun hb => n0.1 (q7 l hb), q5⟩) fun b hb => .inl (by
          rcases List.mem_cons.mp hb with e | hb
          · rw [e]; exact List.mem_cons_self
          · exact List.mem_cons_of_mem _ (q7 b hb))
        have dis : ∀ b ∈ Gv, ∀ i, b ∉ fp3 i := fun b hb i hi => by
          rcases m3 i b hi with h | h
          · exact h.2 (List.mem_cons_of_mem _ (q6 b hb).1)
          · rcases List.mem_cons.mp h with e | h
            · exact n0.1 (by rw [← e]; exact (q6 b hb).1)
            · exact (q6 b hb).2 h
        have vo : VO Y.X fp H fp3 (upd H2 l (.lst (us.eraseIdx j))) v w Gv := ⟨q2', q4, dis, fun b hb => (P1.stp.trans P2.stp).new a.1 b (sub b (List.mem_cons_of_mem _ (q6 b hb).1)), fun b hb => P2.sim.zd a.1 b (sub b (List.mem_cons_of_mem _ (q6 b hb).1))⟩
        exact h2' _ _ _ ⟨S3, t3, fun q => (nomatch q), fun q => (nomatch q), ⟨Gv, vo.vb⟩, fun _ => ⟨Gv, vo⟩, fun i z => (nomatch z)⟩
    | _ => cases vs with
      | nil => cases f1
      | cons x r => cases f1
theorem pe_pop (O : Ok0 Y X) (ho : PE X o (RdP Y eo)) (hbase : attributeBase o "pop" X.env (eval o X.env) = eval o X.env) (hline : (ap.endLine == cp.line) = true) : PE X (.Call (.Attribute o "pop" ap) [] [] cp) (RdB Y (.pop eo [])) := by
  refine PE.mono (pe_bm0 PySem.F.plainAttrs_list PySem.F.slot_list_pop PySem.F.type_list_pop mt_pop ho hbase hline) fun σ H Q h => ?_
  obtain ⟨env, fp, S, h⟩ := rd_pop (r := fun x vs H Q => vs = [] → rPop x vs H Q) O (fun l us ws j w H Q h1 h2 h3 q => by
    rcases h3 with ⟨rfl, rfl⟩ | ⟨k, rfl, hk, hz⟩
    · exact fun _ => ⟨l, us, w, rfl, rfl, h1, h2, by rw [← dropLast_erase]; exact q⟩
    · exact fun e => (nomatch e)) h
  refine ⟨env, fp, S, h.imp fun a env' k w H' fp' P => ?_⟩
  obtain ⟨k1, k2⟩ := k w H' fp' P
  exact ⟨k1, rdA_nil k2 rfl⟩
theorem pe_popAt (O : Ok0 Y X) (ho : PE X o (RdP Y eo)) (ha : Alls Y X [a] es) (hbase : attributeBase o "pop" X.env (eval o X.env) = eval o X.env)
    (hfew : ((backTo cp (starEach [a] X.env)).all (fun x => !x.1) && (backToKw cp (keywordEach [] X.env)).all (fun x => x.1.isSome) && decide ([a].length + ([] : List Keyword).length + (if ([] : List Keyword).isEmpty then 0 else 1) < 30)) = true)
    (hline : (ap.endLine == cp.line) = true) : PE X (.Call (.Attribute o "pop" ap) [a] [] cp) (RdB Y (.pop eo es)) := by
  have h1 : starEach [a] X.env = (false, eval a X.env) :: starEach [] X.env := by cases ha; assumption
  have h2 : (backTo cp (starEach [] X.env)).any (·.1) = false := by cases ha with | cons _ _ t => exact t.plain
  have pa : PA X [a] (fun σ H Q => RdA Y es σ H fun ws H' => ws ≠ [] → Q ws H') := by
    cases ha with
    | cons hx hs t =>
      cases t
      refine PA.mono (pa_cons hx pa_nil hs) fun σ H Q h => ?_
      refine (rdA_cons O.ok h).mono fun w H1 h1 => ?_
      exact rdA_nil h1 (List.cons_ne_nil _ _)
  refine PE.mono (pe_bm PySem.F.plainAttrs_list PySem.F.slot_list_pop PySem.F.type_list_pop mt_popAt ho pa hbase hfew hline h1 h2) fun σ H Q h => ?_
  exact rd_pop (r := fun x vs H Q => vs ≠ [] → rPopAt x vs H Q) O (fun l us ws j w H Q h1 h2 h3 q => by
    rcases h3 with ⟨rfl, rfl⟩ | ⟨k, rfl, hk, hz⟩
    · exact fun e => absurd rfl e
    · obtain ⟨q1, q2, q3⟩ := ixN_seq' hk hz
      exact fun _ => ⟨l, us, k, j, w, rfl, rfl, h1, q1, q2, q3, h2, q⟩) h
end
end DI
set_option Elab.async false
set_option linter.all false
set_option maxRecDepth 100000
set_option maxHeartbeats 1000000
/-! DIS13: stores at subscripts. -/
namespace DI
open PySem PySem.Spec PyProof.Rows L2

theorem map_rep {kvs : List (Key × V)} {q : Key} {w : V} : ∀ {j : Nat}, (kvs.map (·.1)).Nodup → (∃ p, kvs[j]? = some p ∧ p.1 = q) →
    (kvs.map fun kv => if kv.1 = q then (kv.1, w) else kv).map (·.1) = kvs.map (·.1) ∧ (kvs.map fun kv => if kv.1 = q then (kv.1, w) else kv).map (·.2) = (kvs.map (·.2)).set j w := by
  induction kvs with
  | nil => rintro j _ ⟨p, h, _⟩; simp at h
  | cons r kvs ih =>
    rintro j nd ⟨p, h, e⟩
    simp only [List.map_cons, List.nodup_cons] at nd
    cases j with
    | zero =>
      simp at h
      subst h
      subst e
      have hno : ∀ kv ∈ kvs, ¬ kv.1 = r.1 := fun kv hm e => nd.1 (by rw [← e]; exact List.mem_map_of_mem hm)
      have : (kvs.map fun kv => if kv.1 = r.1 then (kv.1, w) else kv) = kvs := by
        conv => rhs; rw [← List.map_id kvs]
        exact List.map_congr_left fun kv hm => by rw [if_neg (hno kv hm)]; rfl
      rw [List.map_cons, this, if_pos rfl]
      exact ⟨rfl, rfl⟩
    | succ j =>
      have h' : kvs[j]? = some p := by simpa using h
      have hr : ¬ r.1 = q := fun e2 => nd.1 (by rw [e2, ← e]; exact List.mem_map_of_mem (List.mem_of_getElem? h'))
      obtain ⟨i1, i2⟩ := ih nd.2 ⟨p, h', e⟩
      simp only [List.map_cons, if_neg hr, List.set_cons_succ]
      rw [i1, i2]
      exact ⟨rfl, rfl⟩
section
variable {X : KX} {H : Hp}
theorem RpL.setAt {m : Bool} : ∀ {vs : List PV} {ws : List V} {j : Nat} {u : PV} {F : List Addr}, RpL m X H vs ws F → vs[j]? = some u → ∃ (F1 G F2 : List Addr), F = F1 ++ (G ++ F2) ∧ j < ws.length ∧
    ∀ (v : PV) (w : V) (F' : List Addr), Rp m X H v w F' → RpL m X H (vs.set j v) (ws.set j w) (F1 ++ (F' ++ F2))
  | [], ws, j, u, F, r, e => by simp at e
  | a :: vs, ws, 0, u, F, r, e => by
    unfold RpL at r
    obtain ⟨w, ws', F1, F2, e, eF, r1, r2⟩ := r
    subst e; subst eF
    refine ⟨[], F1, F2, rfl, by simp, fun v w F' rv => ?_⟩
    show RpL m X H (v :: vs) (w :: ws') ([] ++ (F' ++ F2))
    rw [List.nil_append]
    exact RpL.cons rv r2
  | a :: vs, ws, j + 1, u, F, r, e => by
    unfold RpL at r
    obtain ⟨w, ws', F1, F2, e1, eF, r1, r2⟩ := r
    subst e1; subst eF
    obtain ⟨G1, G, G2, h1, h2, h3⟩ := RpL.setAt (j := j) (u := u) r2 (by simpa using e)
    subst h1
    refine ⟨F1 ++ G1, G, G2, by simp [List.append_assoc], by simpa using h2, fun v w' F' rv => ?_⟩
    have := RpL.cons r1 (h3 v w' F' rv)
    simpa [List.append_assoc] using this
def rSetA : TSet := fun o i v H Q => L2.rSetL o i v H Q ∨ rSetD o i v H Q
theorem nodup_mid {a : Addr} {F1 G F2 F : List Addr} (nd : (a :: (F1 ++ (G ++ F2))).Nodup) (nF : F.Nodup) (dj : ∀ b ∈ F, b ∉ a :: (F1 ++ (G ++ F2))) : (a :: (F1 ++ (F ++ F2))).Nodup := by
  have n0 := List.nodup_cons.mp nd
  have n1 := List.nodup_append.mp n0.2
  have n2 := List.nodup_append.mp n1.2.1
  refine List.nodup_cons.mpr ⟨fun h => ?_, List.nodup_append.mpr ⟨n1.1, List.nodup_append.mpr ⟨nF, n2.2.1, fun x hx y hy e => ?_⟩, fun x hx y hy e => ?_⟩⟩
  · rcases List.mem_append.mp h with h | h
    · exact n0.1 (List.mem_append_left _ h)
    · rcases List.mem_append.mp h with h | h
      · exact dj a h List.mem_cons_self
      · exact n0.1 (List.mem_append_right _ (List.mem_append_right _ h))
  · subst e
    exact dj x hx (List.mem_cons_of_mem _ (List.mem_append_right _ (List.mem_append_right _ hy)))
  · subst e
    rcases List.mem_append.mp hy with h | h
    · exact dj x h (List.mem_cons_of_mem _ (List.mem_append_left _ hx))
    · exact n1.2.2 x hx x (List.mem_append_right _ h) rfl
theorem mem_mid {a b : Addr} {F1 G F2 F : List Addr} (h : b ∈ a :: (F1 ++ (F ++ F2))) : b ∈ a :: (F1 ++ (G ++ F2)) ∨ b ∈ F := by
  simp only [List.mem_cons, List.mem_append] at h ⊢
  rcases h with h | h | h | h
  · exact .inl (.inl h)
  · exact .inl (.inr (.inl h))
  · exact .inr h
  · exact .inl (.inr (.inr (.inr h)))
theorem set_ok (ok : X.Ok) {m : Bool} {w0 w1 k v : PV} {x kw w : V} {G Gk F : List Addr} {Q : Hp → Prop} (h : setI w0 k v = some w1) (r : Rp true X H w0 x G) (nd : G.Nodup) (rk : Rp m X H k kw Gk) (rv : Rp true X H v w F) (nF : F.Nodup) (dj : ∀ b ∈ F, b ∉ G)
    (q : ∀ H' G', (∀ b o, H b = some o → b ∉ G → H' b = some o) → Rp true X H' w1 x G' → G'.Nodup → (∀ b ∈ G', b ∈ G ∨ b ∈ F) → Q H') : rSetA x kw w H Q := by
  cases w0 with
  | lst vs =>
    obtain ⟨a, ws, G0, rfl, ha, rfl, rl⟩ := rp_lstT r
    cases k <;> try cases h
    rename_i i
    have h' : (ixN vs.length i).map (fun j => PV.lst (vs.set j v)) = some w1 := h
    cases ej : ixN vs.length i with
    | none => rw [ej] at h'; cases h'
    | some j =>
      rw [ej] at h'
      cases h'
      have hj : j < vs.length := (ixN_seq ej).2.1
      obtain ⟨F1, Gj, F2, rfl, hjw, put⟩ := rl.setAt (List.getElem?_eq_getElem hj)
      have ek : kw = .int i := rp_int' rk
      subst ek
      have nn := nodup_mid nd nF dj
      have rn := (put v w F rv).updA (o' := .lst (ws.set j w)) ok ha rfl (List.nodup_cons.mp nn).1
      exact .inl ⟨a, ws, i, j, rfl, rfl, ha, by rw [← rl.length]; exact ej, q _ _ (frm_upd List.mem_cons_self) (rp_lstI upd_same rn) nn fun b hb => mem_mid hb⟩
  | dct ks vs =>
    obtain ⟨a, kvs, G0, rfl, hd, hk, rfl, rl⟩ := rp_dct' r
    have fin : ∀ c : Key, keyI k = some c → kw = kV c → rSetA (.ref a) kw w H Q := fun c hc ekw => by
      have h' : (if ks.length < sizeLine then some (PV.dct (setK c v ks vs).1 (setK c v ks vs).2) else none) = some w1 := by
        unfold setI at h
        rw [hc] at h
        exact h
      by_cases hz : ks.length < sizeLine
      rotate_left
      · rw [if_neg hz] at h'; cases h'
      rw [if_pos hz] at h'
      cases h'
      have hlen : kvs.length = ks.length := by rw [← hk.1, List.length_map]
      subst ekw
      refine .inr ⟨a, _, rfl, DPut.k (k := c) hd (by rw [hlen]; exact hz), ?_⟩
      by_cases hm : memK c ks = true
      · -- in its place
        have hmem := memK_iff.mp hm
        obtain ⟨j, hj, ej⟩ := List.getElem_of_mem hmem
        have hjk : ks[j]? = some c := by rw [List.getElem?_eq_getElem hj, ej]
        have hlv : vs.length = kvs.length := by rw [rl.length, List.length_map]
        have hjv : j < vs.length := by omega
        have erep : ∀ x, replK c x ks vs = vs.set j x := by
          have : ∃ v0, lookK c ks vs = some v0 := by
            clear q rl h r
            have go : ∀ (ks : List Key) (vs : List PV), vs.length = ks.length → c ∈ ks → ∃ v0, lookK c ks vs = some v0 := by
              intro ks
              induction ks with
              | nil => intro vs _ hm; cases hm
              | cons q0 ks ih =>
                intro vs hl hm
                cases vs with
                | nil => simp at hl
                | cons v0 vs =>
                  by_cases e : c = q0
                  · exact ⟨v0, by unfold lookK; rw [if_pos e]⟩
                  · obtain ⟨v1, h1⟩ := ih vs (by simpa using hl) (by
                      rcases List.mem_cons.mp hm with z | z
                      · exact absurd z e
                      · exact z)
                    exact ⟨v1, by unfold lookK; rw [if_neg e]; exact h1⟩
            exact go ks vs (by omega) hmem
          obtain ⟨v0, hv0⟩ := this
          obtain ⟨j', j1, j2, j3⟩ := lookK_at c hv0
          have : j' = j := by
            have hj' : j' < ks.length := by
              rcases Nat.lt_or_ge j' ks.length with z | z
              · exact z
              · rw [List.getElem?_eq_none z] at j1; cases j1
            rw [List.getElem?_eq_getElem hj'] at j1
            exact (List.getElem_inj hk.2).mp ((Option.some.inj j1).trans ej.symm)
          rw [← this]
          exact j3
        have es : setK c v ks vs = (ks, vs.set j v) := by unfold setK; rw [if_pos hm, erep]
        have hp : ∃ p, kvs[j]? = some p ∧ p.1 = c := by
          rw [← hk.1, List.getElem?_map] at hjk
          cases ep : kvs[j]? with
          | none => rw [ep] at hjk; cases hjk
          | some p => rw [ep] at hjk; exact ⟨p, rfl, by simpa using hjk⟩
        have hany : (kvs.any fun kv => decide (kv.1 = c)) = true := by
          obtain ⟨p, ep, e1⟩ := hp
          exact List.any_eq_true.mpr ⟨p, List.mem_of_getElem? ep, by simpa using e1⟩
        obtain ⟨m1, m2⟩ := map_rep (w := w) (by rw [hk.1]; exact hk.2) hp
        have eput : putK kvs c w = kvs.map fun kv => if kv.1 = c then (kv.1, w) else kv := by unfold putK; rw [if_pos hany]
        obtain ⟨F1, Gj, F2, rfl, hjw, put⟩ := rl.setAt (List.getElem?_eq_getElem hjv)
        have nn := nodup_mid nd nF dj
        have rn := (put v w F rv).updA (o' := .dK (putK kvs c w)) ok hd rfl (List.nodup_cons.mp nn).1
        refine q _ _ (frm_upd List.mem_cons_self) ?_ nn fun b hb => mem_mid hb
        rw [es]
        unfold Rp
        refine ⟨a, putK kvs c w, _, rfl, upd_same, ⟨by rw [eput, m1]; exact hk.1, hk.2⟩, rfl, ?_⟩
        rw [eput, m2]
        rw [eput] at rn
        exact rn
      · -- at the end
        have hmem : c ∉ ks := fun z => hm (memK_iff.mpr z)
        have es : setK c v ks vs = (ks ++ [c], vs ++ [v]) := by unfold setK; rw [if_neg hm]
        have hany : ¬ (kvs.any fun kv => decide (kv.1 = c)) = true := fun z => by
          obtain ⟨p, hp, e⟩ := List.any_eq_true.mp z
          exact hmem (by rw [← hk.1]; exact List.mem_map.mpr ⟨p, hp, by simpa using e⟩)
        have eput : putK kvs c w = kvs ++ [(c, w)] := by unfold putK; rw [if_neg hany]
        have n0 := List.nodup_cons.mp nd
        have hF : a ∉ F := fun hb => dj a hb List.mem_cons_self
        have rn := (rl.append (RpL.cons rv RpL.nil)).updA (o' := .dK (putK kvs c w)) ok hd rfl (fun hb => by
          rcases List.mem_append.mp hb with hb | hb
          · exact n0.1 hb
          · rw [List.append_nil] at hb; exact hF hb)
        refine q _ (a :: (G0 ++ (F ++ []))) (frm_upd List.mem_cons_self) ?_ ?_ fun b hb => ?_
        · rw [es]
          unfold Rp
          refine ⟨a, putK kvs c w, _, rfl, upd_same, ⟨by rw [eput, List.map_append, hk.1]; rfl, ?_⟩, rfl, ?_⟩
          · refine List.nodup_append.mpr ⟨hk.2, (List.nodup_cons.mpr ⟨fun h => (by cases h), List.nodup_nil⟩), fun x hx y hy e => ?_⟩
            rw [List.mem_singleton] at hy
            subst hy; subst e
            exact hmem hx
          · rw [eput, List.map_append]
            rw [eput] at rn
            exact rn
        · rw [List.append_nil]
          refine List.nodup_cons.mpr ⟨fun hb => ?_, List.nodup_append.mpr ⟨n0.2, nF, fun b hb c hc e => ?_⟩⟩
          · rcases List.mem_append.mp hb with hb | hb
            · exact n0.1 hb
            · exact hF hb
          · subst e
            exact dj b hc (List.mem_cons_of_mem _ hb)
        · rw [List.append_nil] at hb
          rcases List.mem_cons.mp hb with e | hb
          · exact .inl (by rw [e]; exact List.mem_cons_self)
          · rcases List.mem_append.mp hb with hb | hb
            · exact .inl (List.mem_cons_of_mem _ hb)
            · exact .inr hb
    cases k <;> try (cases h; done)
    · exact fin _ rfl (rp_int' rk)
    · exact fin _ rfl (rp_str' rk)
  | _ => cases h
end
end DI
set_option Elab.async false
set_option linter.all false
set_option maxRecDepth 100000
set_option maxHeartbeats 1000000
/-! DIS14: targets, plain statements, blocks. -/
namespace DI
open PySem PySem.Spec PyProof.Rows L2

section
variable {Y : Cz} {σ : St} {env env' env1 env2 : PEnv} {fp fp1 fp2 : Nat → List Addr} {H H1 H2 : Hp} {D : Ends}
theorem own_exc {e : E} {r : PV × Bool} {env : PEnv} {c : Str} {fs : List PV} {e' : PEnv} (h : ownE e r env = .exc c fs e') : False := by
  unfold ownE at h
  repeat' split at h
  all_goals cases h
theorem own_run {e : E} {r : PV × Bool} {w : V} (P : Post Y.X σ fp H e r env1 w H1 fp1) (h : ownE e r env1 ≠ .bad) :
    ∃ v env2 fp2 F, Sim Y.X env2 σ H1 fp2 ∧ Stp fp H fp2 H1 ∧ (e.quiet = true → ∀ i b, b ∈ fp2 i → b ∈ fp i) ∧ VO Y.X fp H fp2 H1 v w F ∧ ownE e r env1 = .ok v env2 := by
  have h0 : Hold Y σ fp H ((ownE e r env1).bind fun v env => .ok () env) fun _ _ => True := by
    cases ho : ownE e r env1 with
    | bad => exact absurd ho h
    | exc c fs e' => exact (own_exc ho).elim
    | ok v e' => trivial
  obtain ⟨v, env2, fp2, F, a, b, c, d, _, e⟩ := own_step P h0
  exact ⟨v, env2, fp2, F, a, b, c, d, e⟩
theorem HoldS.st' {α : Type} {r : R α} {f : α → PEnv → SR} (h : HoldS Y fp H (r.st f) D) (t : Stp fp H fp1 H1) : Hold Y σ fp1 H1 r fun a env => HoldS Y fp H (f a env) D := by
  cases r with
  | ok a env => exact h
  | exc c fs env => exact fun cls d H' fp' S t' e => h σ cls d H' fp' S (t.trans t') e
  | bad => exact h
theorem Hold.bind' {α β : Type} {r : R α} {f : α → PEnv → R β} {Φ : β → PEnv → Prop} (h : Hold Y σ fp H (r.bind f) Φ) (t : Stp fp H fp1 H1) : Hold Y σ fp1 H1 r fun a env => Hold Y σ fp H (f a env) Φ := by
  cases r with
  | ok a env => exact h
  | exc c fs env => exact fun cls d H' fp' S t' e => h cls d H' fp' S (t.trans t') e
  | bad => exact h
theorem evE_S {e : E} {f : PV → PEnv → SR} (S : Sim Y.X env σ H fp) (h : HoldS Y fp H ((evE Y.p Y.cf e env).st f) D) :
    RdB Y e σ H fun w H1 => ∃ v env2 fp2 F, Sim Y.X env2 σ H1 fp2 ∧ Stp fp H fp2 H1 ∧ VO Y.X fp H fp2 H1 v w F ∧ HoldS Y fp H (f v env2) D := by
  refine ⟨env, fp, S, ?_⟩
  unfold evE at h
  cases ev : evB Y.p Y.cf e env with
  | bad => rw [ev] at h; exact h.elim
  | exc c fs e' =>
    rw [ev] at h
    exact fun cls d H' fp' S t er => h σ cls d H' fp' S t er
  | ok r env1 =>
    rw [ev] at h
    intro w H1 fp1 P1
    have h' : HoldS Y fp H ((ownE e r env1).st f) D := h
    obtain ⟨v, env2, fp2, F, S2, t2, _, vo, e2⟩ := own_run P1 (fun hb => by rw [hb] at h'; exact h'.elim)
    rw [e2] at h'
    exact ⟨v, env2, fp2, F, S2, t2, vo, h'⟩
theorem VO.keep (ok : Y.X.Ok) {v : PV} {w : V} {F : List Addr} (h : VO Y.X fp H fp1 H1 v w F) (s : Same H1 H2) (m : ∀ i b, b ∈ fp2 i → b ∈ fp1 i) : VO Y.X fp H fp2 H2 v w F :=
  ⟨h.rp.fix ok (Fix.same s) fun b _ o ho => s b o ho, h.nd, fun b hb i hi => h.dis b hb i (m i b hi), h.new, h.z⟩
/-! ### slots take values -/
theorem getM_set_ow {env : PEnv} {i j : Nat} {v : PV} (hi : i < env.length) : getM (env.set i (.ow v)) j = if j = i then some v else getM env j := by
  unfold getM
  by_cases e : j = i
  · subst e
    rw [if_pos rfl, List.getElem?_set_self hi]
  · rw [if_neg e, List.getElem?_set_ne (Ne.symm e)]
theorem Sim.setv {X : KX} {v : PV} {w : V} {F : List Addr} {i : Nat} (S : Sim X env σ H fp) (hi : i < env.length) (hf : ∀ s, env[i]? = some s → s.fix = false) (r : Rp true X H v w F) (nd : F.Nodup) (dis : ∀ b ∈ F, ∀ j, b ∉ fp j) (hz : ∀ b ∈ F, ¬ X.Z b) :
    Sim X (env.set i (.ow v)) (σ.set i (some w)) H (pu fp i F) := by
  have hl : i < σ.length := by rw [S.len]; exact hi
  refine ⟨by rw [List.length_set, List.length_set]; exact S.len, fun j u h => ?_, fun j h => ?_, fun j k u h => ?_, S.qz, fun j k b h1 h2 => ?_, fun j => ?_, fun j b hb => ?_, S.zt, fun j w h => ?_⟩
  rotate_right
  · obtain ⟨e1, s, e2, e3⟩ := S.fx j w h
    have ne : i ≠ j := fun e => by subst e; rw [hf s e2] at e3; cases e3
    exact ⟨by rw [List.getElem?_set_ne ne]; exact e1, s, by rw [List.getElem?_set_ne ne]; exact e2, e3⟩
  · rw [getM_set_ow hi] at h
    unfold pu
    by_cases e : j = i
    · rw [if_pos e] at h ⊢
      cases h
      exact ⟨w, by rw [e, List.getElem?_set_self hl], r⟩
    · rw [if_neg e] at h ⊢
      rw [List.getElem?_set_ne (Ne.symm e)]
      exact S.own j u h
  · rw [getM_set_ow hi] at h
    unfold pu
    by_cases e : j = i
    · rw [if_pos e] at h; cases h
    · rw [if_neg e] at h ⊢
      exact S.emp j h
  · by_cases e : j = i
    · subst e
      rw [List.getElem?_set_self hi] at h; cases h
    · rw [List.getElem?_set_ne (Ne.symm e)] at h ⊢
      exact S.ro j k u h
  · rcases pu_mem h1 with ⟨e1, h1⟩ | ⟨e1, h1⟩ <;> rcases pu_mem h2 with ⟨e2, h2⟩ | ⟨e2, h2⟩
    · rw [e1, e2]
    · exact absurd h2 (dis b h1 k)
    · exact absurd h1 (dis b h2 j)
    · exact S.dis j k b h1 h2
  · unfold pu
    by_cases e : j = i
    · rw [if_pos e]; exact nd
    · rw [if_neg e]; exact S.nd j
  · rcases pu_mem hb with ⟨_, hb⟩ | ⟨_, hb⟩
    · exact hz b hb
    · exact S.zd j b hb
theorem bind_v {own : Bool} {i : Nat} {v : PV} (h : bindT own (.v i) v env = some env') : (own = true ∨ v.imm = true) ∧ (i < env.length ∧ ∀ s, env[i]? = some s → s.fix = false) ∧ env' = env.set i (.ow v) := by
  unfold bindT at h
  by_cases hc : (own || v.imm) = true
  · rw [if_pos hc] at h
    refine ⟨Bool.or_eq_true _ _ ▸ hc, ?_⟩
    cases hs : env[i]? with
    | none => rw [hs] at h; cases h
    | some s =>
      rw [hs] at h
      have hl : i < env.length := by
        rcases Nat.lt_or_ge i env.length with z | z
        · exact z
        · rw [List.getElem?_eq_none z] at hs; cases hs
      dsimp only at h
      cases hs' : s.fix with
      | true => rw [hs', if_pos rfl] at h; cases h
      | false =>
        rw [hs', if_neg (by decide)] at h
        exact ⟨⟨hl, fun s' e => by cases e; exact hs'⟩, (Option.some.inj h).symm⟩
  · rw [if_neg hc] at h; cases h
theorem VO.setv {X : KX} {v : PV} {w : V} {F : List Addr} {i : Nat} (S : Sim X env σ H1 fp1) (t : Stp fp H fp1 H1) (vo : VO X fp H fp1 H1 v w F) (hi : i < env.length ∧ ∀ s, env[i]? = some s → s.fix = false) : Sim X (env.set i (.ow v)) (σ.set i (some w)) H1 (pu fp1 i F) ∧ Stp fp H (pu fp1 i F) H1 :=
  ⟨S.setv hi.1 hi.2 vo.rp vo.nd vo.dis vo.z, ⟨t.frm, fun j b hb => by
    rcases pu_mem hb with ⟨_, hb⟩ | ⟨_, hb⟩
    · exact vo.new b hb
    · exact t.new j b hb⟩⟩
end
/-- a target takes what may be lent -/
def RdG (Y : Cz) (P : St → St → Prop) (tg : Tg) : TG := fun w σ H Q => ∃ env fp v G env', Sim Y.X env σ H fp ∧ bindT false tg v env = some env' ∧ Rp false Y.X H v w G ∧ ∀ σ' fp', Sim Y.X env' σ' H fp' → Stp fp H fp' H → P σ σ' → Q σ' H
def RdGs (Y : Cz) (P : St → St → Prop) (ts : List Tg) : TGs := fun ws σ H Q => ∃ env fp vs G env', Sim Y.X env σ H fp ∧ bindTs false ts vs env = some env' ∧ RpL false Y.X H vs ws G ∧ ∀ σ' fp', Sim Y.X env' σ' H fp' → Stp fp H fp' H → P σ σ' → Q σ' H
/-- what is said of the slots -/
structure Pr (P : St → St → Prop) : Prop where
  refl : ∀ a, P a a
  trans : ∀ a b c, P a b → P b c → P a c
abbrev PT0 : St → St → Prop := fun _ _ => True
theorem pr0 : Pr PT0 := ⟨fun _ => trivial, fun _ _ _ _ _ => trivial⟩
theorem PG.mono {X : Cx} {tg : Expr} {t u : TG} (h : PG X tg t) (k : ∀ v σ H Q, u v σ H Q → t v σ H Q) : PG X tg u := ⟨fun pins s σ H v u' Q I r hu => h.run pins s σ H v u' Q I r (k v σ H Q hu)⟩
theorem PG.or {X : Cx} {tg : Expr} {t u : TG} (h : PG X tg t) (k : PG X tg u) : PG X tg (fun v σ H Q => t v σ H Q ∨ u v σ H Q) := ⟨fun pins s σ H v u' Q I r hu => hu.elim (h.run pins s σ H v u' Q I r) (k.run pins s σ H v u' Q I r)⟩
theorem PGs.mono {X : Cx} {tg : List Expr} {t u : TGs} (h : PGs X tg t) (k : ∀ v σ H Q, u v σ H Q → t v σ H Q) : PGs X tg u := ⟨fun pins s σ H v u' Q I r hu => h.run pins s σ H v u' Q I r (k v σ H Q hu)⟩
/-- targets with their terms -/
inductive Tgs (Y : Cz) (X : Cx) (P : St → St → Prop) : List Expr → List Tg → Prop
  | nil : Tgs Y X P [] []
  | cons {a : Expr} {as : List Expr} {t : Tg} {ts : List Tg} : PG X a (RdG Y P t) → ((assignEach (a :: as) X.env).map (·.2) = assign a X.env :: (assignEach as X.env).map (·.2)) → Tgs Y X P as ts → Tgs Y X P (a :: as) (t :: ts)
section
variable {Y : Cz} {X : Cx} {a b c e o i : Expr} {ea eb ec ee eo ei : E} {pos p1 p2 : Pos}
theorem pg_v (O : Ok0 Y X) {i : Nat} {x : Str} (hN : X.N.Nodup) (hi : X.N[i]? = some x) (hx : Loc X.env.scope x) (hf : X.fn x = true ∨ X.env.scope.names.lookup x = some .local) {P : St → St → Prop} (hP : ∀ (σ : St) (x : V), P σ (σ.set i (some x))) : PG X (.Name x pos) (RdG Y P (.v i)) := by
  refine PG.mono (pg_name hN hi hx hf) fun w σ H Q ⟨env, fp, v, G, env', S, hb, r, q⟩ => ?_
  obtain ⟨hv, hl, rfl⟩ := bind_v hb
  have hv : v.imm = true := hv.elim (fun e => by cases e) (fun e => e)
  have r1 := (r.imm (m' := true) hv).2
  obtain ⟨S', t'⟩ := VO.setv S (Stp.refl (fp := fp)) (⟨r1, List.nodup_nil, fun _ hb => (by cases hb), fun _ hb => (by cases hb), fun _ hb => (by cases hb)⟩ : VO Y.X fp H fp H v w []) hl
  exact q _ _ S' t' (hP _ _)
theorem Tgs.len {P : St → St → Prop} : ∀ {as : List Expr} {ts : List Tg}, Tgs Y X P as ts → as.length = ts.length
  | _, _, .nil => rfl
  | _, _, .cons _ _ t => by simp [t.len]
theorem bindTs_len {own : Bool} : ∀ {ts : List Tg} {vs : List PV} {env env' : PEnv}, bindTs own ts vs env = some env' → vs.length = ts.length
  | [], [], _, _, _ => rfl
  | [], _ :: _, _, _, h => by simp [bindTs] at h
  | _ :: _, [], _, _, h => by simp [bindTs] at h
  | t :: ts, v :: vs, env, env', h => by
    unfold bindTs at h
    cases e : bindT own t v env with
    | none => rw [e] at h; cases h
    | some env1 => rw [e] at h; simp [bindTs_len h]
theorem pgs_of (O : Ok0 Y X) {P : St → St → Prop} (pr : Pr P) : ∀ {as : List Expr} {ts : List Tg}, Tgs Y X P as ts → PGs X as (RdGs Y P ts)
  | _, _, .nil => PGs.mono pgs_nil fun ws σ H Q ⟨env, fp, vs, G, env', S, hb, r, q⟩ => by
    cases vs with
    | nil =>
      unfold bindTs at hb
      cases hb
      unfold RpL at r
      exact ⟨r.1, q σ fp S Stp.refl (pr.refl σ)⟩
    | cons v vs => simp [bindTs] at hb
  | _, _, .cons h hs t => PGs.mono (pgs_cons h (pgs_of O pr t) hs) fun ws σ H Q ⟨env, fp, vs, G, env', S, hb, r, q⟩ => by
    cases vs with
    | nil => simp [bindTs] at hb
    | cons v vs =>
      unfold bindTs at hb
      cases e : bindT false _ v env with
      | none => rw [e] at hb; cases hb
      | some env1 =>
        rw [e] at hb
        unfold RpL at r
        obtain ⟨w, ws', F1, F2, rfl, rfl, r1, r2⟩ := r
        exact ⟨w, ws', rfl, env, fp, v, F1, env1, S, e, r1, fun σ1 fp1 S1 t1 p1 => ⟨env1, fp1, vs, F2, env', S1, hb, r2, fun σ2 fp2 S2 t2 p2 => q σ2 fp2 S2 (t1.trans t2) (pr.trans _ _ _ p1 p2)⟩⟩
theorem pg_t (O : Ok0 Y X) (hc : X.calm = true) {as : List Expr} {ts : List Tg} {k : Nat} {P : St → St → Prop} (pr : Pr P) (h : Tgs Y X P as ts) (hn : (assignEach as X.env).length = as.length) (hst : (assignEach as X.env).findIdx? (·.1) = none) : PG X (.Tuple as k pos) (RdG Y P (.t ts)) := by
  refine PG.mono (PG.or (pg_tup hc (pgs_of O pr h) hn hst) (pg_unl hc (pgs_of O pr h) hn hst)) fun w σ H Q ⟨env, fp, v, G, env', S, hb, r, q⟩ => ?_
  unfold bindT at hb
  cases v with
  | tup vs =>
    obtain ⟨p, ws, rfl, hq, rl⟩ := rp_tup' r
    have hb : bindTs false ts vs env = some env' := hb
    exact .inl ⟨p, ws, rfl, by rw [← O.K]; exact hq, by rw [← rl.length, bindTs_len hb, h.len], env, fp, vs, _, env', S, hb, rl, q⟩
  | lst vs =>
    obtain ⟨p, ws, G0, rfl, hq, rl⟩ := rp_lst' r
    have hb : bindTs false ts vs env = some env' := hb
    exact .inr ⟨p, ws, rfl, by rw [← O.K]; exact hq.sq, by rw [← rl.length, bindTs_len hb, h.len], env, fp, vs, _, env', S, hb, rl, q⟩
  | _ => cases hb
/-! ### statements -/
theorem ps_setv (O : Ok0 Y X) {i : Nat} {x : Str} (hN : X.N.Nodup) (hi : X.N[i]? = some x) (hx : Loc X.env.scope x) (hf : X.fn x = true ∨ X.env.scope.names.lookup x = some .local) (he : PE X e (RdB Y ee)) (hs : swapsWith e (some (.Name x p1)) pos.line X.env = pure false) :
    PS X (.Assign [.Name x p1] e pos) (RdS Y (.asg (.v i) ee)) := by
  refine PS.mono (ps_set hN hi hx he hs hf) fun D σ H ⟨env, fp, S, h⟩ => ?_
  unfold exS at h
  refine (evE_S S h).mono fun w H1 ⟨v, env2, fp2, F, S2, t2, vo, h2⟩ => ?_
  cases hb : bindT true (.v i) v env2 with
  | none => rw [hb] at h2; exact h2.elim
  | some env3 =>
    rw [hb] at h2
    obtain ⟨_, hl, rfl⟩ := bind_v hb
    obtain ⟨S3, t3⟩ := VO.setv S2 t2 vo hl
    exact h2 _ _ _ S3 t3
theorem ps_sett (O : Ok0 Y X) {ts : List Tg} {tg : Expr} (hg : PG X tg (RdG Y PT0 (.t ts))) (he : PE X e (RdB Y ee)) (hs : swapsWithSole [tg] e pos.line X.env = pure false) (hw : swappedStores [tg] e X.env = pure none) (h1 : (assignEach [tg] X.env).map (·.2) = [assign tg X.env]) :
    PS X (.Assign [tg] e pos) (RdS Y (.asg (.t ts) ee)) := by
  refine PS.mono (ps_asg he hg hs hw h1) fun D σ H ⟨env, fp, S, h⟩ => ?_
  unfold exS at h
  refine ⟨env, fp, S, h.st.imp fun r env1 h1 w H1 fp1 P1 => ?_⟩
  cases hb : bindT false (.t ts) r.1 env1 with
  | none => rw [hb] at h1; exact h1.elim
  | some env2 =>
    rw [hb] at h1
    obtain ⟨G, vb⟩ := P1.vb
    exact ⟨env1, fp1, r.1, G, env2, P1.sim, hb, vb.rp, fun σ' fp' S' t' _ => h1 σ' H1 fp' S' (P1.stp.trans t')⟩
theorem PSet.or {t u : TSet} (h : PSet X t) (k : PSet X u) : PSet X (fun o i v H Q => t o i v H Q ∨ u o i v H Q) := fun pins s σ H o i v ov iv u' Q I r1 r2 r3 q => q.elim (h pins s σ H o i v ov iv u' Q I r1 r2 r3) (k pins s σ H o i v ov iv u' Q I r1 r2 r3)
theorem set_A (hu : X.A.units + 200 < cLine) : PSet X rSetA := PSet.or set_list (set_dict (by omega))
/-- a store at a path's end -/
theorem mut_set (ok : Y.X.Ok) {σ : St} {env env' : PEnv} {fp fp1 : Nat → List Addr} {H H1 : Hp} {a : Nat × List PV} {k v : PV} {u : Unit} {x kw w wv : V} {Gk F : List Addr} {Q : Hp → Prop} (S : Sim Y.X env σ H1 fp1) (t : Stp fp H fp1 H1) (e1 : σ[a.1]? = some (some wv)) (pa : PAt H1 wv a.2 x)
    (rk : Rp false Y.X H1 k kw Gk) (vo : VO Y.X fp H fp1 H1 v w F) (h : mutP env a.1 a.2 (fun w => (setI w k v).map fun w' => (w', ())) = .ok u env') (q : ∀ H' fp', Sim Y.X env' σ H' fp' → Stp fp H fp' H' → Q H') : rSetA x kw w H1 Q := by
  obtain ⟨w0, w1, G, f1, r0, nd, sub, k'⟩ := mut_done ok S t e1 pa h
  cases hs : setI w0 k v with
  | none => rw [hs] at f1; cases f1
  | some w1' =>
    rw [hs] at f1
    cases f1
    refine set_ok ok hs r0 nd rk vo.rp vo.nd (fun b hb hG => vo.dis b hb a.1 (sub b hG)) fun H' G' frm rw' nd' mem => ?_
    obtain ⟨fp3, S3, t3, _⟩ := k' H' G' frm rw' nd' fun b hb => (mem b hb).imp (fun h => h) fun h => ⟨fun j => vo.dis b h j, vo.z b h, vo.new b h⟩
    exact q H' fp3 S3 t3
theorem ps_setix (O : Ok0 Y X) (ho : PE X o (RdP Y eo)) (hi : PE X i (RdB Y ei)) (he : PE X e (RdB Y ee)) (ha : ∀ v, assign (.Subscript o i p1) X.env v = (do
      let ov ← holding [v] (eval o X.env)
      let iv ← holding [v, ov] (eval i X.env)
      standAt p1
      holding [v, ov, iv] (setItem ov iv v)
      release [v, ov, iv] []))
    (hs : swapsWithSole [.Subscript o i p1] e pos.line X.env = pure false) (hw : swappedStores [.Subscript o i p1] e X.env = pure none) (h1 : (assignEach [.Subscript o i p1] X.env).map (·.2) = [assign (.Subscript o i p1) X.env]) :
    PS X (.Assign [.Subscript o i p1] e pos) (RdS Y (.setix eo ei ee)) := by
  refine PS.mono (ps_asg he (pg_sub ho hi (set_A O.hu) ha) hs hw h1) fun D σ H ⟨env, fp, S, h⟩ => ?_
  unfold exS at h
  refine (evE_S S h).mono fun w H1 ⟨v, env2, fp2, F, S2, t2, vo, h2⟩ => ?_
  refine ⟨env2, fp2, S2, (h2.st' t2).imp fun a env3 h3 x H3 fp3 P3 => ?_⟩
  obtain ⟨hq, h3⟩ := h3.ite
  have t3 := t2.trans P3.stp
  refine ⟨env3, fp3, P3.sim, (h3.st' t3).imp fun vk env4 h4 kw H4 fp4 P4 => ?_⟩
  have vo4 := (vo.keep O.ok P3.same P3.mono).keep O.ok (P4.same (and_l hq)) (P4.mono (and_l hq))
  obtain ⟨wv, v0, w0, e1, pa, _, _⟩ := P3.path
  obtain ⟨Gk, vbk⟩ := P4.vb
  cases hm : mutP env4 a.1 a.2 (fun w => (setI w vk.1 v).map fun w' => (w', ())) with
  | bad => rw [hm] at h4; exact h4.elim
  | exc c fs e' => exact (mutP_exc hm).elim
  | ok u env5 =>
    rw [hm] at h4
    have h4' : HoldS Y fp H (.nx env5) D := h4
    exact mut_set O.ok P4.sim (t3.trans P4.stp) e1 (pa.same (P4.same (and_l hq))) vbk.rp vo4 hm fun H' fp' S' t' => h4' σ H' fp' S' t'
/-! ### op= -/
def rAug (op : Operator) : TIp := fun x y H Q => ∃ a b c, x = .int a ∧ y = .int b ∧ augI op (.int a) (.int b) = some (.int c) ∧ Q (.int c) H
theorem ip_aug (op : Operator) : PIp X op (rAug op) := by
  rintro pins s σ H x y v u Q I r1 r2 ⟨a, b, c, rfl, rfl, h, q⟩
  cases op <;> try (cases h; done)
  · exact iop_add pins s σ H _ _ v u Q I r1 r2 ⟨a, b, rfl, rfl, by cases h; exact q⟩
  · exact iop_sub pins s σ H _ _ v u Q I r1 r2 ⟨a, b, rfl, rfl, by cases h; exact q⟩
  · refine iop_mul pins s σ H _ _ v u Q I r1 r2 ⟨a, b, rfl, rfl, ?_, ?_⟩
    · have h' : (if (fits64 a || fits64 b) = true then some (PV.int (a * b)) else none) = some (PV.int c) := h
      by_cases hf : (fits64 a || fits64 b) = true
      · rcases Bool.or_eq_true _ _ ▸ hf with hf | hf
        · exact .inl (fits64_ok hf)
        · exact .inr (fits64_ok hf)
      · rw [if_neg hf] at h'; cases h'
    · have h' : (if (fits64 a || fits64 b) = true then some (PV.int (a * b)) else none) = some (PV.int c) := h
      split at h' <;> cases h'
      exact q
  · refine iop_mod pins s σ H _ _ v u Q I r1 r2 ⟨a, b, rfl, rfl, ?_, ?_⟩
    · have h' : (if 0 < b then some (PV.int (a % b)) else none) = some (PV.int c) := h
      split at h' <;> first | assumption | cases h'
    · have h' : (if 0 < b then some (PV.int (a % b)) else none) = some (PV.int c) := h
      split at h' <;> cases h'
      exact q
  · refine iop_fdiv pins s σ H _ _ v u Q I r1 r2 ⟨a, b, rfl, rfl, ?_, ?_⟩
    · have h' : (if 0 < b ∧ b < 1073741824 then some (PV.int (a / b)) else none) = some (PV.int c) := h
      split at h' <;> first | assumption | cases h'
    · have h' : (if 0 < b ∧ b < 1073741824 then some (PV.int (a / b)) else none) = some (PV.int c) := h
      split at h' <;> cases h'
      exact q
theorem augI_ints {op : Operator} {v w r : PV} (h : augI op v w = some r) : ∃ a b c, v = .int a ∧ w = .int b ∧ r = .int c := by
  unfold augI at h
  split at h
  · rename_i a b
    cases op <;> simp only [binI] at h <;> first | (cases h; done) | skip
    all_goals (try split at h)
    all_goals first | (cases h; done) | exact ⟨a, b, _, rfl, rfl, (Option.some.inj h).symm⟩
  · cases h
theorem rp_intI {m : Bool} {X : KX} {H : Hp} {i : Int} : Rp m X H (.int i) (.int i) [] := by unfold Rp; exact ⟨rfl, rfl⟩
theorem ps_augv (O : Ok0 Y X) {op : Operator} {i : Nat} {x : Str} (hN : X.N.Nodup) (hi : X.N[i]? = some x) (hx : Loc X.env.scope x) (hf : X.fn x = true ∨ X.env.scope.names.lookup x = some .local) (he : PE X e (RdB Y ee)) :
    PS X (.AugAssign (.Name x p1) op e pos) (RdS Y (.aug i op ee)) := by
  refine PS.mono (ps_aug hN hi hx he (ip_aug op) hf) fun D σ H ⟨env, fp, S, h⟩ => ?_
  unfold exS at h
  cases ev : getS env i with
  | none => rw [ev] at h; exact h.elim
  | some v =>
    rw [ev] at h
    dsimp only at h
    obtain ⟨w0, G0, e1, vb0⟩ := S.val ev
    refine ⟨w0, e1, env, fp, S, h.st.imp fun r env1 h1 w H1 fp1 P1 => ?_⟩
    cases ea : augI op v r.1 with
    | none => rw [ea] at h1; exact h1.elim
    | some z =>
      rw [ea] at h1
      dsimp only at h1
      cases hb : bindT true (.v i) z env1 with
      | none => rw [hb] at h1; exact h1.elim
      | some env2 =>
        rw [hb] at h1
        obtain ⟨a, b, c, rfl, e2, rfl⟩ := augI_ints ea
        rw [e2] at ea
        obtain ⟨G, vb⟩ := P1.vb
        have vbr := vb.rp
        rw [e2] at vbr
        refine ⟨a, b, c, rp_int' vb0.rp, rp_int' vbr, ea, ?_⟩
        obtain ⟨_, hl, rfl⟩ := bind_v hb
        obtain ⟨S2, t2⟩ := VO.setv P1.sim P1.stp (⟨rp_intI, List.nodup_nil, fun _ hb => (by cases hb), fun _ hb => (by cases hb), fun _ hb => (by cases hb)⟩ : VO Y.X fp H fp1 H1 (.int c) (.int c) []) hl
        exact h1 _ _ _ S2 t2
/-- o[i], by values, of what may be changed -/
theorem get_A (hu : X.A.units + 200 < cLine) : PGet X (fun x y H Q => rIxL X.K x y H Q ∨ ∃ a v, x = .ref a ∧ DGet H a y (some v) ∧ Q v H) := by
  intro pins s σ H x y v u Q I rx ry h
  rcases h with ⟨p, xs, i, z, rfl, rfl, hq, he, q⟩ | ⟨a, w, rfl, g, q⟩
  · cases rx
    obtain ⟨t, rfl⟩ := ry
    obtain ⟨its, r, pl, hz⟩ := I.list hq
    obtain ⟨j, h1, h2, h3, h4, h5⟩ := atI_get he
    obtain ⟨w, ew, rw'⟩ := r.get h2
    have hl := r.length
    have hn := line63
    have fin : EP X pins σ Q w s := ⟨z, H, I, rw', q⟩
    by_cases h0 : 0 ≤ i
    · have hj : i.toNat = j := by
        rw [seqIndex_of h0 h5] at h1
        exact Option.some.inj h1
      exact wpAny_getItem_list pl.isList h0 (by omega) (by rw [hj]; simpa using ew) fin
    · have hj : (i + (its.toArray.size : Int)).toNat = j := by
        rw [seqIndex_neg (by omega) h4] at h1
        rw [List.size_toArray, ← hl]
        exact Option.some.inj h1
      exact wpAny_getItem_list_neg pl.isList (by omega) (by rw [List.size_toArray] <;> omega) (by omega) (by rw [hj]; simpa using ew) fin
  · obtain rfl : v = Value.ref a := rx
    exact d_getItem (by omega) I g ry fun w' s3 I3 rw' => ⟨w, H, I3, rw', q⟩
theorem ps_augix (O : Ok0 Y X) {op : Operator} (ho : PE X o (RdP Y eo)) (hi : PE X i (RdB Y ei)) (he : PE X e (RdB Y ee))
    (ha : ∀ ov iv new, augStore i ov iv new = (do holding [new, ov, iv] (setItem ov iv new); release [new, ov, iv] []; pure .next)) : PS X (.AugAssign (.Subscript o i p1) op e pos) (RdS Y (.augix eo ei op ee)) := by
  refine PS.mono (ps_augS ho hi (get_A O.hu) he (ip_aug op) (set_A O.hu) ha) fun D σ H ⟨env, fp, S, h⟩ => ?_
  unfold exS at h
  obtain ⟨hq, h⟩ := h.ite
  refine ⟨env, fp, S, h.st.imp fun a env1 h1 x H1 fp1 P1 => ?_⟩
  refine ⟨env1, fp1, P1.sim, (h1.st' P1.stp).imp fun vk env2 h2 kw H2 fp2 P2 => ?_⟩
  have s2 := P2.same (and_l (and_l hq))
  cases em : getM env2 a.1 with
  | none => rw [em] at h2; exact h2.elim
  | some v =>
    rw [em] at h2
    dsimp only at h2
    cases eg : getP v a.2 with
    | none => rw [eg] at h2; exact h2.elim
    | some w0 =>
      rw [eg] at h2
      dsimp only at h2
      cases ei : ixI w0 vk.1 with
      | none => rw [ei] at h2; exact h2.elim
      | some old =>
        rw [ei] at h2
        dsimp only at h2
        obtain ⟨hbox, h2⟩ := h2.ite
        obtain ⟨wv, v1, w01, e1, pa, _, _⟩ := P1.path
        obtain ⟨wv', e2, rv⟩ := P2.sim.own a.1 v em
        rw [e1] at e2
        have ew : wv = wv' := Option.some.inj (Option.some.inj e2)
        subst ew
        have pa2 := pa.same s2
        obtain ⟨G, rest, _, _, _, r0, _⟩ := rp_path O.ok rv (P2.sim.nd a.1) eg pa2
        obtain ⟨Gk, vbk⟩ := P2.vb
        have t2 := P1.stp.trans P2.stp
        -- the rest, from the old value
        have go : ∀ ow Go, Rp false Y.X H2 old ow Go → (RdB Y ee σ H2 fun y H4 => rAug op ow y H4 fun z H5 => rSetA x kw z H5 fun H6 => D.nx σ H6) := fun ow Go ro => by
          refine ⟨env2, fp2, P2.sim, (h2.st' t2).imp fun r env3 h3 y H3 fp3 P3 => ?_⟩
          have s3 := P3.same (and_r hq)
          cases ea : augI op old r.1 with
          | none => rw [ea] at h3; exact h3.elim
          | some z =>
            rw [ea] at h3
            dsimp only at h3
            obtain ⟨a', b', c', rfl, e3, rfl⟩ := augI_ints ea
            obtain ⟨G3, vb3⟩ := P3.vb
            have vb3 := vb3.rp
            rw [e3] at vb3 ea
            refine ⟨a', b', c', rp_int' ro, rp_int' vb3, ea, ?_⟩
            cases hm : mutP env3 a.1 a.2 (fun w => (setI w vk.1 (.int c')).map fun w' => (w', ())) with
            | bad => rw [hm] at h3; exact h3.elim
            | exc c fs e' => exact (mutP_exc hm).elim
            | ok u env5 =>
              rw [hm] at h3
              have h4' : HoldS Y fp H (.nx env5) D := h3
              exact mut_set O.ok P3.sim (t2.trans P3.stp) e1 (pa2.same s3) (vbk.rp.fix O.ok (Fix.same s3) fun b _ o ho => s3 b o ho) (⟨rp_intI, List.nodup_nil, fun _ hb => (by cases hb), fun _ hb => (by cases hb), fun _ hb => (by cases hb)⟩ : VO Y.X fp H fp3 H3 (.int c') (.int c') []) hm fun H' fp' S' t' => h4' σ H' fp' S' t'
        cases w0 with
        | lst vs =>
          obtain ⟨p, ws, G0, rfl, hl, rl⟩ := rp_lst' r0
          cases ek : vk.1 <;> rw [ek] at ei <;> try (cases ei; done)
          rename_i n
          have ei' : atI vs n = some old := ei
          obtain ⟨y, Gy, hy, ry, _⟩ := atI_rp rl ei'
          have vk' := vbk.rp
          rw [ek] at vk'
          exact .inl ⟨p, ws, n, y, rfl, rp_int' vk', by rw [← O.K]; exact hl.sq, hy, go y Gy ry.weak⟩
        | dct ks vs =>
          have fin : ∀ c : Key, lookK c ks vs = some old → kw = kV c → ∃ p ow Go, x = .ref p ∧ DGet H2 p kw (some ow) ∧ Rp true Y.X H2 old ow Go := fun c hc e => by
            obtain ⟨p, kvs, G0, rfl, hd, hk, rfl, rl⟩ := rp_dct' r0
            obtain ⟨j, j1, j2, _⟩ := lookK_at c hc
            obtain ⟨w2, F1, G1, F2, q1, q2, q3, _⟩ := rl.put j2
            rw [List.getElem?_map] at q1
            cases ep : kvs[j]? with
            | none => rw [ep] at q1; cases q1
            | some pr =>
              rw [ep] at q1
              have e2 : pr.2 = w2 := by simpa using q1
              have e3 : pr.1 = c := by
                rw [← hk.1, List.getElem?_map, ep] at j1
                simpa using j1
              have hv := valV_at (by rw [hk.1]; exact hk.2) ep
              rw [e3, e2] at hv
              subst e
              refine ⟨p, w2, G1, rfl, ?_, q3⟩
              rw [← hv]
              exact DGet.k hd
          cases ek : vk.1 <;> rw [ek] at ei <;> try (cases ei; done)
          · have vk' := vbk.rp
            rw [ek] at vk'
            obtain ⟨p, ow, Go, e5, hd, ro⟩ := fin _ ei (rp_int' vk')
            exact .inr ⟨p, ow, e5, hd, go ow Go ro.weak⟩
          · have vk' := vbk.rp
            rw [ek] at vk'
            obtain ⟨p, ow, Go, e5, hd, ro⟩ := fin _ ei (rp_str' vk')
            exact .inr ⟨p, ow, e5, hd, go ow Go ro.weak⟩
        | _ => cases hbox
/-! ### small ones -/
theorem ps_ex (O : Ok0 Y X) (he : PE X e (RdB Y ee)) (hs : swapsWith e none pos.line X.env = pure false) : PS X (.Expr e pos) (RdS Y (.ex ee)) := by
  refine PS.mono (ps_expr he hs) fun D σ H ⟨env, fp, S, h⟩ => ?_
  unfold exS at h
  exact ⟨env, fp, S, h.st.imp fun r env1 h1 w H1 fp1 P1 => h1 σ H1 fp1 P1.sim P1.stp⟩
theorem ps_rt (O : Ok0 Y X) (he : PE X e (RdB Y ee)) : PS X (.Return (some e) pos) (RdS Y (.ret ee)) := by
  refine PS.mono (ps_ret he) fun D σ H ⟨env, fp, S, h⟩ => ?_
  unfold exS at h
  refine (evE_S S h).mono fun w H1 ⟨v, env2, fp2, F, S2, t2, vo, h2⟩ => ?_
  exact h2 w F σ H1 fp2 S2 t2 vo
theorem ps_rtN (O : Ok0 Y X) : PS X (.Return none pos) (RdS Y (.ret .non)) := by
  refine PS.mono ps_retN fun D σ H ⟨env, fp, S, h⟩ => ?_
  unfold exS at h
  have h' : HoldS Y fp H (.ret .non env) D := by
    have e : (evE Y.p Y.cf .non env).st (fun v env => .ret v env) = .ret .non env := by unfold evE evB; rfl
    rw [e] at h; exact h
  exact h' .non [] σ H fp S Stp.refl ⟨rp_non, List.nodup_nil, fun _ hb => (by cases hb), fun _ hb => (by cases hb), fun _ hb => (by cases hb)⟩
theorem ps_ps (O : Ok0 Y X) : PS X (.Pass pos) (RdS Y .pass) := PS.mono ps_pass fun D σ H ⟨env, fp, S, h⟩ => by
  unfold exS at h
  exact h σ H fp S Stp.refl
theorem ps_bk (O : Ok0 Y X) : PS X (.Break pos) (RdS Y .brk) := PS.mono ps_break fun D σ H ⟨env, fp, S, h⟩ => by
  unfold exS at h
  exact h σ H fp S Stp.refl
theorem ps_ct (O : Ok0 Y X) : PS X (.Continue pos) (RdS Y .cnt) := PS.mono ps_continue fun D σ H ⟨env, fp, S, h⟩ => by
  unfold exS at h
  exact h σ H fp S Stp.refl
theorem pss_n : PSs X [] (RdSs Y []) := PSs.mono pss_nil fun D σ H ⟨env, fp, S, h⟩ => by
  unfold exSs at h
  exact h σ H fp S Stp.refl
theorem HoldS.body {fp fp1 : Nat → List Addr} {H H1 : Hp} {D : Ends} {r : SR} {kn kc kb : PEnv → SR} (h : HoldS Y fp H (match r with | .nx e => kn e | .cnt e => kc e | .brk e => kb e | r => r) D) (t : Stp fp H fp1 H1) :
    HoldS Y fp1 H1 r { D with nx := fun σ H2 => ∃ env2 fp2, Sim Y.X env2 σ H2 fp2 ∧ Stp fp H fp2 H2 ∧ HoldS Y fp H (kn env2) D, ct := fun σ H2 => ∃ env2 fp2, Sim Y.X env2 σ H2 fp2 ∧ Stp fp H fp2 H2 ∧ HoldS Y fp H (kc env2) D, bk := fun σ H2 => ∃ env2 fp2, Sim Y.X env2 σ H2 fp2 ∧ Stp fp H fp2 H2 ∧ HoldS Y fp H (kb env2) D } := by
  cases r with
  | nx env => exact fun σ' H' fp' S t' => ⟨env, fp', S, t.trans t', h⟩
  | cnt env => exact fun σ' H' fp' S t' => ⟨env, fp', S, t.trans t', h⟩
  | brk env => exact fun σ' H' fp' S t' => ⟨env, fp', S, t.trans t', h⟩
  | ret v env => exact fun w F σ' H' fp' S t' vo => h w F σ' H' fp' S (t.trans t') (vo.adv t)
  | exc c fs env => exact fun σ' cls d H' fp' S t' e => h σ' cls d H' fp' S (t.trans t') e
  | bad => exact h
theorem HoldS.seq {fp : Nat → List Addr} {H : Hp} {D : Ends} {r : SR} {kn : PEnv → SR} (h : HoldS Y fp H (match r with | .nx e => kn e | r => r) D) :
    HoldS Y fp H r { D with nx := fun σ H2 => ∃ env2 fp2, Sim Y.X env2 σ H2 fp2 ∧ Stp fp H fp2 H2 ∧ HoldS Y fp H (kn env2) D } := by
  cases r with
  | nx env => exact fun σ' H' fp' S t' => ⟨env, fp', S, t', h⟩
  | cnt env => exact h
  | brk env => exact h
  | ret v env => exact h
  | exc c fs env => exact h
  | bad => exact h
theorem pss_c {st : Stmt} {rest : List Stmt} {s : S} {ss : List S} (h1 : PS X st (RdS Y s)) (h2 : PSs X rest (RdSs Y ss)) : PSs X (st :: rest) (RdSs Y (s :: ss)) := by
  refine PSs.mono (pss_cons h1 h2) fun D σ H ⟨env, fp, S, h⟩ => ?_
  unfold exSs at h
  have h' := HoldS.seq h
  refine ⟨env, fp, S, ?_⟩
  revert h'
  cases exS Y.p Y.cf Y.fu s env with
  | nx env =>
    intro h' σ' H' fp' S t'
    obtain ⟨env2, fp2, S2, t2, h2⟩ := h' σ' H' fp' S t'
    exact ⟨env2, fp2, S2, h2.adv t2⟩
  | cnt env => exact fun h' => h'
  | brk env => exact fun h' => h'
  | ret v env => exact fun h' => h'
  | exc c fs env => exact fun h' => h'
  | bad => exact fun h' => h'
theorem ps_ife {as bs : List Stmt} {ss ts : List S} (O : Ok0 Y X) (hc : PT X c (RdT Y ec)) (ha : PSs X as (RdSs Y ss)) (hb : PSs X bs (RdSs Y ts)) : PS X (.If c as bs pos) (RdS Y (.ife ec ss ts)) := by
  refine PS.mono (ps_if hc ha hb) fun D σ H ⟨env, fp, S, h⟩ => ?_
  unfold exS at h
  refine ⟨env, fp, S, h.st.imp fun r env1 h1 w H1 fp1 P1 => ?_⟩
  cases et : truthI r.1 with
  | none => rw [et] at h1; exact h1.elim
  | some b =>
    rw [et] at h1
    refine ⟨b, rfl, ?_⟩
    cases b with
    | true =>
      rw [if_pos rfl]
      exact ⟨env1, fp1, P1.sim, h1.adv P1.stp⟩
    | false =>
      rw [if_neg (by decide)]
      exact ⟨env1, fp1, P1.sim, h1.adv P1.stp⟩
theorem ps_whl {as : List Stmt} {ss : List S} (O : Ok0 Y X) (hp : PassesOwn (model X.prog X.w) X.A X.env X.xe) (hc : PT X c (RdT Y ec)) (ha : PSs X as (RdSs Y ss)) : PS X (.While c as [] pos) (RdS Y (.whl ec ss)) := by
  refine PS.mono (ps_while hp hc ha) fun D σ H ⟨env, fp, S, h⟩ => ?_
  unfold exS at h
  refine ⟨fun m σ' H' => ∃ env' fp', Sim Y.X env' σ' H' fp' ∧ Stp fp H fp' H' ∧ HoldS Y fp H (whlI (evB Y.p Y.cf ec) (exSs Y.p Y.cf Y.fu ss) m env') D, ⟨Y.fu, env, fp, S, Stp.refl, h⟩, ?_⟩
  rintro m σ1 H1 ⟨env1, fp1, S1, t1, h1⟩
  cases m with
  | zero => exact h1.elim
  | succ n =>
    unfold whlI at h1
    refine ⟨env1, fp1, S1, (h1.st' t1).imp fun r env2 h2 w H2 fp2 P2 => ?_⟩
    cases et : truthI r.1 with
    | none => rw [et] at h2; exact h2.elim
    | some b =>
      rw [et] at h2
      refine ⟨b, rfl, ?_⟩
      have t2 := t1.trans P2.stp
      cases b with
      | false =>
        dsimp only
        rw [if_neg (by decide)]
        exact h2 σ1 H2 fp2 P2.sim t2
      | true =>
        dsimp only
        rw [if_pos rfl]
        refine ⟨fun σ' H' => ∃ env' fp', Sim Y.X env' σ' H' fp' ∧ Stp fp H fp' H' ∧ HoldS Y fp H (whlI (evB Y.p Y.cf ec) (exSs Y.p Y.cf Y.fu ss) n env') D, fun σ' H' hN => ⟨n, Nat.lt_succ_self n, hN⟩, env2, fp2, P2.sim, ?_⟩
        have h3 := HoldS.body (kn := whlI (evB Y.p Y.cf ec) (exSs Y.p Y.cf Y.fu ss) n) (kc := whlI (evB Y.p Y.cf ec) (exSs Y.p Y.cf Y.fu ss) n) (kb := .nx) h2 t2
        revert h3
        cases exSs Y.p Y.cf Y.fu ss env2 with
        | nx env => exact fun h' => h'
        | cnt env => exact fun h' => h'
        | brk env =>
          intro h' σ' H' fp' S t'
          obtain ⟨env2, fp2, S2, t2, h2⟩ := h' σ' H' fp' S t'
          exact h2 σ' H' fp2 S2 t2
        | ret v env => exact fun h' => h'
        | exc c fs env => exact fun h' => h'
        | bad => exact fun h' => h'
end
end DI
set_option Elab.async false
set_option linter.all false
set_option maxRecDepth 100000
set_option maxHeartbeats 1000000
/-! DIS15: what a def promises. -/
namespace DI
open PySem PySem.Spec PyProof.Rows L2

/-- the same, something else lent -/
abbrev sX (X : KX) (Z : Addr → Prop) (R : Nat → Option V) (Q : Nat → PV → V → List Addr → Prop) : KX := ⟨X.K, X.w, X.ea, Z, R, Q⟩
abbrev subX (X : KX) (Z : Addr → Prop) (R : Nat → Option V) : KX := sX X Z R fun _ _ _ G => ∀ b ∈ G, Z b
mutual
theorem Rp.sub {m : Bool} {X : KX} {Z : Addr → Prop} {R : Nat → Option V} {Q : Nat → PV → V → List Addr → Prop} {H : Hp} : ∀ {v : PV} {w : V} {F : List Addr}, Rp m X H v w F ↔ Rp m (sX X Z R Q) H v w F
  | .non, w, F => by unfold Rp; exact Iff.rfl
  | .bl b, w, F => by unfold Rp; exact Iff.rfl
  | .int i, w, F => by unfold Rp; exact Iff.rfl
  | .str x, w, F => by unfold Rp; exact Iff.rfl
  | .tup vs, w, F => by
    unfold Rp
    exact exists_congr fun a => exists_congr fun ws => and_congr_right fun _ => and_congr_right fun _ => RpL.sub
  | .lst vs, w, F => by
    unfold Rp
    exact exists_congr fun a => exists_congr fun ws => exists_congr fun G => and_congr_right fun _ => and_congr_right fun _ => RpL.sub
  | .set vs, w, F => by unfold Rp; exact Iff.rfl
  | .dct ks vs, w, F => by
    unfold Rp
    exact exists_congr fun a => exists_congr fun kvs => exists_congr fun G => and_congr_right fun _ => and_congr_right fun _ => and_congr_right fun _ => and_congr_right fun _ => RpL.sub
  | .err c fs, w, F => by unfold Rp; exact Iff.rfl
  | .fls vs, w, F => by
    unfold Rp
    exact exists_congr fun a => exists_congr fun ws => and_congr_right fun _ => and_congr_right fun _ => RpL.sub
theorem RpL.sub {m : Bool} {X : KX} {Z : Addr → Prop} {R : Nat → Option V} {Q : Nat → PV → V → List Addr → Prop} {H : Hp} : ∀ {vs : List PV} {ws : List V} {F : List Addr}, RpL m X H vs ws F ↔ RpL m (sX X Z R Q) H vs ws F
  | [], ws, F => by unfold RpL; exact Iff.rfl
  | v :: vs, ws, F => by
    unfold RpL
    exact exists_congr fun w => exists_congr fun ws' => exists_congr fun F1 => exists_congr fun F2 => and_congr_right fun _ => and_congr_right fun _ => and_congr Rp.sub RpL.sub
end
/-- the addresses that stay in their slots -/
def rfR (ms : List Bool) (ws : List V) (i : Nat) : Option V := if ms[i]? = some true then ws[i]? else none
/-- what has become of the arguments -/
def OutsOk (X : KX) (H : Hp) (fo : Nat → List Addr) : Nat → List Bool → List PV → List V → Prop
  | i, true :: ms, o :: os, w :: ws => Rp true X H o w (fo i) ∧ OutsOk X H fo (i + 1) ms os ws
  | i, false :: ms, os, _ :: ws => OutsOk X H fo (i + 1) ms os ws
  | _, [], [], [] => True
  | _, _, _, _ => False
/-- the parts of the arguments behind the call -/
structure FoOk (ms : List Bool) (fo : Nat → List Addr) : Prop where
  nd : ∀ i, (fo i).Nodup
  dis : ∀ i j b, b ∈ fo i → b ∈ fo j → i = j
  emp : ∀ i, ms[i]? ≠ some true → fo i = []
def spI (X : KX) (er : Str → List PV → Value → Option Addr → Hp → Prop) (d : Def) (cf : List PV → CR) : Sp := fun ws H Q E => ∃ (Z : Addr → Prop) (vs : List PV) (fp : Nat → List Addr),
  ws.length = d.np ∧ vs.length = d.np ∧ d.muts.length = d.np ∧ Sim (subX X Z (rfR d.muts ws)) (initE d.muts vs) (ws.map some) H fp ∧
  match cf vs with
  | .ok v os => ∀ w F H' fo, OutsOk X H' fo 0 d.muts os ws → FoOk d.muts fo → Stp fp H fo H' → VO (subX X Z (rfR d.muts ws)) fp H fo H' v w F → Q w H'
  | .exc c fs os => ∀ cls dd H' fo, OutsOk X H' fo 0 d.muts os ws → FoOk d.muts fo → Stp fp H fo H' → er c fs cls dd H' → E cls dd H'
  | .bad => False
theorem initE_len : ∀ {ms : List Bool} {vs : List PV}, ms.length = vs.length → (initE ms vs).length = vs.length
  | [], [], _ => rfl
  | [], _ :: _, h => by cases h
  | _ :: _, [], h => by cases h
  | true :: ms, v :: vs, h => by simp [initE, initE_len (ms := ms) (vs := vs) (by simpa using h)]
  | false :: ms, v :: vs, h => by simp [initE, initE_len (ms := ms) (vs := vs) (by simpa using h)]
/-- the slots at the start -/
theorem Sim.start0 {X : KX} {env : PEnv} {ws : List V} {H : Hp} {fp : Nat → List Addr} {N : List Str} {n : Nat} (S : Sim X env (ws.map some) H fp) (hn : n = N.length - ws.length) : Sim X (env ++ List.replicate n .un) (L2.start N ws) H fp := by
  have hl : env.length = ws.length := by have := S.len; simpa using this.symm
  have getE : ∀ i, i < env.length → (env ++ List.replicate n Slot.un)[i]? = env[i]? := fun i h => List.getElem?_append_left h
  have getU : ∀ i, ¬ i < env.length → ∀ s, (env ++ List.replicate n Slot.un)[i]? = some s → s = .un := fun i h s e => by
    rw [List.getElem?_append_right (by omega)] at e
    exact List.eq_of_mem_replicate (List.mem_of_getElem? e)
  have getW : ∀ i, i < ws.length → (L2.start N ws)[i]? = (ws.map some)[i]? := fun i h => by
    unfold L2.start
    exact List.getElem?_append_left (by simpa using h)
  have gm : ∀ i, getM (env ++ List.replicate n Slot.un) i = getM env i := fun i => by
    unfold getM
    by_cases h : i < env.length
    · rw [getE i h]
    · rw [List.getElem?_eq_none (l := env) (by omega)]
      cases e : (env ++ List.replicate n Slot.un)[i]? with
      | none => rfl
      | some s => rw [getU i h s e]
  have lt : ∀ i v, getM env i = some v → i < ws.length := fun i v h => by
    unfold getM at h
    rcases Nat.lt_or_ge i env.length with z | z
    · omega
    · rw [List.getElem?_eq_none z] at h; cases h
  refine ⟨by unfold L2.start; simp; omega, fun i v h => ?_, fun i h => S.emp i (by rw [← gm]; exact h), fun i k v h => ?_, S.qz, S.dis, S.nd, S.zd, S.zt, fun i w h => ?_⟩
  · rw [gm] at h
    rw [getW i (lt i v h)]
    exact S.own i v h
  · by_cases hi : i < env.length
    · rw [getE i hi] at h
      rw [getW i (by omega)]
      exact S.ro i k v h
    · cases getU i hi _ h
  · obtain ⟨e1, s, e2, e3⟩ := S.fx i w h
    have hi : i < env.length := by
      rcases Nat.lt_or_ge i env.length with z | z
      · exact z
      · rw [List.getElem?_eq_none z] at e2; cases e2
    exact ⟨by rw [getW i (by omega)]; exact e1, s, by rw [getE i hi]; exact e2, e3⟩
/-- the parts of arguments alone -/
def foOf (ms : List Bool) (fp : Nat → List Addr) (i : Nat) : List Addr := if ms[i]? = some true then fp i else []
theorem foOf_sub {ms : List Bool} {fp : Nat → List Addr} {i : Nat} {b : Addr} (h : b ∈ foOf ms fp i) : b ∈ fp i := by
  unfold foOf at h
  split at h
  · exact h
  · cases h
section
variable {X : KX} {Z : Addr → Prop} {env : PEnv} {σ : St} {H H' : Hp} {fp fp' : Nat → List Addr}
theorem foOf_ok {ms : List Bool} {R : Nat → Option V} (S : Sim (subX X Z R) env σ H' fp') : FoOk ms (foOf ms fp') := by
  refine ⟨fun i => ?_, fun i j b h1 h2 => S.dis i j b (foOf_sub h1) (foOf_sub h2), fun i h => ?_⟩
  · unfold foOf
    split
    · exact S.nd i
    · exact List.nodup_nil
  · unfold foOf
    rw [if_neg h]
theorem stp_sub {ms : List Bool} (t : Stp fp H fp' H') : Stp fp H (foOf ms fp') H' := ⟨t.frm, fun i b h => t.new i b (foOf_sub h)⟩
theorem vo_sub {Y : KX} {ms : List Bool} {v : PV} {w : V} {F : List Addr} (h : VO Y fp H fp' H' v w F) : VO Y fp H (foOf ms fp') H' v w F := ⟨h.rp, h.nd, fun b hb i hi => h.dis b hb i (foOf_sub hi), h.new, h.z⟩
/-- what the slots at the end say of the arguments -/
theorem outs_ok {ms0 : List Bool} {ws0 : List V} (S : Sim (subX X Z (rfR ms0 ws0)) env σ H' fp') : ∀ (i : Nat) (ms : List Bool) (e : PEnv) (ws : List V) (os : List PV),
    (∀ j, ms0[i + j]? = ms[j]?) → (∀ j, j < ms.length → ws0[i + j]? = ws[j]?) → (∀ j, j < ms.length → env[i + j]? = e[j]?) → ws.length = ms.length → outs ms e = some os → OutsOk X H' (foOf ms0 fp') i ms os ws
  | i, [], e, ws, os, h1, h2, h3, hl, h => by
    unfold outs at h
    cases h
    have : ws = [] := List.eq_nil_of_length_eq_zero hl
    subst this
    unfold OutsOk
    trivial
  | i, m :: ms, e, ws, os, h1, h2, h3, hl, h => by
    cases ws with
    | nil => cases hl
    | cons w ws =>
      have n1 : ∀ j, ms0[(i + 1) + j]? = ms[j]? := fun j => by have := h1 (j + 1); rw [show (i + 1) + j = i + (j + 1) by omega]; simpa using this
      have n2 : ∀ j, j < ms.length → ws0[(i + 1) + j]? = ws[j]? := fun j hj => by have := h2 (j + 1) (by simpa using hj); rw [show (i + 1) + j = i + (j + 1) by omega]; simpa using this
      cases e with
      | nil => cases m <;> simp [outs] at h
      | cons s e =>
        have n3 : ∀ j, j < ms.length → env[(i + 1) + j]? = e[j]? := fun j hj => by have := h3 (j + 1) (by simpa using hj); rw [show (i + 1) + j = i + (j + 1) by omega]; simpa using this
        cases m with
        | false =>
          have h' : outs ms e = some os := by cases s <;> exact h
          unfold OutsOk
          exact outs_ok S (i + 1) ms e ws os n1 n2 n3 (by simpa using hl) h'
        | true =>
          cases s with
          | rf v =>
            have h' : (outs ms e).map (v :: ·) = some os := h
            cases eo : outs ms e with
            | none => rw [eo] at h'; cases h'
            | some os' =>
              rw [eo] at h'
              cases h'
              unfold OutsOk
              have e0 : env[i]? = some (.rf v) := by have := h3 0 (by simp); simpa using this
              have m0 : ms0[i]? = some true := by have := h1 0; simpa using this
              have w0 : ws0[i]? = some w := by have := h2 0 (by simp); simpa using this
              have hm : getM env i = some v := by unfold getM; rw [e0]
              obtain ⟨w', e1, r⟩ := S.own i v hm
              have hR : rfR ms0 ws0 i = some w := by unfold rfR; rw [if_pos m0, w0]
              obtain ⟨e2, _⟩ := S.fx i w hR
              rw [e1] at e2
              have ew : w' = w := Option.some.inj (Option.some.inj e2)
              subst ew
              refine ⟨?_, outs_ok S (i + 1) ms e ws os' n1 n2 n3 (by simpa using hl) eo⟩
              unfold foOf
              rw [if_pos m0]
              exact Rp.sub.mpr r
          | un => simp [outs] at h
          | ow v => simp [outs] at h
          | ro k v => simp [outs] at h
end
/-- a def's body, walked at any level: the promise one level up -/
theorem fn_I {P : Program} {w : World} {K : PySem.W.Frag} {mg : Str → Option Value} {base : Heap} {CX : CXT} {k : Nat} {f : Addr} {fd : FuncData} {N ps : List Str} {x qual : Str} {params : Arguments} {body : List Stmt} {scope : Scope}
    {X : KX} {er : Str → List PV → Value → Option Addr → Hp → Prop} {p : Prog} {fu : Nat} {cf : Str → List PV → CR} {d : Def} (F : FunD K x qual params body scope [] [] f fd) (S : FnScope N ps scope) (hnl : d.nl = N.length) (hps : ps.length = d.np)
    (walk : ∀ (cdv : Value) (A : Around) (outer : List Env) (s : Shared) (H : Hp) (E : XK) (Z : Addr → Prop) (R : Nat → Option V), Room k (A.deeper (envOfC qual scope s.heap.objs.size f cdv)) →
      PSs (cxOf CX P w K mg base N qual scope f cdv A outer s H E) body (RdSs ⟨subX X Z R, p, cf, fu, fun cls d _ H => E cls d H, er⟩ d.body)) :
    FnOk P w K mg base CX (k + 1) f fd ps (spI X er d fun vs => if vs.length = d.np ∧ d.muts.length = d.np ∧ d.np ≤ d.nl then callEnd d (exSs p cf fu d.body (startE d vs)) else .bad) := by
  refine F.ok S (fun ws H Q E h => ?_) (fun cdv A outer s H ws Q E hr h => ?_)
  · obtain ⟨Z, vs, fp, h1, _⟩ := h
    rw [h1, hps]
  · obtain ⟨Z, vs, fp, h1, h2, h3, S0, h⟩ := h
    dsimp only at h
    refine ⟨_, walk cdv A outer s H E Z (rfR d.muts ws) hr, startE d vs, fp, Sim.start0 S0 (by rw [hnl, h1]), ?_⟩
    by_cases hc : vs.length = d.np ∧ d.muts.length = d.np ∧ d.np ≤ d.nl
    rotate_left
    · rw [if_neg hc] at h; exact h.elim
    rw [if_pos hc] at h
    have el : (initE d.muts vs).length = vs.length := initE_len (by omega)
    have fin : ∀ (env' : PEnv) (σ' : St) (H' : Hp) (fp' : Nat → List Addr) (os : List PV), Sim (subX X Z (rfR d.muts ws)) env' σ' H' fp' → outs d.muts env' = some os → OutsOk X H' (foOf d.muts fp') 0 d.muts os ws := fun env' σ' H' fp' os S' ho =>
      outs_ok S' 0 d.muts env' ws os (fun j => by rw [Nat.zero_add]) (fun j _ => by rw [Nat.zero_add]) (fun j _ => by rw [Nat.zero_add]) (by omega) ho
    cases er' : exSs p cf fu d.body (startE d vs) with
    | nx env =>
      rw [er'] at h
      intro σ' H' fp' S' t'
      cases ho : outs d.muts env with
      | none => simp only [callEnd, ho] at h
      | some os =>
        simp only [callEnd, ho] at h
        exact h .non [] H' _ (fin env σ' H' fp' os S' ho) (foOf_ok S') (stp_sub t') ⟨rp_non, List.nodup_nil, fun _ hb => (by cases hb), fun _ hb => (by cases hb), fun _ hb => (by cases hb)⟩
    | ret v env =>
      rw [er'] at h
      intro w' F' σ' H' fp' S' t' vo
      cases ho : outs d.muts env with
      | none => simp only [callEnd, ho] at h
      | some os =>
        simp only [callEnd, ho] at h
        exact h w' F' H' _ (fin env σ' H' fp' os S' ho) (foOf_ok S') (stp_sub t') (vo_sub vo)
    | exc c fs env =>
      rw [er'] at h
      intro σ' cls dd H' fp' S' t' e
      cases ho : outs d.muts env with
      | none => simp only [callEnd, ho] at h
      | some os =>
        simp only [callEnd, ho] at h
        exact h cls dd H' _ (fin env σ' H' fp' os S' ho) (foOf_ok S') (stp_sub t') e
    | brk env => rw [er'] at h; exact h.elim
    | cnt env => rw [er'] at h; exact h.elim
    | bad => rw [er'] at h; exact h.elim
end DI
set_option Elab.async false
set_option linter.all false
set_option maxRecDepth 100000
set_option maxHeartbeats 1000000
/-! DIS16: calls of the program's own defs. -/
namespace DI
open PySem PySem.Spec PyProof.Rows L2

/-- what of a lent argument lies in the slots -/
def Good (fp : Nat → List Addr) (v : PV) (fr : Bool) (root : Option Nat) (G : List Addr) : Prop := (v.imm = true → G = []) ∧ (fr = true → ∀ b ∈ G, ∀ i, b ∉ fp i) ∧ ∀ b ∈ G, ∀ i, b ∈ fp i → root = some i
def AvsOk (X : KX) (σ : St) (fp : Nat → List Addr) (H : Hp) : List Bool → List AV → List V → Prop
  | true :: ms, .by i :: as, w :: ws => σ[i]? = some (some w) ∧ AvsOk X σ fp H ms as ws
  | m :: ms, .v v fr root :: as, w :: ws => ((m = true → v.imm = true) ∧ ∃ G, Rp false X H v w G ∧ Good fp v fr root G) ∧ AvsOk X σ fp H ms as ws
  | [], [], [] => True
  | _, _, _ => False
structure PostC (X : KX) (σ : St) (fp : Nat → List Addr) (H : Hp) (ms : List Bool) (es : List E) (as : List AV) (env' : PEnv) (ws : List V) (H' : Hp) (fp' : Nat → List Addr) : Prop where
  sim : Sim X env' σ H' fp'
  stp : Stp fp H fp' H'
  same : quietL es = true → Same H H'
  mono : quietL es = true → ∀ i b, b ∈ fp' i → b ∈ fp i
  avs : AvsOk X σ fp' H' ms as ws
def RdC (Y : Cz) (ms : List Bool) (es : List E) : TA := fun σ H Q => ∃ env fp, Sim Y.X env σ H fp ∧
  Hold Y σ fp H (evC Y.p Y.cf ms es env) fun as env' => ∀ ws H' fp', PostC Y.X σ fp H ms es as env' ws H' fp' → Q ws H'
theorem isBy_eq {m : Bool} {e : E} {env : PEnv} {i : Nat} (h : isBy m e env = some i) : m = true ∧ e = .var i ∧ ∃ v, getM env i = some v := by
  unfold isBy at h
  cases m with
  | false => cases h
  | true =>
    rw [if_pos rfl] at h
    cases e <;> try (cases h; done)
    rename_i j
    dsimp only at h
    cases em : getM env j with
    | none => rw [em] at h; cases h
    | some v =>
      rw [em] at h
      dsimp only at h
      split at h <;> cases h
      exact ⟨rfl, rfl, v, em⟩
theorem getS_of {env : PEnv} {i : Nat} {v : PV} (h : getM env i = some v) : getS env i = some v := by
  unfold getM at h
  unfold getS
  cases e : env[i]? with
  | none => rw [e] at h; cases h
  | some s => rw [e] at h; cases s <;> first | (cases h; done) | (cases h; rfl)
section
variable {Y : Cz} {σ : St} {env env' env1 env2 : PEnv} {fp fp1 fp2 : Nat → List Addr} {H H1 H2 : Hp}
theorem rdC_nil {ms : List Bool} {Q : List V → Hp → Prop} (h : RdC Y ms [] σ H Q) : ms = [] ∧ Q [] H := by
  obtain ⟨env, fp, S, h⟩ := h
  cases ms with
  | nil =>
    unfold evC at h
    exact ⟨rfl, h [] H fp ⟨S, Stp.refl, fun _ => same_refl, fun _ _ _ h => h, by unfold AvsOk; trivial⟩⟩
  | cons m ms => unfold evC at h; exact h.elim
theorem rdC_cons (ok : Y.X.Ok) {ms : List Bool} {e : E} {es : List E} {Q : List V → Hp → Prop} (h : RdC Y ms (e :: es) σ H Q) : ∃ m ms', ms = m :: ms' ∧ RdB Y e σ H fun x H1 => RdC Y ms' es σ H1 fun xs H2 => Q (x :: xs) H2 := by
  obtain ⟨env, fp, S, h⟩ := h
  cases ms with
  | nil => unfold evC at h; exact h.elim
  | cons m ms =>
    refine ⟨m, ms, rfl, ?_⟩
    unfold evC at h
    cases hb : isBy m e env with
    | some i =>
      rw [hb] at h
      dsimp only at h
      obtain ⟨rfl, rfl, v, hv⟩ := isBy_eq hb
      refine ⟨env, fp, S, ?_⟩
      have ev : evB Y.p Y.cf (.var i) env = .ok (v, v.imm) env := by unfold evB; rw [getS_of hv]
      rw [ev]
      intro w1 H1 fp1 P1
      refine ⟨env, fp1, P1.sim, (h.bind' P1.stp).imp fun as env3 h3 ws H3 fp3 P3 => ?_⟩
      have h3' : ∀ ws H' fp', PostC Y.X σ fp H (true :: ms) (.var i :: es) (.by i :: as) env3 ws H' fp' → Q ws H' := h3
      refine h3' _ _ _ ⟨P3.sim, P1.stp.trans P3.stp, fun q => same_trans (P1.same (and_l q)) (P3.same (and_r q)), fun q i b hb => P1.mono (and_l q) i b (P3.mono (and_r q) i b hb), ?_⟩
      unfold AvsOk
      exact ⟨P1.at_ i rfl, P3.avs⟩
    | none =>
      rw [hb] at h
      dsimp only at h
      refine ⟨env, fp, S, h.bind.imp fun r env1 hr w1 H1 fp1 P1 => ?_⟩
      obtain ⟨hc, hr⟩ := hr.ite
      refine ⟨env1, fp1, P1.sim, (hr.bind' P1.stp).imp fun as env3 h3 ws H3 fp3 P3 => ?_⟩
      have h3' : ∀ ws H' fp', PostC Y.X σ fp H (m :: ms) (e :: es) (.v r.1 r.2 e.root :: as) env3 ws H' fp' → Q ws H' := h3
      refine h3' _ _ _ ⟨P3.sim, P1.stp.trans P3.stp, fun q => same_trans (P1.same (and_l q)) (P3.same (and_r q)), fun q i b hb => P1.mono (and_l q) i b (P3.mono (and_r q) i b hb), ?_⟩
      have hm : m = true → r.1.imm = true := fun e => by
        have := and_r hc
        rw [e] at this
        simpa using this
      have gd : ∃ G, Rp false Y.X H3 r.1 w1 G ∧ Good fp3 r.1 r.2 e.root G := by
        have fx := P3.stp.fix P1.sim
        have hc := and_l hc
        by_cases hi : r.1.imm = true
        · obtain ⟨G, vb⟩ := P1.vb
          exact ⟨[], ((vb.rp.imm (m' := false) hi).2).fix ok fx (fun _ hb => by cases hb), fun _ => rfl, fun _ _ hb => (by cases hb), fun _ hb => (by cases hb)⟩
        · by_cases hf : r.2 = true
          · obtain ⟨F, vo⟩ := P1.vo hf
            have dj : ∀ b ∈ F, ∀ i, b ∉ fp3 i := fun b hb i hi => by
              rcases P3.stp.new i b hi with ⟨j, hj⟩ | h0
              · exact vo.dis b hb j hj
              · obtain ⟨o, ho⟩ := vo.rp.trk b hb
                rw [h0] at ho; cases ho
            exact ⟨F, vo.rp.weak.fix ok fx fun b hb o ho => P3.stp.frm b o ho fun i hi => vo.dis b hb i hi, fun hi => (vo.rp.imm (m' := true) hi).1, fun _ => dj, fun b hb i hi => absurd hi (dj b hb i)⟩
          · have hq : quietL es = true := by
              simp only [hi, hf, Bool.false_or, Bool.or_eq_true] at hc
              simpa using hc
            obtain ⟨G, vb⟩ := P1.vb
            exact ⟨G, vb.rp.fix ok fx fun b hb o ho => P3.same hq b o ho, fun hi => (vb.rp.imm (m' := true) hi).1, fun hfr => absurd hfr hf, fun b hb i hi => vb.rt b hb i (P3.mono hq i b hi)⟩
      cases m with
      | true => unfold AvsOk; exact ⟨⟨hm, gd⟩, P3.avs⟩
      | false => unfold AvsOk; exact ⟨⟨hm, gd⟩, P3.avs⟩
/-- arguments, at their places -/
theorem AvsOk.at_ {X : KX} : ∀ {ms : List Bool} {as : List AV} {ws : List V}, AvsOk X σ fp H ms as ws → ms.length = as.length ∧ ws.length = as.length ∧ ∀ (i : Nat) (a : AV), as[i]? = some a → ∃ m w, ms[i]? = some m ∧ ws[i]? = some w ∧
    ((∃ j, a = .by j ∧ m = true ∧ σ[j]? = some (some w)) ∨ ∃ v fr root, a = .v v fr root ∧ (m = true → v.imm = true) ∧ ∃ G, Rp false X H v w G ∧ Good fp v fr root G)
  | [], [], [], _ => ⟨rfl, rfl, fun i a h => by simp at h⟩
  | true :: ms, .by j :: as, w :: ws, h => by
    unfold AvsOk at h
    obtain ⟨h1, h2, h3⟩ := AvsOk.at_ h.2
    refine ⟨by simp [h1], by simp [h2], fun i a e => ?_⟩
    cases i with
    | zero => simp at e; subst e; exact ⟨true, w, rfl, rfl, .inl ⟨j, rfl, rfl, h.1⟩⟩
    | succ i => simp only [List.getElem?_cons_succ] at e ⊢; exact h3 i a e
  | m :: ms, .v v fr root :: as, w :: ws, h => by
    have h' : ((m = true → v.imm = true) ∧ ∃ G, Rp false X H v w G ∧ Good fp v fr root G) ∧ AvsOk X σ fp H ms as ws := by cases m <;> (unfold AvsOk at h; exact h)
    obtain ⟨h1, h2, h3⟩ := AvsOk.at_ h'.2
    refine ⟨by simp [h1], by simp [h2], fun i a e => ?_⟩
    cases i with
    | zero => simp at e; subst e; exact ⟨m, w, rfl, rfl, .inr ⟨v, fr, root, rfl, h'.1⟩⟩
    | succ i => simp only [List.getElem?_cons_succ] at e ⊢; exact h3 i a e
  | false :: ms, .by j :: as, w :: ws, h => by simp [AvsOk] at h
  | [], _ :: _, _, h => by simp [AvsOk] at h
  | [], [], _ :: _, h => by simp [AvsOk] at h
  | _ :: _, [], _, h => by simp [AvsOk] at h
  | _ :: _, _ :: _, [], h => by simp [AvsOk] at h
theorem valsA_at : ∀ {as : List AV} {vs : List PV}, valsA env as = some vs → vs.length = as.length ∧ ∀ (i : Nat) (a : AV), as[i]? = some a → ∃ v, vs[i]? = some v ∧ a.val env = some v
  | [], vs, h => by
    unfold valsA at h
    cases h
    exact ⟨rfl, fun i a e => by simp at e⟩
  | a :: as, vs, h => by
    unfold valsA at h
    cases ea : a.val env with
    | none => rw [ea] at h; cases h
    | some v =>
      cases er : valsA env as with
      | none => rw [ea, er] at h; cases h
      | some us =>
        rw [ea, er] at h
        cases h
        obtain ⟨h1, h2⟩ := valsA_at er
        refine ⟨by simp [h1], fun i b e => ?_⟩
        cases i with
        | zero => simp at e; subst e; exact ⟨v, rfl, ea⟩
        | succ i => simp only [List.getElem?_cons_succ] at e ⊢; exact h2 i b e
theorem initE_at : ∀ {ms : List Bool} {vs : List PV} {i : Nat} {m : Bool} {v : PV}, ms[i]? = some m → vs[i]? = some v → (initE ms vs)[i]? = some (if m then .rf v else .ro false v)
  | [], _, i, m, v, h, _ => by simp at h
  | _ :: _, [], i, m, v, _, h => by simp at h
  | true :: ms, u :: vs, 0, m, v, h1, h2 => by simp at h1 h2; subst h1; subst h2; rfl
  | false :: ms, u :: vs, 0, m, v, h1, h2 => by simp at h1 h2; subst h1; subst h2; rfl
  | true :: ms, u :: vs, i + 1, m, v, h1, h2 => by
    simp only [initE, List.getElem?_cons_succ] at h1 h2 ⊢
    exact initE_at h1 h2
  | false :: ms, u :: vs, i + 1, m, v, h1, h2 => by
    simp only [initE, List.getElem?_cons_succ] at h1 h2 ⊢
    exact initE_at h1 h2
theorem bysA_mem : ∀ {as : List AV} {j : Nat}, j ∈ bysA as ↔ ∃ i : Nat, as[i]? = some (.by j)
  | [], j => by simp [bysA]
  | .by k :: as, j => by
    simp only [bysA, List.mem_cons, bysA_mem (as := as)]
    constructor
    · rintro (e | ⟨i, h⟩)
      · exact ⟨0, by rw [e]; rfl⟩
      · exact ⟨i + 1, h⟩
    · rintro ⟨i, h⟩
      cases i with
      | zero => simp at h; exact .inl h.symm
      | succ i => exact .inr ⟨i, h⟩
  | .v v fr root :: as, j => by
    simp only [bysA, bysA_mem (as := as)]
    constructor
    · rintro ⟨i, h⟩
      exact ⟨i + 1, h⟩
    · rintro ⟨i, h⟩
      cases i with
      | zero => simp at h
      | succ i => exact ⟨i, h⟩
theorem bysA_inj : ∀ {as : List AV} {i i' j : Nat}, (bysA as).Nodup → as[i]? = some (.by j) → as[i']? = some (.by j) → i = i'
  | [], i, i', j, _, h, _ => by simp at h
  | .by k :: as, i, i', j, nd, h, h' => by
    simp only [bysA, List.nodup_cons] at nd
    cases i with
    | zero =>
      cases i' with
      | zero => rfl
      | succ i' =>
        simp at h
        subst h
        exact absurd (bysA_mem.mpr ⟨i', h'⟩) nd.1
    | succ i =>
      cases i' with
      | zero =>
        simp at h'
        subst h'
        exact absurd (bysA_mem.mpr ⟨i, h⟩) nd.1
      | succ i' => rw [bysA_inj nd.2 (i := i) (i' := i') h h']
  | .v v fr root :: as, i, i', j, nd, h, h' => by
    cases i with
    | zero => simp at h
    | succ i =>
      cases i' with
      | zero => simp at h'
      | succ i' => rw [bysA_inj (as := as) nd (i := i) (i' := i') h h']
theorem apart_at : ∀ {as : List AV} {bys : List Nat} {i : Nat} {v : PV} {fr : Bool} {root : Option Nat}, apart bys as = true → as[i]? = some (.v v fr root) → v.imm = true ∨ fr = true ∨ ∀ j, root = some j → j ∉ bys
  | [], bys, i, v, fr, root, _, h => by simp at h
  | .by k :: as, bys, i, v, fr, root, ha, h => by
    cases i with
    | zero => simp at h
    | succ i => exact apart_at (as := as) (i := i) ha h
  | .v u fr' root' :: as, bys, i, v, fr, root, ha, h => by
    cases i with
    | zero =>
      simp at h
      obtain ⟨rfl, rfl, rfl⟩ := h
      have := and_l ha
      cases hi : u.imm with
      | true => exact .inl rfl
      | false =>
        cases hf : fr' with
        | true => exact .inr (.inl rfl)
        | false =>
          refine .inr (.inr fun j hj => ?_)
          subst hj
          rw [hi, hf] at this
          simpa using this
    | succ i => exact apart_at (as := as) (i := i) (and_r ha) h
/-- where a slot stands among the arguments -/
def posA : List AV → Nat → Option Nat
  | [], _ => none
  | .by k :: as, j => if k = j then some 0 else (posA as j).map (· + 1)
  | .v _ _ _ :: as, j => (posA as j).map (· + 1)
theorem posA_some : ∀ {as : List AV} {j i : Nat}, posA as j = some i → as[i]? = some (.by j)
  | [], j, i, h => by cases h
  | .by k :: as, j, i, h => by
    unfold posA at h
    by_cases e : k = j
    · rw [if_pos e] at h
      cases h
      rw [e]; rfl
    · rw [if_neg e] at h
      cases ep : posA as j with
      | none => rw [ep] at h; cases h
      | some q => rw [ep] at h; cases h; exact (List.getElem?_cons_succ (l := as)).trans (posA_some (as := as) ep)
  | .v _ _ _ :: as, j, i, h => by
    unfold posA at h
    cases ep : posA as j with
    | none => rw [ep] at h; cases h
    | some q => rw [ep] at h; cases h; exact (List.getElem?_cons_succ (l := as)).trans (posA_some (as := as) ep)
theorem posA_none : ∀ {as : List AV} {j : Nat}, posA as j = none → j ∉ bysA as
  | [], j, _ => by simp [bysA]
  | .by k :: as, j, h => by
    unfold posA at h
    by_cases e : k = j
    · rw [if_pos e] at h; cases h
    · rw [if_neg e] at h
      cases ep : posA as j with
      | none =>
        intro hm
        rcases List.mem_cons.mp hm with z | z
        · exact e z.symm
        · exact posA_none ep z
      | some q => rw [ep] at h; cases h
  | .v _ _ _ :: as, j, h => by
    unfold posA at h
    cases ep : posA as j with
    | none => exact fun hm => posA_none (as := as) ep hm
    | some q => rw [ep] at h; cases h
/-- the callee's parts -/
def fpC (as : List AV) (fp : Nat → List Addr) (i : Nat) : List Addr := match as[i]? with
  | some (.by j) => fp j
  | _ => []
theorem fpC_mem {as : List AV} {fp : Nat → List Addr} {i : Nat} {b : Addr} (h : b ∈ fpC as fp i) : ∃ j, as[i]? = some (.by j) ∧ b ∈ fp j := by
  unfold fpC at h
  split at h
  · rename_i j e; exact ⟨j, e, h⟩
  · cases h
/-- what is lent to the callee -/
def lentZ (X : KX) (H : Hp) (fp : Nat → List Addr) (as : List AV) (ws : List V) (b : Addr) : Prop := ∃ (i : Nat) (v : PV) (fr : Bool) (root : Option Nat) (w : V) (G : List Addr), as[i]? = some (.v v fr root) ∧ ws[i]? = some w ∧ Rp false X H v w G ∧ Good fp v fr root G ∧ b ∈ G
theorem call_in {X : KX} {ms : List Bool} {as : List AV} {ws : List V} {vs : List PV} (S : Sim X env σ H fp) (a : AvsOk X σ fp H ms as ws) (hv : valsA env as = some vs) (nd : (bysA as).Nodup) (ap : apart (bysA as) as = true) :
    Sim (subX X (lentZ X H fp as ws) (rfR ms ws)) (initE ms vs) (ws.map some) H (fpC as fp) := by
  obtain ⟨l1, l2, at1⟩ := a.at_
  obtain ⟨l3, at2⟩ := valsA_at hv
  have elen : (initE ms vs).length = vs.length := initE_len (by omega)
  -- all that is at a place
  have all : ∀ i, i < as.length → ∃ a m w v, as[i]? = some a ∧ ms[i]? = some m ∧ ws[i]? = some w ∧ vs[i]? = some v ∧ a.val env = some v ∧ (initE ms vs)[i]? = some (if m then .rf v else .ro false v) ∧
      ((∃ j, a = .by j ∧ m = true ∧ σ[j]? = some (some w)) ∨ ∃ v fr root, a = .v v fr root ∧ (m = true → v.imm = true) ∧ ∃ G, Rp false X H v w G ∧ Good fp v fr root G) := fun i hi => by
    have ea := List.getElem?_eq_getElem hi
    obtain ⟨m, w, e1, e2, h⟩ := at1 i _ ea
    obtain ⟨v, e3, e4⟩ := at2 i _ ea
    exact ⟨_, m, w, v, ea, e1, e2, e3, e4, initE_at e1 e3, h⟩
  have lt : ∀ i s, (initE ms vs)[i]? = some s → i < as.length := fun i s h => by
    rcases Nat.lt_or_ge i as.length with z | z
    · exact z
    · rw [List.getElem?_eq_none (by omega)] at h; cases h
  refine ⟨by simp; omega, fun i v h => ?_, fun i h => ?_, fun i k v h => ?_, fun _ _ _ _ h => h, fun i i' b h1 h2 => ?_, fun i => ?_, fun i b hb hz => ?_, fun b hz => ?_, fun i w h => ?_⟩
  · unfold getM at h
    cases e : (initE ms vs)[i]? with
    | none => rw [e] at h; cases h
    | some s =>
      obtain ⟨a, m, w, v', e1, e2, e3, e4, e5, e6, h7⟩ := all i (lt i s e)
      rw [e6] at h
      cases m with
      | false => cases h
      | true =>
        cases h
        refine ⟨w, by rw [List.getElem?_map, e3]; rfl, ?_⟩
        rcases h7 with ⟨j, rfl, _, hj⟩ | ⟨u, fr, root, rfl, hi, G, r, g⟩
        · obtain ⟨w', e7, r⟩ := S.own j v e5
          rw [hj] at e7
          have ew : w = w' := Option.some.inj (Option.some.inj e7)
          subst ew
          unfold fpC
          rw [e1]
          exact Rp.sub.mp r
        · have eu : u = v := Option.some.inj e5
          subst eu
          unfold fpC
          rw [e1]
          exact Rp.sub.mp (r.imm (m' := true) (hi rfl)).2
  · unfold fpC
    cases ea : as[i]? with
    | none => rfl
    | some a =>
      have hi : i < as.length := by
        rcases Nat.lt_or_ge i as.length with z | z
        · exact z
        · rw [List.getElem?_eq_none z] at ea; cases ea
      obtain ⟨a', m, w, v', e1, e2, e3, e4, e5, e6, h7⟩ := all i hi
      rw [ea] at e1
      cases e1
      unfold getM at h
      rw [e6] at h
      rcases h7 with ⟨j, rfl, rfl, hj⟩ | ⟨u, fr, root, rfl, _⟩
      · cases h
      · rfl
  · obtain ⟨a, m, w, v', e1, e2, e3, e4, e5, e6, h7⟩ := all i (lt i _ h)
    rw [e6] at h
    cases m with
    | true => cases h
    | false =>
      cases h
      rcases h7 with ⟨j, _, z, _⟩ | ⟨u, fr, root, rfl, _, G, r, g⟩
      · cases z
      · have eu : u = v := Option.some.inj e5
        subst eu
        exact ⟨w, G, by rw [List.getElem?_map, e3]; rfl, Rp.sub.mp r, fun b hb => ⟨i, u, fr, root, w, G, e1, e3, r, g, hb⟩⟩
  · obtain ⟨j, e1, b1⟩ := fpC_mem h1
    obtain ⟨j', e2, b2⟩ := fpC_mem h2
    have ej := S.dis j j' b b1 b2
    subst ej
    exact bysA_inj nd e1 e2
  · unfold fpC
    split
    · exact S.nd _
    · exact List.nodup_nil
  · obtain ⟨j, e1, b1⟩ := fpC_mem hb
    obtain ⟨i', v, fr, root, w, G, e2, e3, r, g, hbG⟩ := hz
    rcases apart_at ap e2 with h | h | h
    · rw [g.1 h] at hbG; cases hbG
    · exact g.2.1 h b hbG j b1
    · exact h j (g.2.2 b hbG j b1) (bysA_mem.mpr ⟨i, e1⟩)
  · obtain ⟨i', v, fr, root, w, G, e2, e3, r, g, hbG⟩ := hz
    exact r.trk b hbG
  · have h' : (if ms[i]? = some true then ws[i]? else none) = some w := h
    by_cases hm : ms[i]? = some true
    · rw [if_pos hm] at h'
      have hi : i < as.length := by
        rcases Nat.lt_or_ge i as.length with z | z
        · exact z
        · rw [List.getElem?_eq_none (by omega)] at hm; cases hm
      obtain ⟨a, m, w', v', e1, e2, e3, e4, e5, e6, h7⟩ := all i hi
      rw [hm] at e2
      cases e2
      exact ⟨by rw [List.getElem?_map, h']; rfl, _, e6, rfl⟩
    · rw [if_neg hm] at h'; cases h'
/-- what outsA does -/
theorem outsA_spec {X : KX} {fo : Nat → List Addr} : ∀ {ms : List Bool} {as : List AV} {os : List PV} {ws : List V} {env env' : PEnv} {n : Nat}, outsA env ms as os = some env' → (bysA as).Nodup → (∀ j ∈ bysA as, ∃ v, getM env j = some v) → OutsOk X H fo n ms os ws →
    env'.length = env.length ∧ (∀ (j : Nat) (k : Bool) (v : PV), env'[j]? = some (.ro k v) → env[j]? = some (.ro k v)) ∧ (∀ (j : Nat) (s : Slot), env[j]? = some s → s.fix = true → ∃ s', env'[j]? = some s' ∧ s'.fix = true) ∧ (∀ j, getM env' j = none → getM env j = none) ∧
    (∀ j v, getM env' j = some v → (j ∉ bysA as ∧ getM env j = some v) ∨ ∃ (i : Nat) (w : V), as[i]? = some (.by j) ∧ ws[i]? = some w ∧ Rp true X H v w (fo (n + i)))
  | [], [], os, ws, env, env', n, h, nd, hb, ho => by
    cases os with
    | nil =>
      unfold outsA at h
      cases h
      exact ⟨rfl, fun _ _ _ h => h, fun _ s h hf => ⟨s, h, hf⟩, fun _ h => h, fun j v h => .inl ⟨by simp [bysA], h⟩⟩
    | cons o os => simp [outsA] at h
  | true :: ms, .by i :: as, os, ws, env, env', n, h, nd, hb, ho => by
    cases os with
    | nil => simp [outsA] at h
    | cons o os =>
      cases ws with
      | nil => simp [OutsOk] at ho
      | cons w ws =>
        unfold OutsOk at ho
        have h : outsA (putS env i o) ms as os = some env' := h
        simp only [bysA, List.nodup_cons] at nd
        obtain ⟨v0, hv0⟩ := hb i List.mem_cons_self
        have hb' : ∀ j ∈ bysA as, ∃ v, getM (putS env i o) j = some v := fun j hj => by
          obtain ⟨v, hv⟩ := hb j (List.mem_cons_of_mem _ hj)
          refine ⟨if j = i then o else v, ?_⟩
          rw [getM_putS hv0]
          by_cases e : j = i
          · rw [if_pos e, if_pos e]
          · rw [if_neg e, if_neg e]; exact hv
        obtain ⟨r1, r2, r3, r4, r5⟩ := outsA_spec h nd.2 hb' ho.2
        refine ⟨r1.trans putS_len, fun j k v e => putS_ro hv0 (r2 j k v e), fun j s e hf => ?_, fun j e => ?_, fun j v e => ?_⟩
        · obtain ⟨s', e', hf'⟩ := putS_fix (v' := o) (i := i) e hf
          exact r3 j s' e' hf'
        · have := r4 j e
          rw [getM_putS hv0] at this
          split at this
          · cases this
          · exact this
        · rcases r5 j v e with ⟨hn, e2⟩ | ⟨i', w', e1, e2, e3⟩
          · rw [getM_putS hv0] at e2
            by_cases ej : j = i
            · rw [if_pos ej] at e2
              cases e2
              exact .inr ⟨0, w, by rw [ej]; rfl, rfl, ho.1⟩
            · rw [if_neg ej] at e2
              refine .inl ⟨fun hm => ?_, e2⟩
              rcases List.mem_cons.mp hm with z | z
              · exact ej z
              · exact hn z
          · exact .inr ⟨i' + 1, w', e1, e2, by rw [show n + (i' + 1) = n + 1 + i' by omega]; exact e3⟩
  | true :: ms, .v u fr root :: as, os, ws, env, env', n, h, nd, hb, ho => by
    cases os with
    | nil => simp [outsA] at h
    | cons o os =>
      cases ws with
      | nil => simp [OutsOk] at ho
      | cons w ws =>
        unfold OutsOk at ho
        have h : outsA env ms as os = some env' := h
        obtain ⟨r1, r2, r3, r4, r5⟩ := outsA_spec h nd hb ho.2
        refine ⟨r1, r2, r3, r4, fun j v e => (r5 j v e).imp (fun h => h) fun ⟨i', w', e1, e2, e3⟩ => ⟨i' + 1, w', e1, e2, by rw [show n + (i' + 1) = n + 1 + i' by omega]; exact e3⟩⟩
  | false :: ms, .v u fr root :: as, os, ws, env, env', n, h, nd, hb, ho => by
    cases ws with
    | nil => cases os <;> simp [OutsOk] at ho
    | cons w ws =>
      have ho' : OutsOk X H fo (n + 1) ms os ws := by cases os <;> (unfold OutsOk at ho; exact ho)
      have h : outsA env ms as os = some env' := by cases os <;> exact h
      obtain ⟨r1, r2, r3, r4, r5⟩ := outsA_spec h nd hb ho'
      refine ⟨r1, r2, r3, r4, fun j v e => (r5 j v e).imp (fun h => h) fun ⟨i', w', e1, e2, e3⟩ => ⟨i' + 1, w', e1, e2, by rw [show n + (i' + 1) = n + 1 + i' by omega]; exact e3⟩⟩
  | false :: ms, .by i :: as, os, ws, env, env', n, h, nd, hb, ho => by cases os <;> simp [outsA] at h
  | [], _ :: _, os, ws, env, env', n, h, nd, hb, ho => by cases os <;> simp [outsA] at h
  | _ :: _, [], os, ws, env, env', n, h, nd, hb, ho => by cases os <;> simp [outsA] at h
/-- the slots' parts behind the call -/
def fpR (as : List AV) (fp fo : Nat → List Addr) (j : Nat) : List Addr := match posA as j with
  | some i => fo i
  | none => fp j
theorem call_out {X : KX} (ok : X.Ok) {ms : List Bool} {as : List AV} {ws : List V} {vs os : List PV} {fo : Nat → List Addr} (S : Sim X env σ H fp) (a : AvsOk X σ fp H ms as ws) (hv : valsA env as = some vs) (nd : (bysA as).Nodup) (t : Stp (fpC as fp) H fo H1) (fk : FoOk ms fo)
    (ho : OutsOk X H1 fo 0 ms os ws) (h : outsA env ms as os = some env') : Sim X env' σ H1 (fpR as fp fo) ∧ Stp fp H (fpR as fp fo) H1 ∧
      ∀ F : List Addr, (∀ b ∈ F, ∀ i, b ∉ fo i) → (∀ b ∈ F, (∃ j, b ∈ fpC as fp j) ∨ H b = none) → (∀ b ∈ F, ∀ i, b ∉ fpR as fp fo i) ∧ (∀ b ∈ F, (∃ j, b ∈ fp j) ∨ H b = none) ∧ ∀ b ∈ F, ¬ X.Z b := by
  obtain ⟨l1, l2, at1⟩ := a.at_
  obtain ⟨l3, at2⟩ := valsA_at hv
  have bysM : ∀ j ∈ bysA as, ∃ v, getM env j = some v := fun j hj => by
    obtain ⟨i, hi⟩ := bysA_mem.mp hj
    obtain ⟨v, _, e⟩ := at2 i _ hi
    exact ⟨v, e⟩
  obtain ⟨r1, r2, r3, r4, r5⟩ := outsA_spec h nd bysM ho
  have inC : ∀ i b, b ∈ fpC as fp i → ∃ j, j ∈ bysA as ∧ b ∈ fp j := fun i b hb => by
    obtain ⟨j, e, hj⟩ := fpC_mem hb
    exact ⟨j, bysA_mem.mpr ⟨i, e⟩, hj⟩
  have keep : ∀ j, j ∉ bysA as → ∀ b ∈ fp j, ∀ o, H b = some o → H1 b = some o := fun j hj b hb o ho => t.frm b o ho fun i hi => by
    obtain ⟨j', hj', hb'⟩ := inC i b hi
    exact hj (by rw [S.dis j j' b hb hb']; exact hj')
  have fx : Fix H H1 := ⟨fun b o h ho => t.frm b o h fun i hi => by
    obtain ⟨j, _, hj⟩ := inC i b hi
    obtain ⟨o', h', e⟩ := S.owned hj
    rw [h] at h'; cases h'; rw [ho] at e; cases e⟩
  have foN : ∀ i b, b ∈ fo i → (∃ j, j ∈ bysA as ∧ b ∈ fp j) ∨ H b = none := fun i b hb => (t.new i b hb).imp (fun ⟨j, hj⟩ => inC j b hj) fun h => h
  have posB : ∀ {j i : Nat}, as[i]? = some (.by j) → posA as j = some i := fun {j i} e => by
    cases ep : posA as j with
    | none => exact absurd (bysA_mem.mpr ⟨i, e⟩) (posA_none ep)
    | some q => rw [bysA_inj nd (posA_some ep) e]
  have mem : ∀ {j b}, b ∈ fpR as fp fo j → (∃ i, posA as j = some i ∧ b ∈ fo i) ∨ (posA as j = none ∧ b ∈ fp j) := fun {j b} hb => by
    unfold fpR at hb
    cases ep : posA as j with
    | none => rw [ep] at hb; exact .inr ⟨rfl, hb⟩
    | some i => rw [ep] at hb; exact .inl ⟨i, rfl, hb⟩
  -- an old part and a new one
  have mix : ∀ {j b i}, posA as j = none → b ∈ fp j → b ∈ fo i → False := fun {j b i} hp hb hi => by
    rcases foN i b hi with ⟨j', hj', hb'⟩ | h0
    · exact posA_none hp (by rw [S.dis j j' b hb hb']; exact hj')
    · obtain ⟨o, ho, _⟩ := S.owned hb
      rw [h0] at ho; cases ho
  refine ⟨⟨S.len.trans r1.symm, fun j v e => ?_, fun j e => ?_, fun j k v e => ?_, S.qz, fun j j' b h1 h2 => ?_, fun j => ?_, fun j b hb hz => ?_, fun b hz => ?_, fun j w e => ?_⟩, ⟨fun b o hb hn => t.frm b o hb fun i hi => ?_, fun j b hb => ?_⟩, fun F dF nF => ⟨fun b hb j hj => ?_, fun b hb => ?_, fun b hb hz => ?_⟩⟩
  · rcases r5 j v e with ⟨hn, e2⟩ | ⟨i, w, e1, e2, e3⟩
    · obtain ⟨w, e3, r⟩ := S.own j v e2
      refine ⟨w, e3, ?_⟩
      have ep : posA as j = none := by
        cases ep : posA as j with
        | none => rfl
        | some q => exact absurd (bysA_mem.mpr ⟨q, posA_some ep⟩) hn
      unfold fpR
      rw [ep]
      exact r.fix ok fx (keep j hn)
    · obtain ⟨m, w', f1, f2, h7⟩ := at1 i _ e1
      rw [e2] at f2
      cases f2
      rcases h7 with ⟨j', ej, _, hj⟩ | ⟨u, fr, root, ej, _⟩
      · cases ej
        refine ⟨w, hj, ?_⟩
        unfold fpR
        rw [posB e1]
        rw [Nat.zero_add] at e3
        exact e3
      · cases ej
  · have e0 := r4 j e
    have ep : posA as j = none := by
      cases ep : posA as j with
      | none => rfl
      | some q =>
        obtain ⟨v, hv⟩ := bysM j (bysA_mem.mpr ⟨q, posA_some ep⟩)
        rw [e0] at hv; cases hv
    unfold fpR
    rw [ep]
    exact S.emp j e0
  · obtain ⟨w, G, e1, r, hz⟩ := S.ro j k v (r2 j k v e)
    exact ⟨w, G, e1, r.fix ok fx fun b hb o ho => t.frm b o ho fun i hi => by
      obtain ⟨j', _, hj'⟩ := inC i b hi
      exact S.zd j' b hj' (S.qz _ _ _ _ hz b hb), hz⟩
  · rcases mem h1 with ⟨i, p1, b1⟩ | ⟨p1, b1⟩ <;> rcases mem h2 with ⟨i', p2, b2⟩ | ⟨p2, b2⟩
    · have ei := fk.dis i i' b b1 b2
      subst ei
      have := (posA_some p1).symm.trans (posA_some p2)
      cases this
      rfl
    · exact (mix p2 b2 b1).elim
    · exact (mix p1 b1 b2).elim
    · exact S.dis j j' b b1 b2
  · unfold fpR
    split
    · exact fk.nd _
    · exact S.nd j
  · rcases mem hb with ⟨i, _, b1⟩ | ⟨_, b1⟩
    · rcases foN i b b1 with ⟨j', _, hb'⟩ | h0
      · exact S.zd j' b hb' hz
      · obtain ⟨o, ho⟩ := S.zt b hz
        rw [h0] at ho; cases ho
    · exact S.zd j b b1 hz
  · obtain ⟨o, ho⟩ := S.zt b hz
    exact ⟨o, t.frm b o ho fun i hi => by
      obtain ⟨j', _, hj'⟩ := inC i b hi
      exact S.zd j' b hj' hz⟩
  · obtain ⟨e1, s, e2, e3⟩ := S.fx j w e
    obtain ⟨s', e4, e5⟩ := r3 j s e2 e3
    exact ⟨e1, s', e4, e5⟩
  · obtain ⟨j', _, hj'⟩ := inC i b hi
    exact hn j' hj'
  · rcases mem hb with ⟨i, _, b1⟩ | ⟨_, b1⟩
    · exact (foN i b b1).imp (fun ⟨j', _, h⟩ => ⟨j', h⟩) fun h => h
    · exact .inl ⟨j, b1⟩
  · rcases mem hj with ⟨i, _, b1⟩ | ⟨p1, b1⟩
    · exact dF b hb i b1
    · rcases nF b hb with ⟨i, hi⟩ | h0
      · obtain ⟨j', hj', hb'⟩ := inC i b hi
        exact posA_none p1 (by rw [S.dis j j' b b1 hb']; exact hj')
      · obtain ⟨o, ho, _⟩ := S.owned b1
        rw [h0] at ho; cases ho
  · exact (nF b hb).imp (fun ⟨i, hi⟩ => by
      obtain ⟨j', _, hb'⟩ := inC i b hi
      exact ⟨j', hb'⟩) fun h => h
  · rcases nF b hb with ⟨i, hi⟩ | h0
    · obtain ⟨j', _, hb'⟩ := inC i b hi
      exact S.zd j' b hb' hz
    · obtain ⟨o, ho⟩ := S.zt b hz
      rw [h0] at ho; cases ho
end
end DI
set_option Elab.async false
set_option linter.all false
set_option maxRecDepth 100000
set_option maxHeartbeats 1000000
/-! DIS17: the rules of calls. -/
namespace DI
open PySem PySem.Spec PyProof.Rows L2

abbrev bX (X : KX) : KX := subX X (fun _ => False) (fun _ => none)
theorem OutsOk.sub {X : KX} {Z : Addr → Prop} {R : Nat → Option V} {H : Hp} {fo : Nat → List Addr} : ∀ {n : Nat} {ms : List Bool} {os : List PV} {ws : List V}, OutsOk X H fo n ms os ws ↔ OutsOk (subX X Z R) H fo n ms os ws
  | n, [], [], [] => by unfold OutsOk; exact Iff.rfl
  | n, true :: ms, o :: os, w :: ws => by unfold OutsOk; exact and_congr Rp.sub OutsOk.sub
  | n, false :: ms, os, w :: ws => by
    have := OutsOk.sub (X := X) (Z := Z) (R := R) (H := H) (fo := fo) (n := n + 1) (ms := ms) (os := os) (ws := ws)
    cases os <;> (unfold OutsOk; exact this)
  | n, [], _ :: _, _ => by simp [OutsOk]
  | n, [], [], _ :: _ => by simp [OutsOk]
  | n, true :: _, [], _ => by simp [OutsOk]
  | n, true :: _, _ :: _, [] => by simp [OutsOk]
  | n, false :: _, [], [] => by simp [OutsOk]
  | n, false :: _, _ :: _, [] => by simp [OutsOk]
/-- the program's defs keep their promises -/
structure DefE (X : Cx) (CX : CXT) (k : Nat) (KB : KX) (er : Str → List PV → Value → Option Addr → Hp → Prop) (cf : Str → List PV → CR) (src : Str → Stmt) (f : Str) (d : Def) : Prop where
  ex : ∃ a fd ps, X.mg f = some (.ref a) ∧ FunD X.K f f (defArgs (src f)) (defBody (src f)) (defScope (src f)) [] [] a fd ∧ Binds X.K fd ps [] ∧ FnOk X.prog X.w X.K X.mg X.base CX k a fd ps (spI KB er d (cf f)) ∧ ps = ((defArgs (src f)).args.map (·.arg))
def DefOk (X : Cx) (CX : CXT) (k : Nat) (KB : KX) (er : Str → List PV → Value → Option Addr → Hp → Prop) (p : Prog) (cf : Str → List PV → CR) (src : Str → Stmt) : Prop := ∀ f d, p.defs.lookup f = some d → DefE X CX k KB er cf src f d
section
variable {Y : Cz} {σ : St} {env env' env1 env2 : PEnv} {fp fp1 fp2 : Nat → List Addr} {H H1 H2 : Hp}
theorem call_law (ok : Y.X.Ok) {d : Def} {f : Str} {as : List AV} {ws : List V} {e : E} {Q : VK} (he : e.quiet = false) (hv : ∀ i, e ≠ .var i) (S : Sim Y.X env1 σ H1 fp1) (t : Stp fp H fp1 H1) (a : AvsOk Y.X σ fp1 H1 d.muts as ws) (hl : d.muts.length = d.np)
    (h : Hold Y σ fp H (callR d (Y.cf f) as env1) fun r env' => ∀ w H' fp', Post Y.X σ fp H e r env' w H' fp' → Q w H') : spI (bX Y.X) Y.er d (Y.cf f) ws H1 Q (WE Y.W σ) := by
  unfold callR at h
  cases hva : valsA env1 as with
  | none => rw [hva] at h; exact h.elim
  | some vs =>
    rw [hva] at h
    dsimp only at h
    obtain ⟨hc, h⟩ := h.ite
    have S0 := call_in S a hva hc.1 hc.2
    obtain ⟨l1, l2, _⟩ := a.at_
    obtain ⟨l3, _⟩ := valsA_at hva
    refine ⟨lentZ Y.X H1 fp1 as ws, vs, fpC as fp1, by omega, by omega, hl, S0, ?_⟩
    cases ec : Y.cf f vs with
    | bad => rw [ec] at h; exact h.elim
    | ok v os =>
      rw [ec] at h
      dsimp only at h ⊢
      intro w F H' fo ho fk t' vo
      cases eo : outsA env1 d.muts as os with
      | none => rw [eo] at h; exact h.elim
      | some env' =>
        rw [eo] at h
        have h : ∀ w H' fp', Post Y.X σ fp H e (v, true) env' w H' fp' → Q w H' := h
        obtain ⟨S2, t2, k⟩ := call_out ok S a hva hc.1 t' fk (OutsOk.sub.mpr ho) eo
        obtain ⟨k1, k2, k3⟩ := k F vo.dis vo.new
        have vo2 : VO Y.X fp H (fpR as fp1 fo) H' v w F := ⟨Rp.sub.mpr vo.rp, vo.nd, k1, fun b hb => t.fresh (k2 b hb), k3⟩
        exact h w H' _ ⟨S2, t.trans t2, fun q => (by rw [he] at q; cases q), fun q => (by rw [he] at q; cases q), ⟨F, vo2.vb⟩, fun _ => ⟨F, vo2⟩, fun i z => absurd z (hv i)⟩
    | exc c fs os =>
      rw [ec] at h
      dsimp only at h ⊢
      intro cls dd H' fo ho fk t' e'
      cases eo : outsA env1 d.muts as os with
      | none => rw [eo] at h; exact h.elim
      | some env' =>
        rw [eo] at h
        have h : ExcOk Y σ fp H c fs env' := h
        obtain ⟨S2, t2, k⟩ := call_out ok S a hva hc.1 t' fk (OutsOk.sub.mpr ho) eo
        exact h cls dd H' _ S2 (t.trans t2) e'
end
section
variable {Y : Cz} {X : Cx} {as : List Expr} {es : List E} {pos p : Pos} {CX : CXT} {k : Nat} {src : Str → Stmt}
theorem pa_C (O : Ok0 Y X) : ∀ {as : List Expr} {es : List E} {ms : List Bool}, Alls Y X as es → PA X as (RdC Y ms es)
  | _, _, _, .nil => PA.mono pa_nil fun σ H Q h => (rdC_nil h).2
  | _, _, [], .cons h hs t => PA.mono (pa_cons h (pa_C O t (ms := [])) hs) fun σ H Q h => by
    obtain ⟨m, ms', e, _⟩ := rdC_cons O.ok h
    cases e
  | _, _, m :: ms, .cons h hs t => PA.mono (pa_cons h (pa_C O t (ms := ms)) hs) fun σ H Q h => by
    obtain ⟨m', ms', e, h⟩ := rdC_cons O.ok h
    cases e
    exact h
theorem rd_call (O : Ok0 Y X) {f : Str} {d : Def} (hl : d.muts.length = d.np) (hd : Y.p.defs.lookup f = some d) {σ : St} {H : Hp} {Q : VK} (h : RdB Y (.call f es) σ H Q) : RdC Y d.muts es σ H fun ws H1 => spI (bX Y.X) Y.er d (Y.cf f) ws H1 Q (WE Y.W σ) := by
  obtain ⟨env, fp, S, h⟩ := h
  unfold evB at h
  rw [hd] at h
  refine ⟨env, fp, S, h.bind.imp fun as env1 h1 ws H1 fp1 P1 => ?_⟩
  exact call_law (e := .call f es) O.ok rfl (fun _ z => nomatch z) P1.sim P1.stp P1.avs hl h1
theorem pe_call' (O : Ok0 Y X) {f : Str} {d : Def} {a : Expr} (D : DefOk X CX k (bX Y.X) Y.er Y.p Y.cf src) (hr : Room k X.A) (hx : ∀ σ, PassesAt CX X σ (WE Y.W σ)) (hd : Y.p.defs.lookup f = some d) (hl : d.muts.length = d.np) (hg : Gl X f) (h : Alls Y X (a :: as) es) (hdb : (f == ("__debug__" : Str)) = false) :
    PE X (.Call (.Name f p) (a :: as) [] pos) (RdB Y (.call f es)) := by
  obtain ⟨ad, fd, ps, hm, F, b, G, _⟩ := (D f d hd).ex
  have h1 : starEach (a :: as) X.env = (false, eval a X.env) :: starEach as X.env := by cases h; assumption
  have h2 : (backTo pos (starEach as X.env)).any (·.1) = false := by cases h with | cons _ _ t => exact t.plain
  exact PE.mono (pe_callS G hr hg hm F.kp b hx (pa_C O h) hdb h1 h2) fun σ H Q h => rd_call O hl hd h
theorem pe_call0' (O : Ok0 Y X) {f : Str} {d : Def} (D : DefOk X CX k (bX Y.X) Y.er Y.p Y.cf src) (hr : Room k X.A) (hx : ∀ σ, PassesAt CX X σ (WE Y.W σ)) (hd : Y.p.defs.lookup f = some d) (hl : d.muts.length = d.np) (hg : Gl X f) (hdb : (f == ("__debug__" : Str)) = false) :
    PE X (.Call (.Name f p) [] [] pos) (RdB Y (.call f [])) := by
  obtain ⟨ad, fd, ps, hm, F, b, G, _⟩ := (D f d hd).ex
  refine ⟨fun pins s σ H Q I h => ?_⟩
  refine wpAny_Call_Name_kw (ld_glob I hg hm ?_ hdb)
  exact PySem.W.callWith_K0 I.kIn F.kp (run_fnS (us := []) G hr b (hx σ) I .nil (rdC_nil (rd_call O hl hd h)).2)
/-! ### keywords -/
def permL {α : Type} (perm : List Nat) (l : List α) : List α := perm.filterMap fun j => l[j]?
theorem vals_at {vs : List V} {us : List Value} (r : Vals vs us) (j : Nat) : (vs[j]? = none ∧ us[j]? = none) ∨ ∃ v u, vs[j]? = some v ∧ us[j]? = some u ∧ RelV v u := by
  induction r generalizing j with
  | nil => exact .inl ⟨rfl, rfl⟩
  | cons h t ih =>
    cases j with
    | zero => exact .inr ⟨_, _, rfl, rfl, h⟩
    | succ j => simpa using ih j
theorem vals_perm {vs : List V} {us : List Value} (r : Vals vs us) : ∀ perm : List Nat, Vals (permL perm vs) (permL perm us)
  | [] => .nil
  | j :: perm => by
    have ih := vals_perm r perm
    unfold permL at ih ⊢
    rcases vals_at r j with ⟨e1, e2⟩ | ⟨v, u, e1, e2, rv⟩
    · rw [List.filterMap_cons, List.filterMap_cons, e1, e2]
      exact ih
    · rw [List.filterMap_cons, List.filterMap_cons, e1, e2]
      exact .cons rv ih
theorem mapM_perm {α : Type} {l : List α} : ∀ {perm : List Nat} {r : List α}, perm.mapM (fun j => l[j]?) = some r → permL perm l = r
  | [], r, h => by
    have : r = [] := by simpa using h.symm
    subst this; rfl
  | j :: perm, r, h => by
    rw [List.mapM_cons] at h
    cases ej : l[j]? with
    | none => rw [ej] at h; cases h
    | some x =>
      rw [ej] at h
      cases er : perm.mapM (fun j => l[j]?) with
      | none => rw [er] at h; cases h
      | some r' =>
        rw [er] at h
        cases h
        unfold permL
        rw [List.filterMap_cons, ej]
        exact congrArg (x :: ·) (mapM_perm er)
def kAV (v : PV) : AV := .v v true none
theorem avs_perm {X : KX} {σ : St} {fp : Nat → List Addr} {H : Hp} {l : List PV} {m : List V} (all : ∀ (j : Nat) (v : PV), l[j]? = some v → ∃ w, m[j]? = some w ∧ Rp false X H v w [] ∧ v.imm = true) : ∀ {perm : List Nat} {vs : List PV} {ms : List Bool}, perm.mapM (fun j => l[j]?) = some vs → ms.length = vs.length → AvsOk X σ fp H ms (vs.map kAV) (permL perm m)
  | [], vs, ms, h, hl => by
    have e : vs = [] := by simpa using h.symm
    subst e
    have e2 : ms = [] := List.eq_nil_of_length_eq_zero hl
    subst e2
    unfold AvsOk permL
    trivial
  | j :: perm, vs, ms, h, hl => by
    rw [List.mapM_cons] at h
    cases ej : l[j]? with
    | none => rw [ej] at h; cases h
    | some x =>
      rw [ej] at h
      cases er : perm.mapM (fun j => l[j]?) with
      | none => rw [er] at h; cases h
      | some r' =>
        rw [er] at h
        cases h
        obtain ⟨w, e1, r, hi⟩ := all j x ej
        have ep : permL (j :: perm) m = w :: permL perm m := by unfold permL; rw [List.filterMap_cons, e1]
        rw [ep]
        cases ms with
        | nil => cases hl
        | cons b ms =>
          have ih := avs_perm (σ := σ) (fp := fp) all (perm := perm) (vs := r') (ms := ms) er (by simpa using hl)
          have g : Good fp x true none [] := ⟨fun _ => rfl, fun _ _ hb => (by cases hb), fun _ hb => (by cases hb)⟩
          cases b <;> exact ⟨⟨fun _ => hi, [], r, g⟩, ih⟩
theorem bysA_k : ∀ vs : List PV, bysA (vs.map kAV) = []
  | [] => rfl
  | v :: vs => bysA_k vs
theorem posA_k : ∀ (vs : List PV) (j : Nat), posA (vs.map kAV) j = none
  | [], j => rfl
  | v :: vs, j => by
    show (posA (vs.map kAV) j).map (· + 1) = none
    rw [posA_k vs j]; rfl
theorem apart_k {bys : List Nat} : ∀ vs : List PV, apart bys (vs.map kAV) = true
  | [] => rfl
  | v :: vs => by
    show ((v.imm || true || _) && apart bys (vs.map kAV)) = true
    rw [apart_k vs]; simp
theorem valsA_k {env : PEnv} : ∀ vs : List PV, valsA env (vs.map kAV) = some vs
  | [] => rfl
  | v :: vs => by
    show (match (some v : Option PV), valsA env (vs.map kAV) with | some v, some vs => some (v :: vs) | _, _ => none) = _
    rw [valsA_k vs]
theorem outsA_k {X : KX} {H : Hp} {fo : Nat → List Addr} {env : PEnv} : ∀ {n : Nat} {ms : List Bool} {vs os : List PV} {ws : List V}, ms.length = vs.length → OutsOk X H fo n ms os ws → outsA env ms (vs.map kAV) os = some env
  | n, [], [], os, ws, _, h => by
    cases os with
    | nil => rfl
    | cons o os => cases ws <;> simp [OutsOk] at h
  | n, [], _ :: _, os, ws, hl, h => by cases hl
  | n, _ :: _, [], os, ws, hl, h => by cases hl
  | n, true :: ms, v :: vs, os, ws, hl, h => by
    cases os with
    | nil => cases ws <;> simp [OutsOk] at h
    | cons o os =>
      cases ws with
      | nil => simp [OutsOk] at h
      | cons w ws =>
        unfold OutsOk at h
        exact outsA_k (n := n + 1) (ms := ms) (vs := vs) (by simpa using hl) h.2
  | n, false :: ms, v :: vs, os, ws, hl, h => by
    cases ws with
    | nil => cases os <;> simp [OutsOk] at h
    | cons w ws =>
      have h' : OutsOk X H fo (n + 1) ms os ws := by cases os <;> (unfold OutsOk at h; exact h)
      have := outsA_k (env := env) (n := n + 1) (ms := ms) (vs := vs) (by simpa using hl) h'
      cases os <;> exact this
/-- the keywords' expressions -/
inductive AllKs (Y : Cz) (X : Cx) : List Keyword → List E → Prop
  | nil : AllKs Y X [] []
  | cons {nm : Option Str} {a : Expr} {kp : Pos} {as : List Keyword} {e : E} {es : List E} : PE X a (RdB Y e) → AllKs Y X as es → AllKs Y X (⟨nm, a, kp⟩ :: as) (e :: es)
theorem pk_A (O : Ok0 Y X) : ∀ {as : List Keyword} {es : List E}, AllKs Y X as es → PK X as (RdA Y es)
  | _, _, .nil => ⟨fun pos pins s σ H Q I h => pk_nil.run pos pins s σ H Q I (rdA_nil h)⟩
  | _, _, .cons h t => ⟨fun pos pins s σ H Q I q => (pk_cons h (pk_A O t)).run pos pins s σ H Q I (rdA_cons O.ok q)⟩
theorem all_imm {vs : List PV} (h : vs.all (fun v => v.imm) = true) : immL vs = true := by
  induction vs with
  | nil => rfl
  | cons v vs ih =>
    simp only [List.all_cons, Bool.and_eq_true] at h
    unfold immL
    rw [h.1, ih h.2]; rfl
theorem rd_kcall (O : Ok0 Y X) {f : Str} {d : Def} {perm : List Nat} {ks : List E} (hl : d.muts.length = d.np) (hp : perm.length = d.np) (hd : Y.p.defs.lookup f = some d) {σ : St} {H : Hp} {Q : VK} (h : RdB Y (.callk f perm es ks) σ H Q) :
    RdA Y es σ H fun ws H1 => RdA Y ks σ H1 fun zs H2 => spI (bX Y.X) Y.er d (Y.cf f) (permL perm (ws ++ zs)) H2 Q (WE Y.W σ) := by
  obtain ⟨env, fp, S, h⟩ := h
  unfold evB at h
  rw [hd] at h
  dsimp only at h
  refine ⟨env, fp, S, h.bind.imp fun as env1 h1 ws H1 fp1 P1 => ?_⟩
  obtain ⟨i1, h1⟩ := h1.ite
  refine ⟨env1, fp1, P1.sim, (h1.bind' P1.stp).imp fun bs env2 h2 zs H2 fp2 P2 => ?_⟩
  obtain ⟨i2, h2⟩ := h2.ite
  have t2 := P1.stp.trans P2.stp
  obtain ⟨G1, r1⟩ := P1.vb
  obtain ⟨G2, r2⟩ := P2.vb
  have r1' := ((r1.imm (m' := false) (all_imm i1)).2).fix O.ok (P2.stp.fix P1.sim) fun _ hb => by cases hb
  have r2' := (r2.imm (m' := false) (all_imm i2)).2
  have r12 := r1'.append r2'
  rw [List.append_nil] at r12
  have all : ∀ (j : Nat) (v : PV), (as ++ bs)[j]? = some v → ∃ w, (ws ++ zs)[j]? = some w ∧ Rp false Y.X H2 v w [] ∧ v.imm = true := fun j v e => by
    obtain ⟨w, F1, G, F2, e1, e2, r, _, _⟩ := r12.at e
    have hv : v.imm = true := by
      have hm := List.mem_of_getElem? e
      rcases List.mem_append.mp hm with hm | hm
      · exact List.all_eq_true.mp i1 v hm
      · exact List.all_eq_true.mp i2 v hm
    exact ⟨w, e1, (r.imm (m' := false) hv).2, hv⟩
  cases em : perm.mapM (fun j => (as ++ bs)[j]?) with
  | none => rw [em] at h2; exact h2.elim
  | some vs =>
    rw [em] at h2
    dsimp only at h2
    have lv : vs.length = d.np := by
      rw [← mapM_perm em, ← hp]
      have : ∀ {perm : List Nat} {vs : List PV}, perm.mapM (fun j => (as ++ bs)[j]?) = some vs → vs.length = perm.length := by
        intro perm
        induction perm with
        | nil => intro vs h; have : vs = [] := by simpa using h.symm
                 subst this; rfl
        | cons j perm ih =>
          intro vs h
          rw [List.mapM_cons] at h
          cases ej : (as ++ bs)[j]? with
          | none => rw [ej] at h; cases h
          | some x =>
            rw [ej] at h
            cases er : perm.mapM (fun j => (as ++ bs)[j]?) with
            | none => rw [er] at h; cases h
            | some r' => rw [er] at h; cases h; simp [ih er]
      rw [mapM_perm em, this em]
    have av := avs_perm (σ := σ) (fp := fp2) all em (ms := d.muts) (by omega)
    have S0 := call_in P2.sim av (valsA_k vs) (by rw [bysA_k]; exact List.nodup_nil) (apart_k vs)
    obtain ⟨l1, l2, _⟩ := av.at_
    rw [List.length_map] at l1 l2
    refine ⟨_, vs, _, by omega, lv, hl, S0, ?_⟩
    have eR : ∀ fo, fpR (vs.map kAV) fp2 fo = fp2 := fun fo => by
      funext j
      unfold fpR
      rw [posA_k]
    cases ec : Y.cf f vs with
    | bad => rw [ec] at h2; exact h2.elim
    | ok v os =>
      rw [ec] at h2
      dsimp only
      intro w F H' fo ho fk t' vo
      have h2 : ∀ w H' fp', Post Y.X σ fp H (.callk f perm es ks) (v, true) env2 w H' fp' → Q w H' := h2
      obtain ⟨S3, t3, k⟩ := call_out O.ok P2.sim av (valsA_k vs) (by rw [bysA_k]; exact List.nodup_nil) t' fk (OutsOk.sub.mpr ho) (outsA_k (by omega) (OutsOk.sub.mpr ho))
      obtain ⟨k1, k2, k3⟩ := k F vo.dis vo.new
      rw [eR] at S3 t3 k1
      have vo2 : VO Y.X fp H fp2 H' v w F := ⟨Rp.sub.mpr vo.rp, vo.nd, k1, fun b hb => t2.fresh (k2 b hb), k3⟩
      exact h2 w H' _ ⟨S3, t2.trans t3, fun q => (nomatch q), fun q => (nomatch q), ⟨F, vo2.vb⟩, fun _ => ⟨F, vo2⟩, fun i z => (nomatch z)⟩
    | exc c fs os =>
      rw [ec] at h2
      dsimp only
      intro cls dd H' fo ho fk t' e'
      have h2 : ExcOk Y σ fp H c fs env2 := h2
      obtain ⟨S3, t3, k⟩ := call_out O.ok P2.sim av (valsA_k vs) (by rw [bysA_k]; exact List.nodup_nil) t' fk (OutsOk.sub.mpr ho) (outsA_k (by omega) (OutsOk.sub.mpr ho))
      rw [eR] at S3 t3
      exact h2 cls dd H' _ S3 (t2.trans t3) e'
theorem run_kw {f : Addr} {fd : FuncData} {ps ks : List Str} {sp : Sp} {E : XK} {pins : List (Addr × Obj)} {σ : St} {H : Hp} {s : Shared} {Q : VK} {us ws vs : List Value} {xs : List V} (F : FnOk X.prog X.w X.K X.mg X.base CX k f fd ps sp) (hr : Room k X.A) (hx : PassesAt CX X σ E)
    (hb : BindsTo s fd ⟨us, ks.zip ws⟩ (ps.zip vs)) (I : Inv X pins σ H s) (r : Vals xs vs) (h : sp xs H Q E) : wpAny (model X.prog X.w) X.A (call (.ref f) us (ks.zip ws)) (EP X pins σ Q) X.xe s := by
  refine wpAny_call (codeAny_mono (F.run X.A X.stack s H ⟨us, ks.zip ws⟩ vs xs Q E hr I.env0 hb r h) fun r s' hq => ?_)
  cases r with
  | error e => exact hx pins H s e s' I hq
  | ok fl =>
    cases fl with
    | ret u => exact I.after hq
    | next => exact False.elim hq
    | brk => exact False.elim hq
    | cont => exact False.elim hq
theorem rdA_len (ok : Y.X.Ok) : ∀ {es : List E} {σ : St} {H : Hp} {Q : List V → Hp → Prop}, RdA Y es σ H Q → RdA Y es σ H fun ws H1 => ws.length = es.length ∧ Q ws H1 := by
  intro es
  have evl : ∀ {es : List E} {env env' : PEnv} {vs : List PV}, evA Y.p Y.cf es env = .ok vs env' → vs.length = es.length := by
    intro es
    induction es with
    | nil => intro env env' vs h; unfold evA at h; cases h; rfl
    | cons e es ih =>
      intro env env' vs h
      unfold evA at h
      cases e1 : evB Y.p Y.cf e env with
      | bad => rw [e1] at h; cases h
      | exc c fs x => rw [e1] at h; cases h
      | ok r env1 =>
        rw [e1] at h
        have h : (if (r.1.imm || r.2 || quietL es) = true then (evA Y.p Y.cf es env1).bind fun vs env => .ok (r.1 :: vs) env else .bad) = .ok vs env' := h
        split at h
        · cases e2 : evA Y.p Y.cf es env1 with
          | bad => rw [e2] at h; cases h
          | exc c fs x => rw [e2] at h; cases h
          | ok us env2 => rw [e2] at h; cases h; simp [ih e2]
        · cases h
  rintro σ H Q ⟨env, fp, S, h⟩
  refine ⟨env, fp, S, ?_⟩
  revert h
  cases e : evA Y.p Y.cf es env with
  | bad => exact fun h => h
  | exc c fs x => exact fun h => h
  | ok vs env' =>
    intro h ws H' fp' P
    obtain ⟨G, r⟩ := P.vb
    exact ⟨by rw [← r.length, evl e], h ws H' fp' P⟩
/-- f(k = v, ..) -/
theorem pe_kcall0 (O : Ok0 Y X) {f : Str} {d : Def} {perm : List Nat} {kws : List Keyword} {ks : List E} {ns : List Str} {ps : List Str} (D : DefOk X CX k (bX Y.X) Y.er Y.p Y.cf src) (hr : Room k X.A) (hx : ∀ σ, PassesAt CX X σ (WE Y.W σ)) (hd : Y.p.defs.lookup f = some d) (hl : d.muts.length = d.np) (hp : perm.length = d.np) (hg : Gl X f)
    (h : AllKs Y X kws ks) (hdb : (f == ("__debug__" : Str)) = false) (hall : (backToKw pos (keywordEach kws X.env)).all (·.1.isSome) = true) (hks : (backToKw pos (keywordEach kws X.env)).filterMap (·.1) = ns)
    (hpl : ((backTo pos (starEach [] X.env)).any (·.1) || (backToKw pos (keywordEach kws X.env)).any (·.1.isNone)) = false) (hps : ((defArgs (src f)).args.map (·.arg)) = ps)
    (hb : ∀ (kV doc pm : Value) (an : Option Addr) (cdv ct : Value) (ws : List Value), ws.length = ks.length → bindArgs (PySem.W.fnOf f f (defArgs (src f)) (defBody (src f)) (defScope (src f)) .none kV doc pm an cdv ct) ⟨[], ns.zip ws⟩ = pure (ps.zip (permL perm ws))) :
    PE X (.Call (.Name f p) [] kws pos) (RdB Y (.callk f perm [] ks)) := by
  obtain ⟨ad, fd, ps', hm, F, b, G, eps⟩ := (D f d hd).ex
  have eps : ps' = ps := eps.trans hps
  subst eps
  refine ⟨fun pins s σ H Q I h0 => ?_⟩
  have h1 := rdA_nil (rd_kcall O hl hp hd h0)
  have h2 := rdA_len O.ok h1
  refine wpAny_Call_Name_kw (ld_glob I hg hm ?_ hdb)
  refine PySem.W.callWith_KW0 (h₀ := X.base) I.ok.mod.kin F.kp hall ?_ hpl
  refine thn ((pk_A O h).run pos pins s σ H _ I h2) fun ws s2 ⟨zs, H2, I2, rz, l2, q2⟩ => ⟨I2.kIn, ?_⟩
  rw [hks]
  have q3 : spI (bX Y.X) Y.er d (Y.cf f) (permL perm zs) H2 Q (WE Y.W σ) := by simpa using q2
  obtain ⟨oc, od, dV, kV, doc, pm, an, cdv, ct, osl, rfl, lk, hcd, hD, hK⟩ := F.ex
  rcases hD with ⟨_, rfl⟩ | ⟨e, _⟩
  · exact run_kw G hr (hx σ) (.of_eq (hb kV doc pm an cdv ct ws (by rw [← rz.length, l2]))) I2 (vals_perm rz perm) q3
  · exact absurd rfl e
/-- f(e, .., k = v, ..) -/
theorem pe_kcall (O : Ok0 Y X) {f : Str} {d : Def} {perm : List Nat} {kws : List Keyword} {a : Expr} {ks : List E} {ns : List Str} {ps : List Str} (D : DefOk X CX k (bX Y.X) Y.er Y.p Y.cf src) (hr : Room k X.A) (hx : ∀ σ, PassesAt CX X σ (WE Y.W σ)) (hd : Y.p.defs.lookup f = some d) (hl : d.muts.length = d.np) (hp : perm.length = d.np) (hg : Gl X f)
    (ha : Alls Y X (a :: as) es) (h : AllKs Y X kws ks) (hdb : (f == ("__debug__" : Str)) = false) (hall : (backToKw pos (keywordEach kws X.env)).all (·.1.isSome) = true) (hks : (backToKw pos (keywordEach kws X.env)).filterMap (·.1) = ns)
    (hpl : ((backTo pos (starEach (a :: as) X.env)).any (·.1) || (backToKw pos (keywordEach kws X.env)).any (·.1.isNone)) = false) (hps : ((defArgs (src f)).args.map (·.arg)) = ps)
    (hb : ∀ (kV doc pm : Value) (an : Option Addr) (cdv ct : Value) (us ws : List Value), us.length = es.length → ws.length = ks.length → bindArgs (PySem.W.fnOf f f (defArgs (src f)) (defBody (src f)) (defScope (src f)) .none kV doc pm an cdv ct) ⟨us, ns.zip ws⟩ = pure (ps.zip (permL perm (us ++ ws)))) :
    PE X (.Call (.Name f p) (a :: as) kws pos) (RdB Y (.callk f perm es ks)) := by
  obtain ⟨ad, fd, ps', hm, F, b, G, eps⟩ := (D f d hd).ex
  have eps : ps' = ps := eps.trans hps
  subst eps
  have e1 : starEach (a :: as) X.env = (false, eval a X.env) :: starEach as X.env := by cases ha; assumption
  refine ⟨fun pins s σ H Q I h0 => ?_⟩
  have h1 := rdA_len O.ok (rd_kcall O hl hp hd h0)
  refine wpAny_Call_Name_kw (ld_glob I hg hm ?_ hdb)
  refine PySem.W.callWith_KW (h₀ := X.base) I.ok.mod.kin F.kp hall (thn ((pa_A O ha).run pos pins s σ H _ I h1) fun us s1 ⟨vs, H1, I1, r, l1, q⟩ => ?_) hpl e1
  refine thn ((pk_A O h).run pos pins s1 σ H1 _ I1 (rdA_len O.ok q)) fun ws s2 ⟨zs, H2, I2, rz, l2, q2⟩ => ⟨I2.kIn, ?_⟩
  rw [hks]
  obtain ⟨oc, od, dV, kV, doc, pm, an, cdv, ct, osl, rfl, lk, hcd, hD, hK⟩ := F.ex
  rcases hD with ⟨_, rfl⟩ | ⟨e, _⟩
  · exact run_kw G hr (hx σ) (.of_eq (hb kV doc pm an cdv ct us ws (by rw [← r.length, l1]) (by rw [← rz.length, l2]))) I2 (vals_perm (r.append rz) perm) q2
  · exact absurd rfl e
end
end DI
set_option Elab.async false
set_option linter.all false
set_option maxRecDepth 100000
set_option maxHeartbeats 1000000
/-! DIS18: locks. -/
namespace DI
open PySem PySem.Spec PyProof.Rows L2

/-- such a slot is locked by l -/
def Lkd (env : PEnv) (l : List Nat) (j : Nat) : Prop := j ∈ l ∧ ∃ v, getM env j = some v
theorem lockS_len : ∀ (l : List Nat) (env : PEnv), (lockS env l).length = env.length
  | [], env => rfl
  | i :: is, env => by
    unfold lockS
    split
    · rw [lockS_len is]; simp
    · rw [lockS_len is]; simp
    · exact lockS_len is env
theorem getM_lt {env : PEnv} {j : Nat} {v : PV} (h : getM env j = some v) : j < env.length := by
  unfold getM at h
  rcases Nat.lt_or_ge j env.length with z | z
  · exact z
  · rw [List.getElem?_eq_none z] at h; cases h
theorem lockS_at : ∀ (l : List Nat) (env : PEnv) (j : Nat), (∀ v, j ∈ l → getM env j = some v → (lockS env l)[j]? = some (.ro true v)) ∧ (¬ Lkd env l j → (lockS env l)[j]? = env[j]?)
  | [], env, j => ⟨fun v h => (by cases h), fun _ => rfl⟩
  | i :: is, env, j => by
    have stepL : ∀ v0, getM env i = some v0 → lockS env (i :: is) = lockS (env.set i (.ro true v0)) is := fun v0 h => by
      unfold getM at h
      show (match env[i]? with | some (.ow v) => lockS (env.set i (.ro true v)) is | some (.rf v) => lockS (env.set i (.ro true v)) is | _ => lockS env is) = _
      cases e : env[i]? with
      | none => rw [e] at h; cases h
      | some s => rw [e] at h; cases s <;> first | (cases h; done) | (cases h; rfl)
    have stepN : getM env i = none → lockS env (i :: is) = lockS env is := fun h => by
      unfold getM at h
      show (match env[i]? with | some (.ow v) => lockS (env.set i (.ro true v)) is | some (.rf v) => lockS (env.set i (.ro true v)) is | _ => lockS env is) = _
      cases e : env[i]? with
      | none => rfl
      | some s => rw [e] at h; cases s <;> first | (cases h; done) | rfl
    cases em : getM env i with
    | none =>
      rw [stepN em]
      obtain ⟨h1, h2⟩ := lockS_at is env j
      refine ⟨fun v hm hv => ?_, fun hn => h2 fun ⟨h3, h4⟩ => hn ⟨List.mem_cons_of_mem _ h3, h4⟩⟩
      rcases List.mem_cons.mp hm with z | z
      · rw [z, em] at hv; cases hv
      · exact h1 v z hv
    | some v0 =>
      rw [stepL v0 em]
      obtain ⟨h1, h2⟩ := lockS_at is (env.set i (.ro true v0)) j
      have hl := getM_lt em
      have gset : getM (env.set i (.ro true v0)) j = if j = i then none else getM env j := by
        unfold getM
        by_cases e : j = i
        · subst e
          rw [if_pos rfl, List.getElem?_set_self hl]
        · rw [if_neg e, List.getElem?_set_ne (Ne.symm e)]
      by_cases e : j = i
      · subst e
        have n1 : ¬ Lkd (env.set j (.ro true v0)) is j := fun ⟨_, v, hv⟩ => by rw [gset, if_pos rfl] at hv; cases hv
        refine ⟨fun v _ hv => ?_, fun hn => absurd ⟨List.mem_cons_self, v0, em⟩ hn⟩
        rw [em] at hv
        cases hv
        rw [h2 n1, List.getElem?_set_self hl]
      · refine ⟨fun v hm hv => h1 v ((List.mem_cons.mp hm).resolve_left e) (by rw [gset, if_neg e]; exact hv), fun hn => ?_⟩
        rw [h2 fun ⟨h3, v, h4⟩ => hn ⟨List.mem_cons_of_mem _ h3, v, by rw [gset, if_neg e] at h4; exact h4⟩, List.getElem?_set_ne (Ne.symm e)]
theorem unlockS_at : ∀ (l : List Nat) (env0 env env' : PEnv), unlockS env0 env l = some env' → env'.length = env.length ∧ ∀ j, (∀ v, j ∈ l → getM env0 j = some v → env'[j]? = env0[j]? ∧ ∃ u, env[j]? = some (.ro true u)) ∧ (¬ Lkd env0 l j → env'[j]? = env[j]?)
  | [], env0, env, env', h => by
    unfold unlockS at h
    cases h
    exact ⟨rfl, fun j => ⟨fun v h => (by cases h), fun _ => rfl⟩⟩
  | i :: is, env0, env, env', h => by
    cases em : getM env0 i with
    | none =>
      have h' : unlockS env0 env is = some env' := by
        unfold getM at em
        have h : (match env0[i]?, env[i]? with | some (.ow v), some (.ro true _) => unlockS env0 (env.set i (.ow v)) is | some (.rf v), some (.ro true _) => unlockS env0 (env.set i (.rf v)) is | some (.ow _), _ => none | some (.rf _), _ => none | _, _ => unlockS env0 env is) = some env' := h
        cases e : env0[i]? with
        | none => rw [e] at h; exact h
        | some s => rw [e] at h em; cases s <;> first | (cases em; done) | exact h
      obtain ⟨r1, r2⟩ := unlockS_at is env0 env env' h'
      refine ⟨r1, fun j => ⟨fun v hm hv => ?_, fun hn => (r2 j).2 fun ⟨h3, h4⟩ => hn ⟨List.mem_cons_of_mem _ h3, h4⟩⟩⟩
      rcases List.mem_cons.mp hm with z | z
      · rw [z, em] at hv; cases hv
      · exact (r2 j).1 v z hv
    | some v0 =>
      have hs : ∃ s u, env0[i]? = some s ∧ env[i]? = some (.ro true u) ∧ unlockS env0 (env.set i s) is = some env' := by
        unfold getM at em
        have h : (match env0[i]?, env[i]? with | some (.ow v), some (.ro true _) => unlockS env0 (env.set i (.ow v)) is | some (.rf v), some (.ro true _) => unlockS env0 (env.set i (.rf v)) is | some (.ow _), _ => none | some (.rf _), _ => none | _, _ => unlockS env0 env is) = some env' := h
        cases e : env0[i]? with
        | none => rw [e] at em; cases em
        | some s =>
          rw [e] at h em
          cases s with
          | un => cases em
          | ro k v => cases em
          | ow v =>
            cases e2 : env[i]? with
            | none => rw [e2] at h; cases h
            | some s2 =>
              rw [e2] at h
              cases s2 with
              | ro k u =>
                cases k with
                | false => cases h
                | true => exact ⟨_, u, rfl, rfl, h⟩
              | _ => cases h
          | rf v =>
            cases e2 : env[i]? with
            | none => rw [e2] at h; cases h
            | some s2 =>
              rw [e2] at h
              cases s2 with
              | ro k u =>
                cases k with
                | false => cases h
                | true => exact ⟨_, u, rfl, rfl, h⟩
              | _ => cases h
      obtain ⟨s, u, e0, e1, h'⟩ := hs
      obtain ⟨r1, r2⟩ := unlockS_at is env0 (env.set i s) env' h'
      have hi : i < env.length := by
        rcases Nat.lt_or_ge i env.length with z | z
        · exact z
        · rw [List.getElem?_eq_none z] at e1; cases e1
      refine ⟨by rw [r1]; simp, fun j => ?_⟩
      by_cases e : j = i
      · subst e
        refine ⟨fun v _ hv => ⟨?_, u, e1⟩, fun hn => absurd ⟨List.mem_cons_self, v0, em⟩ hn⟩
        by_cases hj : j ∈ is
        · exact ((r2 j).1 v hj hv).1
        · rw [(r2 j).2 fun ⟨h3, _⟩ => hj h3, List.getElem?_set_self hi, e0]
      · refine ⟨fun v hm hv => ?_, fun hn => ?_⟩
        · obtain ⟨q1, u', q2⟩ := (r2 j).1 v ((List.mem_cons.mp hm).resolve_left e) hv
          exact ⟨q1, u', by rw [List.getElem?_set_ne (Ne.symm e)] at q2; exact q2⟩
        · rw [(r2 j).2 fun ⟨h3, h4⟩ => hn ⟨List.mem_cons_of_mem _ h3, h4⟩, List.getElem?_set_ne (Ne.symm e)]
open Classical in
/-- the slots' parts while they are locked -/
noncomputable def fpL (env : PEnv) (l : List Nat) (fp : Nat → List Addr) (j : Nat) : List Addr := if Lkd env l j then [] else fp j
theorem fpL_mem {env : PEnv} {l : List Nat} {fp : Nat → List Addr} {j : Nat} {b : Addr} (h : b ∈ fpL env l fp j) : ¬ Lkd env l j ∧ b ∈ fp j := by
  unfold fpL at h
  split at h
  · cases h
  · rename_i hn; exact ⟨hn, h⟩
open Classical in
/-- while something is walked -/
noncomputable def lockX (X : KX) (env : PEnv) (l : List Nat) (fp : Nat → List Addr) (σ : St) (Gp : Addr → Prop) : KX :=
  sX X (fun b => X.Z b ∨ (∃ j, Lkd env l j ∧ b ∈ fp j) ∨ Gp b) (fun j => if Lkd env l j then (σ[j]?).join else X.R j) fun j v w G => (Lkd env l j ∧ G = fp j) ∨ (¬ Lkd env l j ∧ X.Q j v w G)
section
variable {X : KX} {env env' env0 : PEnv} {σ σ' : St} {H H' : Hp} {fp fp' : Nat → List Addr} {l : List Nat} {Gp : Addr → Prop}
open Classical in
theorem Sim.lock (S : Sim X env σ H fp) (g1 : ∀ b, Gp b → ∃ o, H b = some o) (g2 : ∀ b j, Gp b → b ∈ fp j → Lkd env l j) : Sim (lockX X env l fp σ Gp) (lockS env l) σ H (fpL env l fp) := by
  have at1 := lockS_at l env
  have gm : ∀ j v, getM (lockS env l) j = some v → ¬ Lkd env l j ∧ getM env j = some v := fun j v h => by
    by_cases hk : Lkd env l j
    · obtain ⟨hm, v0, hv⟩ := id hk
      unfold getM at h
      rw [(at1 j).1 v0 hm hv] at h
      cases h
    · unfold getM at h ⊢
      rw [(at1 j).2 hk] at h
      exact ⟨hk, h⟩
  refine ⟨by rw [lockS_len]; exact S.len, fun j v h => ?_, fun j h => ?_, fun j k v h => ?_, fun j v w G h b hb => ?_, fun j j' b h1 h2 => S.dis j j' b (fpL_mem h1).2 (fpL_mem h2).2, fun j => ?_, fun j b hb hz => ?_, fun b hz => ?_, fun j w h => ?_⟩
  · obtain ⟨hn, hv⟩ := gm j v h
    obtain ⟨w, e, r⟩ := S.own j v hv
    refine ⟨w, e, ?_⟩
    unfold fpL
    rw [if_neg hn]
    exact Rp.sub.mp r
  · unfold fpL
    split
    · rfl
    · rename_i hn
      refine S.emp j ?_
      unfold getM at h ⊢
      rw [(at1 j).2 hn] at h
      exact h
  · by_cases hk : Lkd env l j
    · obtain ⟨hm, v0, hv⟩ := id hk
      rw [(at1 j).1 v0 hm hv] at h
      cases h
      obtain ⟨w, e, r⟩ := S.own j _ hv
      exact ⟨w, fp j, e, Rp.sub.mp r.weak, .inl ⟨hk, rfl⟩⟩
    · rw [(at1 j).2 hk] at h
      obtain ⟨w, G, e, r, q⟩ := S.ro j k v h
      exact ⟨w, G, e, Rp.sub.mp r, .inr ⟨hk, q⟩⟩
  · rcases h with ⟨hk, rfl⟩ | ⟨_, q⟩
    · exact .inr (.inl ⟨j, hk, hb⟩)
    · exact .inl (S.qz j v w G q b hb)
  · unfold fpL
    split
    · exact List.nodup_nil
    · exact S.nd j
  · obtain ⟨hn, hb⟩ := fpL_mem hb
    rcases hz with hz | ⟨j', hk, hb'⟩ | hz
    · exact S.zd j b hb hz
    · exact hn (by rw [S.dis j j' b hb hb']; exact hk)
    · exact hn (g2 b j hz hb)
  · rcases hz with hz | ⟨j', _, hb'⟩ | hz
    · exact S.zt b hz
    · obtain ⟨o, ho, _⟩ := S.owned hb'
      exact ⟨o, ho⟩
    · exact g1 b hz
  · have h : (if Lkd env l j then (σ[j]?).join else X.R j) = some w := h
    by_cases hk : Lkd env l j
    · rw [if_pos hk] at h
      obtain ⟨hm, v0, hv⟩ := id hk
      refine ⟨?_, _, (at1 j).1 v0 hm hv, rfl⟩
      obtain ⟨w', e, _⟩ := S.own j v0 hv
      rw [e] at h
      have : w' = w := by simpa using h
      rw [e, this]
    · rw [if_neg hk] at h
      obtain ⟨e1, s, e2, e3⟩ := S.fx j w h
      exact ⟨e1, s, by rw [(at1 j).2 hk]; exact e2, e3⟩
theorem stp_lock : Stp fp H (fpL env l fp) H := ⟨fun _ _ h _ => h, fun j b h => .inl ⟨j, (fpL_mem h).2⟩⟩
open Classical in
noncomputable def fpU (env0 : PEnv) (l : List Nat) (fp0 fp : Nat → List Addr) (j : Nat) : List Addr := if Lkd env0 l j then fp0 j else fp j
open Classical in
theorem Sim.unlock (ok : X.Ok) (S0 : Sim X env0 σ H fp) (S : Sim (lockX X env0 l fp σ Gp) env σ' H' fp') (t : Stp (fpL env0 l fp) H fp' H') (h : unlockS env0 env l = some env') : Sim X env' σ' H' (fpU env0 l fp fp') ∧ Stp fp H (fpU env0 l fp fp') H' := by
  obtain ⟨r1, r2⟩ := unlockS_at l env0 env env' h
  have notL : ∀ j b, b ∈ fpL env0 l fp j → ∀ i, Lkd env0 l i → b ∉ fp i := fun j b hb i hi hbi => by
    obtain ⟨hn, hb⟩ := fpL_mem hb
    exact hn (by rw [S0.dis j i b hb hbi]; exact hi)
  have keepL : ∀ i, Lkd env0 l i → ∀ b ∈ fp i, ∀ o, H b = some o → H' b = some o := fun i hi b hb o ho => t.frm b o ho fun j hj => notL j b hj i hi hb
  have fx : Fix H H' := ⟨fun b o ho hw => t.frm b o ho fun j hj => by
    obtain ⟨o', h', e⟩ := S0.owned (fpL_mem hj).2
    rw [ho] at h'; cases h'; rw [hw] at e; cases e⟩
  have mem : ∀ {j b}, b ∈ fpU env0 l fp fp' j → (Lkd env0 l j ∧ b ∈ fp j) ∨ (¬ Lkd env0 l j ∧ b ∈ fp' j) := fun {j b} hb => by
    unfold fpU at hb
    split at hb
    · rename_i hk; exact .inl ⟨hk, hb⟩
    · rename_i hk; exact .inr ⟨hk, hb⟩
  have zl : ∀ i, Lkd env0 l i → ∀ b ∈ fp i, (lockX X env0 l fp σ Gp).Z b := fun i hi b hb => .inr (.inl ⟨i, hi, hb⟩)
  refine ⟨⟨by rw [r1]; exact S.len, fun j v e => ?_, fun j e => ?_, fun j k v e => ?_, S0.qz, fun j j' b h1 h2 => ?_, fun j => ?_, fun j b hb hz => ?_, fun b hz => ?_, fun j w hR => ?_⟩, ⟨fun b o hb hn => t.frm b o hb fun j hj => hn j (fpL_mem hj).2, fun j b hb => ?_⟩⟩
  · by_cases hk : Lkd env0 l j
    · obtain ⟨hm, v0, hv⟩ := id hk
      obtain ⟨e1, u, e2⟩ := (r2 j).1 v0 hm hv
      have ev : getM env' j = getM env0 j := by unfold getM; rw [e1]
      rw [ev, hv] at e
      cases e
      obtain ⟨w, ew, r⟩ := S0.own j _ hv
      have hR : (lockX X env0 l fp σ Gp).R j = some w := by
        show (if Lkd env0 l j then (σ[j]?).join else X.R j) = some w
        rw [if_pos hk, ew]; rfl
      refine ⟨w, (S.fx j w hR).1, ?_⟩
      unfold fpU
      rw [if_pos hk]
      exact r.fix ok fx (keepL j hk)
    · have ev : getM env' j = getM env j := by unfold getM; rw [(r2 j).2 hk]
      rw [ev] at e
      obtain ⟨w, ew, r⟩ := S.own j v e
      refine ⟨w, ew, ?_⟩
      unfold fpU
      rw [if_neg hk]
      exact Rp.sub.mpr r
  · have hk : ¬ Lkd env0 l j := fun hk => by
      obtain ⟨hm, v0, hv⟩ := id hk
      obtain ⟨e1, u, e2⟩ := (r2 j).1 v0 hm hv
      have ev : getM env' j = getM env0 j := by unfold getM; rw [e1]
      rw [ev, hv] at e; cases e
    have ev : getM env' j = getM env j := by unfold getM; rw [(r2 j).2 hk]
    rw [ev] at e
    unfold fpU
    rw [if_neg hk]
    exact S.emp j e
  · by_cases hk : Lkd env0 l j
    · obtain ⟨hm, v0, hv⟩ := id hk
      obtain ⟨e1, u, e2⟩ := (r2 j).1 v0 hm hv
      rw [e1] at e
      unfold getM at hv
      rw [e] at hv; cases hv
    · rw [(r2 j).2 hk] at e
      obtain ⟨w, G, ew, r, q⟩ := S.ro j k v e
      rcases q with ⟨hk', _⟩ | ⟨_, q⟩
      · exact absurd hk' hk
      · exact ⟨w, G, ew, Rp.sub.mpr r, q⟩
  · rcases mem h1 with ⟨k1, b1⟩ | ⟨k1, b1⟩ <;> rcases mem h2 with ⟨k2, b2⟩ | ⟨k2, b2⟩
    · exact S0.dis j j' b b1 b2
    · exact absurd (zl j k1 b b1) (S.zd j' b b2)
    · exact absurd (zl j' k2 b b2) (S.zd j b b1)
    · exact S.dis j j' b b1 b2
  · unfold fpU
    split
    · exact S0.nd j
    · exact S.nd j
  · rcases mem hb with ⟨k1, b1⟩ | ⟨k1, b1⟩
    · exact S0.zd j b b1 hz
    · exact S.zd j b b1 (.inl hz)
  · obtain ⟨o, ho⟩ := S.zt b (.inl hz)
    exact ⟨o, ho⟩
  · obtain ⟨e1, s, e2, e3⟩ := S0.fx j w hR
    by_cases hk : Lkd env0 l j
    · obtain ⟨hm, v0, hv⟩ := id hk
      obtain ⟨e4, _⟩ := (r2 j).1 v0 hm hv
      refine ⟨?_, s, by rw [e4]; exact e2, e3⟩
      have hR' : (lockX X env0 l fp σ Gp).R j = some w := by
        show (if Lkd env0 l j then (σ[j]?).join else X.R j) = some w
        rw [if_pos hk, e1]; rfl
      exact (S.fx j w hR').1
    · have hR' : (lockX X env0 l fp σ Gp).R j = some w := by
        show (if Lkd env0 l j then (σ[j]?).join else X.R j) = some w
        rw [if_neg hk]; exact hR
      obtain ⟨e4, s', e5, e6⟩ := S.fx j w hR'
      exact ⟨e4, s', by rw [(r2 j).2 hk]; exact e5, e6⟩
  · rcases mem hb with ⟨k1, b1⟩ | ⟨k1, b1⟩
    · exact .inl ⟨j, b1⟩
    · exact (t.new j b b1).imp (fun ⟨j', h⟩ => ⟨j', (fpL_mem h).2⟩) fun h => h
end
end DI
set_option Elab.async false
set_option linter.all false
set_option maxRecDepth 100000
set_option maxHeartbeats 1000000
/-! DIS19: what is walked. -/
namespace DI
open PySem PySem.Spec PyProof.Rows L2

/-- kept as at H1 -/
def LkH (H1 : Hp) (Zp : Addr → Prop) (H : Hp) : Prop := Fix H1 H ∧ ∀ b, Zp b → ∀ o, H1 b = some o → H b = some o
/-- the iterator yields vs -/
def Walks (X : KX) (H1 : Hp) (Zp : Addr → Prop) (J : L2.It) (vs : List PV) : Prop := ∀ H, LkH H1 Zp H → ∀ i : Nat, (∀ v, vs[i]? = some v → J.go i H ∧ ∀ x H', J.yld i H x H' → Same H H' ∧ ∃ G, Rp false X H' v x G) ∧ (vs[i]? = none → J.stop i H)
structure PostI (X : KX) (σ : St) (fp : Nat → List Addr) (H : Hp) (it : DI.It) (a : List PV × List Nat) (env' : PEnv) (J : L2.It) (H' : Hp) (fp' : Nat → List Addr) (Gp : Addr → Prop) : Prop where
  sim : Sim X env' σ H' fp'
  stp : Stp fp H fp' H'
  same : it.quiet = true → Same H H'
  mono : it.quiet = true → ∀ i b, b ∈ fp' i → b ∈ fp i
  g1 : ∀ b, Gp b → ∃ o, H' b = some o
  g2 : ∀ b j, Gp b → b ∈ fp' j → Lkd env' a.2 j
  wk : Walks X H' Gp J a.1
def RdI (Y : Cz) (it : DI.It) : TI := fun σ H R => ∃ env fp, Sim Y.X env σ H fp ∧
  Hold Y σ fp H (itI Y.p Y.cf it env) fun a env' => ∀ J H' fp' Gp, PostI Y.X σ fp H it a env' J H' fp' Gp → R J H'
theorem PI.or {X : Cx} {tg it : Expr} {t u : TI} (h : PI X tg it t) (k : PI X tg it u) : PI X tg it (fun σ H R => t σ H R ∨ u σ H R) := ⟨fun pins s σ H R I q => q.elim (h.run pins s σ H R I) (k.run pins s σ H R I)⟩
section
variable {X : KX} {H1 : Hp} {G : List Addr}
/-- tuples -/
theorem walk_tup (ok : X.Ok) {a : Addr} {ws : List V} {vs : List PV} (hs : SqT X.K H1 a ws) (r : RpL false X H1 vs ws G) : Walks X H1 (fun b => b ∈ G) (Itt X.K a) vs := by
  intro H lk i
  have hs' := sqT_fix hs lk.1
  have r' := r.fix ok lk.1 lk.2
  refine ⟨fun v hv => ?_, fun hn => ?_⟩
  · obtain ⟨w, F1, Gv, F2, e1, e2, rv, _, _⟩ := r'.at hv
    refine ⟨⟨ws, w, hs', e1⟩, fun x H' hy => ?_⟩
    obtain ⟨rfl, q⟩ := hy
    have := q ws hs'
    rw [e1] at this
    cases this
    exact ⟨same_refl, Gv, rv⟩
  · refine ⟨ws, hs', ?_⟩
    rw [← r.length]
    exact List.getElem?_eq_none_iff.mp hn
theorem walk_lst (ok : X.Ok) {a : Addr} {ws : List V} {vs : List PV} {G0 : List Addr} (hs : LstR false X.K H1 a ws G0 G) (r : RpL false X H1 vs ws G0) : Walks X H1 (fun b => b ∈ G) (Itl X.K a) vs := by
  intro H lk i
  have hs' := (hs.fix lk.2).sq
  have r' := r.fix ok lk.1 fun b hb => lk.2 b (hs.sub b hb)
  refine ⟨fun v hv => ?_, fun hn => ?_⟩
  · obtain ⟨w, F1, Gv, F2, e1, e2, rv, _, _⟩ := r'.at hv
    refine ⟨⟨ws, w, hs', e1⟩, fun x H' hy => ?_⟩
    obtain ⟨rfl, q⟩ := hy
    have := q ws hs'
    rw [e1] at this
    cases this
    exact ⟨same_refl, Gv, rv⟩
  · refine ⟨ws, hs', ?_⟩
    rw [← r.length]
    exact List.getElem?_eq_none_iff.mp hn
theorem rev_get {α : Type} {l : List α} {i : Nat} {x : α} (h : l.reverse[i]? = some x) : i < l.length ∧ l[l.length - 1 - i]? = some x := by
  have hi : i < l.length := by
    rcases Nat.lt_or_ge i l.reverse.length with z | z
    · simpa using z
    · rw [List.getElem?_eq_none z] at h; cases h
  rw [List.getElem?_reverse hi] at h
  exact ⟨hi, h⟩
theorem walk_tupR (ok : X.Ok) {a : Addr} {ws : List V} {vs : List PV} (hs : SqT X.K H1 a ws) (r : RpL false X H1 vs ws G) : Walks X H1 (fun b => b ∈ G) (RT.ItvT X.K a ws.length) vs.reverse := by
  intro H lk i
  have hs' := sqT_fix hs lk.1
  have r' := r.fix ok lk.1 lk.2
  refine ⟨fun v hv => ?_, fun hn => ?_⟩
  · obtain ⟨hi, hv⟩ := rev_get hv
    obtain ⟨w, F1, Gv, F2, e1, e2, rv, _, _⟩ := r'.at hv
    rw [r.length] at e1 hi
    refine ⟨⟨hi, ws, w, hs', e1⟩, fun x H' hy => ?_⟩
    obtain ⟨rfl, q⟩ := hy
    have := q ws hs'
    rw [e1] at this
    cases this
    exact ⟨same_refl, Gv, rv⟩
  · show ws.length ≤ i
    rw [← r.length]
    simpa using List.getElem?_eq_none_iff.mp hn
theorem walk_lstR (ok : X.Ok) {a : Addr} {ws : List V} {vs : List PV} {G0 : List Addr} (hs : LstR false X.K H1 a ws G0 G) (r : RpL false X H1 vs ws G0) : Walks X H1 (fun b => b ∈ G) (Itv X.K a ws.length) vs.reverse := by
  intro H lk i
  have hs' := (hs.fix lk.2).sq
  have r' := r.fix ok lk.1 fun b hb => lk.2 b (hs.sub b hb)
  refine ⟨fun v hv => ?_, fun hn => ?_⟩
  · obtain ⟨hi, hv⟩ := rev_get hv
    obtain ⟨w, F1, Gv, F2, e1, e2, rv, _, _⟩ := r'.at hv
    rw [r.length] at e1 hi
    refine ⟨⟨hi, ws, w, hs', e1⟩, fun x H' hy => ?_⟩
    obtain ⟨rfl, q⟩ := hy
    have := q ws hs'
    rw [e1] at this
    cases this
    exact ⟨same_refl, Gv, rv⟩
  · show ws.length ≤ i
    rw [← r.length]
    simpa using List.getElem?_eq_none_iff.mp hn
theorem zipL_get : ∀ {as bs : List PV} {i : Nat}, (zipL as bs)[i]? = match as[i]?, bs[i]? with | some a, some b => some (.tup [a, b]) | _, _ => none
  | [], bs, i => by simp [zipL]
  | a :: as, [], i => by cases h : (a :: as)[i]? <;> simp [zipL]
  | a :: as, b :: bs, 0 => rfl
  | a :: as, b :: bs, i + 1 => by
    show (zipL as bs)[i]? = _
    rw [zipL_get]
    rfl
theorem rp_pair {H : Hp} {v1 v2 : PV} {x y : V} {G1 G2 : List Addr} {T : Addr} (ok : X.Ok) (r1 : Rp false X H v1 x G1) (r2 : Rp false X H v2 y G2) (hT : H T = none) : Rp false X (upd H T (.tup [x, y])) (.tup [v1, v2]) (.ref T) (G1 ++ (G2 ++ [])) := by
  have s := same_upd (o := .tup [x, y]) hT
  unfold Rp
  exact ⟨T, [x, y], rfl, SqT.of upd_same, (RpL.cons r1 (RpL.cons r2 RpL.nil)).fix ok (Fix.same s) fun b _ o ho => s b o ho⟩
/-- zip of what may be read by index -/
theorem walk_zip (ok : X.Ok) {sq : Hp → Addr → List V → Prop} {a b : Addr} {ws zs : List V} {vs us : List PV} {G1 G2 : List Addr} {J : L2.It}
    (go : ∀ i H x y, sq H a ws → sq H b zs → ws[i]? = some x → zs[i]? = some y → J.go i H) (stop : ∀ i H, sq H a ws → sq H b zs → ws.length ≤ i ∨ zs.length ≤ i → J.stop i H)
    (yld : ∀ i H v H', sq H a ws → sq H b zs → J.yld i H v H' → ∃ T x y, v = .ref T ∧ H T = none ∧ H' = upd H T (.tup [x, y]) ∧ ws[i]? = some x ∧ zs[i]? = some y)
    (k1 : ∀ H, LkH H1 (fun c => c ∈ G1 ++ G2) H → sq H a ws ∧ RpL false X H vs ws G1) (k2 : ∀ H, LkH H1 (fun c => c ∈ G1 ++ G2) H → sq H b zs ∧ RpL false X H us zs G2) (l1 : vs.length = ws.length) (l2 : us.length = zs.length) : Walks X H1 (fun c => c ∈ G1 ++ G2) J (zipL vs us) := by
  intro H lk i
  obtain ⟨s1, r1⟩ := k1 H lk
  obtain ⟨s2, r2⟩ := k2 H lk
  refine ⟨fun v hv => ?_, fun hn => ?_⟩
  · rw [zipL_get] at hv
    cases ev : vs[i]? with
    | none => rw [ev] at hv; cases hv
    | some v1 =>
      cases eu : us[i]? with
      | none => rw [ev, eu] at hv; cases hv
      | some v2 =>
        rw [ev, eu] at hv
        cases hv
        obtain ⟨w1, _, Gv, _, e1, _, rv, _, _⟩ := r1.at ev
        obtain ⟨w2, _, Gu, _, e2, _, ru, _, _⟩ := r2.at eu
        refine ⟨go i H _ _ s1 s2 e1 e2, fun x H' hy => ?_⟩
        obtain ⟨T, x', y', rfl, hT, rfl, f1, f2⟩ := yld i H x H' s1 s2 hy
        rw [e1] at f1
        rw [e2] at f2
        cases f1
        cases f2
        exact ⟨same_upd hT, _, rp_pair ok rv ru hT⟩
  · rw [zipL_get] at hn
    refine stop i H s1 s2 ?_
    cases ev : vs[i]? with
    | none => exact .inl (by rw [← l1]; exact List.getElem?_eq_none_iff.mp ev)
    | some v1 =>
      cases eu : us[i]? with
      | none => exact .inr (by rw [← l2]; exact List.getElem?_eq_none_iff.mp eu)
      | some v2 => rw [ev, eu] at hn; cases hn
theorem rangeL_get : ∀ {lo : Int} {n i : Nat}, (rangeL lo n)[i]? = if i < n then some (.int (lo + i)) else none
  | lo, 0, i => by simp [rangeL]
  | lo, n + 1, 0 => by simp [rangeL]
  | lo, n + 1, i + 1 => by
    show (rangeL (lo + 1) n)[i]? = _
    rw [rangeL_get]
    by_cases h : i < n
    · rw [if_pos h, if_pos (by omega)]
      congr 2
      push_cast
      omega
    · rw [if_neg h, if_neg (by omega)]
theorem walk_range {lo : Int} {n : Nat} {Zp : Addr → Prop} : Walks X H1 Zp (Itr lo n) (rangeL lo n) := by
  intro H lk i
  rw [rangeL_get]
  refine ⟨fun v hv => ?_, fun hn => ?_⟩
  · split at hv
    · rename_i hi
      cases hv
      refine ⟨hi, fun x H' hy => ?_⟩
      obtain ⟨rfl, rfl⟩ := hy
      exact ⟨same_refl, [], rp_intI⟩
    · cases hv
  · split at hn
    · cases hn
    · rename_i hi
      show n ≤ i
      omega
theorem walk_str {z : Str} {Zp : Addr → Prop} : Walks X H1 Zp (Its z) (z.cps.toList.map fun c => .str ⟨#[c]⟩) := by
  intro H lk i
  refine ⟨fun v hv => ?_, fun hn => ?_⟩
  · rw [List.getElem?_map] at hv
    cases ec : z.cps.toList[i]? with
    | none => rw [ec] at hv; cases hv
    | some c =>
      rw [ec] at hv
      cases hv
      have ec' : z.cps[i]? = some c := by rw [← Array.getElem?_toList]; exact ec
      have hi : i < z.cps.size := by
        rcases Nat.lt_or_ge i z.cps.size with q | q
        · exact q
        · rw [Array.getElem?_eq_none q] at ec'; cases ec'
      refine ⟨hi, fun x H' hy => ?_⟩
      obtain ⟨rfl, c', e1, rfl⟩ := hy
      rw [ec'] at e1
      cases e1
      exact ⟨same_refl, [], rp_str⟩
  · rw [List.getElem?_map] at hn
    have : z.cps.toList[i]? = none := by
      cases ec : z.cps.toList[i]? with
      | none => rfl
      | some c => rw [ec] at hn; cases hn
    show z.cps.size ≤ i
    simpa using List.getElem?_eq_none_iff.mp this
end
/-- the parts of a value, the locks that keep them -/
theorem good_of {Y : Cz} {σ : St} {env1 : PEnv} {fp fp1 fp2 : Nat → List Addr} {H H1 H2 : Hp} (ok : Y.X.Ok) {e : E} {r : PV × Bool} {w1 : V} {q : Bool} (P1 : Post Y.X σ fp H e r env1 w1 H1 fp1) (t : Stp fp1 H1 fp2 H2) (hs : q = true → Same H1 H2) (hm : q = true → ∀ i b, b ∈ fp2 i → b ∈ fp1 i)
    (hc : (r.1.imm || r.2 || q) = true) : ∃ G, Rp false Y.X H2 r.1 w1 G ∧ Good fp2 r.1 r.2 e.root G := by
  have fx := t.fix P1.sim
  by_cases hi : r.1.imm = true
  · obtain ⟨G, vb⟩ := P1.vb
    exact ⟨[], ((vb.rp.imm (m' := false) hi).2).fix ok fx (fun _ hb => by cases hb), fun _ => rfl, fun _ _ hb => (by cases hb), fun _ hb => (by cases hb)⟩
  · by_cases hf : r.2 = true
    · obtain ⟨F, vo⟩ := P1.vo hf
      have dj : ∀ b ∈ F, ∀ i, b ∉ fp2 i := fun b hb i hi => by
        rcases t.new i b hi with ⟨j, hj⟩ | h0
        · exact vo.dis b hb j hj
        · obtain ⟨o, ho⟩ := vo.rp.trk b hb
          rw [h0] at ho; cases ho
      exact ⟨F, vo.rp.weak.fix ok fx fun b hb o ho => t.frm b o ho fun i hi => vo.dis b hb i hi, fun hi => (vo.rp.imm (m' := true) hi).1, fun _ => dj, fun b hb i hi => absurd hi (dj b hb i)⟩
    · have hq : q = true := by
        simp only [hi, hf, Bool.false_or, Bool.or_eq_true] at hc
        simpa using hc
      obtain ⟨G, vb⟩ := P1.vb
      exact ⟨G, vb.rp.fix ok fx fun b hb o ho => hs hq b o ho, fun hi => (vb.rp.imm (m' := true) hi).1, fun hfr => absurd hfr hf, fun b hb i hi => vb.rt b hb i (hm hq i b hi)⟩
theorem lk_of {X : KX} {σ : St} {env : PEnv} {fp : Nat → List Addr} {H : Hp} (S : Sim X env σ H fp) {e : E} {r : PV × Bool} {G : List Addr} {l : List Nat} (g : Good fp r.1 r.2 e.root G) (hl : locksOf e r = some l) {b : Addr} {j : Nat} (hb : b ∈ G) (hj : b ∈ fp j) : Lkd env l j := by
  have hM : ∃ v, getM env j = some v := by
    cases em : getM env j with
    | none => rw [S.emp j em] at hj; cases hj
    | some v => exact ⟨v, rfl⟩
  unfold locksOf at hl
  split at hl
  · rename_i hc
    rcases Bool.or_eq_true _ _ ▸ hc with hc | hc
    · rw [g.1 hc] at hb; cases hb
    · exact absurd hj (g.2.1 hc b hb j)
  · rw [g.2.2 b hb j hj] at hl
    cases hl
    exact ⟨List.mem_singleton.mpr rfl, hM⟩
theorem lkd_l {env : PEnv} {l k : List Nat} {j : Nat} (h : Lkd env l j) : Lkd env (l ++ k) j := ⟨List.mem_append_left _ h.1, h.2⟩
theorem lkd_r {env : PEnv} {l k : List Nat} {j : Nat} (h : Lkd env k j) : Lkd env (l ++ k) j := ⟨List.mem_append_right _ h.1, h.2⟩
section
variable {Y : Cz} {X : Cx} {tg e e2 : Expr} {ee ef : E} {pos p tpos : Pos}
theorem pi_seq (O : Ok0 Y X) (he : PE X e (RdB Y ee)) : PI X tg e (RdI Y (.seq ee)) := by
  refine PI.mono (PI.or (pi_tup he) (PI.or (pi_list he) (pi_str he))) fun σ H R ⟨env, fp, S, h⟩ => ?_
  unfold itI at h
  cases ev : evB Y.p Y.cf ee env with
  | bad => rw [ev] at h; exact h.elim
  | exc c fs e' => rw [ev] at h; exact .inl ⟨env, fp, S, by rw [ev]; exact h⟩
  | ok r env1 =>
    rw [ev] at h
    have h1 : Hold Y σ fp H (match itemsI r.1, locksOf ee r with | some vs, some l => DI.R.ok (vs, l) env1 | _, _ => .bad) fun a env' => ∀ J H' fp' Gp, PostI Y.X σ fp H (.seq ee) a env' J H' fp' Gp → R J H' := h
    cases ei : itemsI r.1 with
    | none => rw [ei] at h1; exact h1.elim
    | some vs =>
      cases el : locksOf ee r with
      | none => rw [ei, el] at h1; exact h1.elim
      | some l =>
        rw [ei, el] at h1
        have h1 : ∀ J H' fp' Gp, PostI Y.X σ fp H (.seq ee) (vs, l) env1 J H' fp' Gp → R J H' := h1
        have mk : ∀ {w H1 fp1}, Post Y.X σ fp H ee r env1 w H1 fp1 → ∃ G, Rp false Y.X H1 r.1 w G ∧ ∀ J, Walks Y.X H1 (fun b => b ∈ G) J vs → R J H1 := fun {w H1 fp1} P1 => by
          obtain ⟨G, rp, gd⟩ := good_of O.ok P1 (Stp.refl (fp := fp1) (H := H1)) (q := true) (fun _ => same_refl) (fun _ _ _ h => h) (by simp)
          exact ⟨G, rp, fun J wk => h1 J H1 fp1 (fun b => b ∈ G) ⟨P1.sim, P1.stp, P1.same, P1.mono, fun b hb => rp.trk b hb, fun b j hb hj => lk_of P1.sim gd el hb hj, wk⟩⟩
        rw [← O.K]
        obtain ⟨rv, fr⟩ := r
        cases rv with
        | tup us =>
          cases ei
          refine .inl ⟨env, fp, S, ?_⟩
          rw [ev]
          intro w H1 fp1 P1
          obtain ⟨G, rp, k⟩ := mk P1
          obtain ⟨a, ws, rfl, hs, rl⟩ := rp_tup' rp
          exact ⟨a, rfl, ⟨ws, hs⟩, k _ (walk_tup O.ok hs rl)⟩
        | lst us =>
          cases ei
          refine .inr (.inl ⟨env, fp, S, ?_⟩)
          rw [ev]
          intro w H1 fp1 P1
          obtain ⟨G, rp, k⟩ := mk P1
          obtain ⟨a, ws, G0, rfl, hs, rl⟩ := rp_lst' rp
          exact ⟨a, rfl, ⟨ws, hs.sq⟩, k _ (walk_lst O.ok hs rl)⟩
        | str z =>
          cases ei
          refine .inr (.inr ⟨env, fp, S, ?_⟩)
          rw [ev]
          intro w H1 fp1 P1
          obtain ⟨G, rp, k⟩ := mk P1
          exact ⟨z, rp_str' rp, k _ walk_str⟩
        | _ => cases ei
theorem pi_rev (O : Ok0 Y X) (hg : Gl X "reversed") (hm : X.mg "reversed" = none) (he : PE X e (RdB Y ee)) (hs : starEach [e] X.env = (false, eval e X.env) :: starEach [] X.env) : PI X tg (.Call (.Name "reversed" p) [e] [] pos) (RdI Y (.rev ee)) := by
  refine PI.mono (RT.pi_revA hg hm he hs) fun σ H R ⟨env, fp, S, h⟩ => ?_
  unfold itI at h
  refine ⟨env, fp, S, h.bind.imp fun r env1 h1 w H1 fp1 P1 => ?_⟩
  cases ei : seqI r.1 with
  | none => rw [ei] at h1; exact h1.elim
  | some vs =>
    cases el : locksOf ee r with
    | none => rw [ei, el] at h1; exact h1.elim
    | some l =>
      rw [ei, el] at h1
      have h1 : ∀ J H' fp' Gp, PostI Y.X σ fp H (.rev ee) (vs.reverse, l) env1 J H' fp' Gp → R J H' := h1
      obtain ⟨G, rp, gd⟩ := good_of O.ok P1 (Stp.refl (fp := fp1) (H := H1)) (q := true) (fun _ => same_refl) (fun _ _ _ h => h) (by simp)
      have mk : ∀ J, Walks Y.X H1 (fun b => b ∈ G) J vs.reverse → R J H1 := fun J wk => h1 J H1 fp1 (fun b => b ∈ G) ⟨P1.sim, P1.stp, P1.same, P1.mono, fun b hb => rp.trk b hb, fun b j hb hj => lk_of P1.sim gd el hb hj, wk⟩
      rw [← O.K]
      obtain ⟨rv, fr⟩ := r
      cases rv with
      | tup us =>
        cases ei
        obtain ⟨a, ws, rfl, hs, rl⟩ := rp_tup' rp
        exact ⟨a, ws, rfl, .inr ⟨hs, mk _ (walk_tupR O.ok hs rl)⟩⟩
      | lst us =>
        cases ei
        obtain ⟨a, ws, G0, rfl, hs, rl⟩ := rp_lst' rp
        exact ⟨a, ws, rfl, .inl ⟨hs.sq, mk _ (walk_lstR O.ok hs rl)⟩⟩
      | _ => cases ei
theorem fits62_ok {i : Int} (h : fits62 i = true) : -(2 ^ 62) ≤ i ∧ i < 2 ^ 62 := by
  cases i with
  | ofNat n =>
    have := Nat.le_of_ble_eq_true (show Nat.ble n 4611686018427387903 = true from h)
    have e : Int.ofNat n = (n : Int) := rfl
    rw [e]
    omega
  | negSucc n =>
    have := Nat.le_of_ble_eq_true (show Nat.ble n 4611686018427387903 = true from h)
    rw [Int.negSucc_eq]
    omega
theorem evA_len {p : Prog} {cf : Str → List PV → CR} : ∀ {es : List E} {env env' : PEnv} {vs : List PV}, evA p cf es env = .ok vs env' → vs.length = es.length
  | [], env, env', vs, h => by unfold evA at h; cases h; rfl
  | e :: es, env, env', vs, h => by
    unfold evA at h
    cases e1 : evB p cf e env with
    | bad => rw [e1] at h; cases h
    | exc c fs x => rw [e1] at h; cases h
    | ok r env1 =>
      rw [e1] at h
      have h : (if (r.1.imm || r.2 || quietL es) = true then (evA p cf es env1).bind fun vs env => .ok (r.1 :: vs) env else .bad) = .ok vs env' := h
      split at h
      · cases e2 : evA p cf es env1 with
        | bad => rw [e2] at h; cases h
        | exc c fs x => rw [e2] at h; cases h
        | ok us env2 => rw [e2] at h; cases h; simp [evA_len e2]
      · cases h
/-- a range's ends -/
theorem rd_range (O : Ok0 Y X) {es : List E} {σ : St} {H : Hp} {R : L2.It → Hp → Prop} (h : RdI Y (.range es) σ H R) : RdA Y es σ H fun ws H1 => ∃ vs xs G, vs.length = es.length ∧ rangeI vs = some xs ∧ RpL false Y.X H1 vs ws G ∧ ∀ J, (∀ Zp, Walks Y.X H1 Zp J xs) → R J H1 := by
  obtain ⟨env, fp, S, h⟩ := h
  unfold itI at h
  refine ⟨env, fp, S, ?_⟩
  cases ev : evA Y.p Y.cf es env with
  | bad => rw [ev] at h; exact h
  | exc c fs e' => rw [ev] at h; exact h
  | ok vs env1 =>
    rw [ev] at h
    intro ws H1 fp1 P1
    have h : Hold Y σ fp H (opt ((rangeI vs).map fun xs => (xs, [])) env1) fun a env' => ∀ J H' fp' Gp, PostI Y.X σ fp H (.range es) a env' J H' fp' Gp → R J H' := h
    obtain ⟨a, ea, hΦ⟩ := h.opt
    cases er : rangeI vs with
    | none => rw [er] at ea; cases ea
    | some xs =>
      rw [er] at ea
      cases ea
      obtain ⟨G, r⟩ := P1.vb
      exact ⟨vs, xs, G, evA_len ev, er, r, fun J wk => hΦ J H1 fp1 (fun _ => False) ⟨P1.sim, P1.stp, P1.same, P1.mono, fun _ hb => hb.elim, fun _ _ hb => hb.elim, wk _⟩⟩
theorem pi_r1 (O : Ok0 Y X) (hg : Gl X "range") (hm : X.mg "range" = none) (ha : Alls Y X [e] [ee]) : PI X tg (.Call (.Name "range" p) [e] [] pos) (RdI Y (.range [ee])) := by
  have hs : starEach [e] X.env = [(false, eval e X.env)] := by
    cases ha; assumption
  refine PI.mono (pi_range1 hg hm (pa_A O ha) hs) fun σ H R h => ?_
  obtain ⟨env, fp, S, h⟩ := rd_range O h
  refine ⟨env, fp, S, h.imp fun a env' k ws H1 fp1 P1 => ?_⟩
  obtain ⟨vs, xs, G, hl, er, r, q⟩ := k ws H1 fp1 P1
  match vs, er, hl, r with
  | [.int n], er, hl, r =>
    have er : (if fits62 n = true then some (rangeL 0 n.toNat) else none) = some xs := er
    split at er
    · rename_i hf
      cases er
      obtain ⟨w, rfl, rw'⟩ := rpL_one r
      obtain ⟨f1, f2⟩ := fits62_ok hf
      exact ⟨n, by rw [rp_int' rw'], f1, f2, q _ fun Zp => walk_range⟩
    · cases er
  | [.int _, .int _], er, hl, r => cases hl
  | [.int _, .int _, .int _], er, hl, r => cases hl
theorem pi_r2 (O : Ok0 Y X) (hg : Gl X "range") (hm : X.mg "range" = none) (ha : Alls Y X [e, e2] [ee, ef]) : PI X tg (.Call (.Name "range" p) [e, e2] [] pos) (RdI Y (.range [ee, ef])) := by
  have hs : starEach [e, e2] X.env = [(false, eval e X.env), (false, eval e2 X.env)] ∧ starEach [e2] X.env = [(false, eval e2 X.env)] := by
    cases ha with
    | cons _ h1 t =>
      cases t with
      | cons _ h2 t => exact ⟨by rw [h1, h2]; rfl, h2⟩
  refine PI.mono (pi_range2 hg hm (pa_A O ha) hs.1 hs.2) fun σ H R h => ?_
  obtain ⟨env, fp, S, h⟩ := rd_range O h
  refine ⟨env, fp, S, h.imp fun a env' k ws H1 fp1 P1 => ?_⟩
  obtain ⟨vs, xs, G, hl, er, r, q⟩ := k ws H1 fp1 P1
  match vs, er, hl, r with
  | [.int _], er, hl, r => cases hl
  | [.int _, .int _, .int _], er, hl, r => cases hl
  | [.int m, .int n], er, hl, r =>
    have er : (if (fits62 m && fits62 n) = true then some (rangeL m (n - m).toNat) else none) = some xs := er
    split at er
    · rename_i hf
      cases er
      unfold RpL at r
      obtain ⟨w, ws', F1, F2, rfl, _, r1, r2⟩ := r
      obtain ⟨w2, rfl, rw2⟩ := rpL_one r2
      obtain ⟨f1, f2⟩ := fits62_ok (and_l hf)
      obtain ⟨f3, f4⟩ := fits62_ok (and_r hf)
      exact ⟨m, n, by rw [rp_int' r1, rp_int' rw2], ⟨f1, f2, f3, f4⟩, q _ fun Zp => walk_range⟩
    · cases er
theorem rangeC_get {c : Int} : ∀ {lo : Int} {n i : Nat}, (rangeC lo c n)[i]? = if i < n then some (.int (lo + i * c)) else none
  | lo, 0, i => by simp [rangeC]
  | lo, n + 1, 0 => by simp [rangeC]
  | lo, n + 1, i + 1 => by
    show (rangeC (lo + c) c n)[i]? = _
    rw [rangeC_get]
    by_cases h : i < n
    · rw [if_pos h, if_pos (by omega)]
      congr 2
      push_cast
      rw [Int.add_mul, Int.one_mul]
      omega
    · rw [if_neg h, if_neg (by omega)]
theorem walk_rangeC {X : KX} {H1 : Hp} {lo c : Int} {n : Nat} {Zp : Addr → Prop} : Walks X H1 Zp (Itc lo c n) (rangeC lo c n) := by
  intro H lk i
  rw [rangeC_get]
  refine ⟨fun v hv => ?_, fun hn => ?_⟩
  · split at hv
    · rename_i hi
      cases hv
      refine ⟨hi, fun x H' hy => ?_⟩
      obtain ⟨rfl, rfl⟩ := hy
      exact ⟨same_refl, [], rp_intI⟩
    · cases hv
  · split at hn
    · cases hn
    · rename_i hi
      show n ≤ i
      omega
theorem rpL_three {m : Bool} {X : KX} {H : Hp} {a b c : Int} {ws : List V} {G : List Addr} (r : RpL m X H [.int a, .int b, .int c] ws G) : ws = [.int a, .int b, .int c] := by
  unfold RpL at r
  obtain ⟨w, ws', F1, F2, rfl, _, r1, r2⟩ := r
  unfold RpL at r2
  obtain ⟨w2, ws2, F3, F4, rfl, _, r3, r4⟩ := r2
  obtain ⟨w3, rfl, r5⟩ := rpL_one r4
  rw [rp_int' r1, rp_int' r3, rp_int' r5]
theorem pi_r3 (O : Ok0 Y X) {e3 : Expr} {eg : E} (hg : Gl X "range") (hm : X.mg "range" = none) (ha : Alls Y X [e, e2, e3] [ee, ef, eg]) : PI X tg (.Call (.Name "range" p) [e, e2, e3] [] pos) (RdI Y (.range [ee, ef, eg])) := by
  have hs : starEach [e, e2, e3] X.env = (false, eval e X.env) :: starEach [e2, e3] X.env := by cases ha; assumption
  have h2 : (backTo pos (starEach [e2, e3] X.env)).any (·.1) = false := by cases ha with | cons _ _ t => exact t.plain
  refine PI.mono (pi_range3 hg hm (pa_A O ha) hs h2) fun σ H R h => ?_
  obtain ⟨env, fp, S, h⟩ := rd_range O h
  refine ⟨env, fp, S, h.imp fun a env' k ws H1 fp1 P1 => ?_⟩
  obtain ⟨vs, xs, G, hl, er, r, q⟩ := k ws H1 fp1 P1
  match vs, er, hl, r with
  | [.int _], er, hl, r => cases hl
  | [.int _, .int _], er, hl, r => cases hl
  | [.int a, .int b, .int c], er, hl, r =>
    have er : (if c ≠ 0 ∧ c.natAbs < 1073741824 ∧ Builtin.Range.small a b c = true ∧ Builtin.Range.rangeSize a b c = ((Builtin.Range.rangeSize a b c).toNat : Nat) then some (rangeC a c (Builtin.Range.rangeSize a b c).toNat) else none) = some xs := er
    split at er
    · rename_i hf
      cases er
      exact ⟨a, b, c, _, rpL_three r, hf, q _ fun Zp => walk_rangeC⟩
    · cases er
theorem pi_z (O : Ok0 Y X) {elts : List Expr} {kk : Nat} (hg : Gl X "zip") (hm : X.mg "zip" = none) (h1 : PE X e (RdB Y ee)) (h2 : PE X e2 (RdB Y ef)) (hs : starEach [e, e2] X.env = (false, eval e X.env) :: starEach [e2] X.env) (hs2 : starEach [e2] X.env = (false, eval e2 X.env) :: starEach [] X.env) (hpl : (backTo pos (starEach [e2] X.env)).any (·.1) = false) :
    PI X (.Tuple elts kk tpos) (.Call (.Name "zip" p) [e, e2] [] pos) (RdI Y (.zip ee ef)) := by
  refine PI.mono (RZ.pi_zipA hg hm (pa_cons h1 (pa_cons h2 pa_nil hs2) hs) hs hpl) fun σ H R ⟨env, fp, S, h⟩ => ?_
  unfold itI at h
  refine ⟨env, fp, S, h.bind.imp fun r env1 hr x H1 fp1 P1 => ?_⟩
  obtain ⟨hc, hr⟩ := hr.ite
  refine ⟨env1, fp1, P1.sim, (hr.bind' P1.stp).imp fun q env2 hq y H2 fp2 P2 => ?_⟩
  cases ev : zipI r.1 q.1 with
  | none => rw [ev] at hq; exact hq.elim
  | some xs =>
    cases el : locksOf ee r with
    | none => rw [ev, el] at hq; exact hq.elim
    | some l =>
      cases ek : locksOf ef q with
      | none => rw [ev, el, ek] at hq; exact hq.elim
      | some k =>
        rw [ev, el, ek] at hq
        have hq : ∀ J H' fp' Gp, PostI Y.X σ fp H (.zip ee ef) (xs, l ++ k) env2 J H' fp' Gp → R J H' := hq
        obtain ⟨G1, rp1, gd1⟩ := good_of O.ok P1 P2.stp P2.same P2.mono hc
        obtain ⟨G2, rp2, gd2⟩ := good_of O.ok P2 (Stp.refl (fp := fp2) (H := H2)) (q := true) (fun _ => same_refl) (fun _ _ _ h => h) (by simp)
        have mk : ∀ J, Walks Y.X H2 (fun b => b ∈ G1 ++ G2) J xs → R J H2 := fun J wk => hq J H2 fp2 (fun b => b ∈ G1 ++ G2) ⟨P2.sim, P1.stp.trans P2.stp, fun e => same_trans (P1.same (and_l e)) (P2.same (and_r e)), fun e i b hb => P1.mono (and_l e) i b (P2.mono (and_r e) i b hb), fun b hb => (List.mem_append.mp hb).elim (rp1.trk b) (rp2.trk b),
          fun b j hb hj => (List.mem_append.mp hb).elim (fun hb => lkd_l (lk_of P2.sim gd1 el hb hj)) (fun hb => lkd_r (lk_of P2.sim gd2 ek hb hj)), wk⟩
        have kl : ∀ H, LkH H2 (fun c => c ∈ G1 ++ G2) H → LkH H2 (fun c => c ∈ G1) H := fun H h => ⟨h.1, fun b hb => h.2 b (List.mem_append_left _ hb)⟩
        have kr : ∀ H, LkH H2 (fun c => c ∈ G1 ++ G2) H → LkH H2 (fun c => c ∈ G2) H := fun H h => ⟨h.1, fun b hb => h.2 b (List.mem_append_right _ hb)⟩
        rw [← O.K]
        obtain ⟨rv, fr⟩ := r
        obtain ⟨qv, fq⟩ := q
        cases rv with
        | tup vs =>
          cases qv <;> try (cases ev; done)
          rename_i us
          cases ev
          obtain ⟨a, ws, rfl, hs1, rl1⟩ := rp_tup' rp1
          obtain ⟨b, zs, rfl, hs2, rl2⟩ := rp_tup' rp2
          refine ⟨a, b, ws, zs, rfl, .inr ⟨hs1, hs2, mk _ (walk_zip O.ok (sq := fun H a xs => SqT Y.X.K H a xs) (a := a) (b := b) (ws := ws) (zs := zs) (fun i H x y h1 h2 e1 e2 => ⟨ws, zs, x, y, h1, h2, e1, e2⟩) (fun i H h1 h2 h3 => ⟨ws, zs, h1, h2, h3⟩)
            (fun i H v H' h1 h2 hy => ?_) (fun H lk => ⟨sqT_fix hs1 lk.1, rl1.fix O.ok lk.1 (kl H lk).2⟩) (fun H lk => ⟨sqT_fix hs2 lk.1, rl2.fix O.ok lk.1 (kr H lk).2⟩) rl1.length rl2.length)⟩⟩
          obtain ⟨T, x, y, e1, e2, e3, f1, f2⟩ := hy
          exact ⟨T, x, y, e1, e2, e3, f1 _ h1, f2 _ h2⟩
        | lst vs =>
          cases qv <;> try (cases ev; done)
          rename_i us
          cases ev
          obtain ⟨a, ws, G01, rfl, hs1, rl1⟩ := rp_lst' rp1
          obtain ⟨b, zs, G02, rfl, hs2, rl2⟩ := rp_lst' rp2
          have w1 := fun H (lk : LkH H2 (fun c => c ∈ G1 ++ G2) H) => (hs1.fix (H' := H) (kl H lk).2)
          have w2 := fun H (lk : LkH H2 (fun c => c ∈ G1 ++ G2) H) => (hs2.fix (H' := H) (kr H lk).2)
          have e0 : ∀ {H v H'} {i : Nat}, SqL Y.X.K H a ws → SqL Y.X.K H b zs → (Itz Y.X.K a b).yld i H v H' → ∃ T x y, v = .ref T ∧ H T = none ∧ H' = upd H T (.tup [x, y]) ∧ ws[i]? = some x ∧ zs[i]? = some y := fun h1 h2 hy => by
            obtain ⟨T, x, y, e1, e2, e3, f1, f2⟩ := hy
            exact ⟨T, x, y, e1, e2, e3, f1 _ h1, f2 _ h2⟩
          refine ⟨a, b, ws, zs, rfl, .inl ⟨hs1.sq, hs2.sq, mk _ fun H lk i => ?_⟩⟩
          have r1' := rl1.fix O.ok lk.1 fun b hb => (kl H lk).2 b (hs1.sub b hb)
          have r2' := rl2.fix O.ok lk.1 fun b hb => (kr H lk).2 b (hs2.sub b hb)
          have s1 := (w1 H lk).sq
          have s2 := (w2 H lk).sq
          refine ⟨fun v hv => ?_, fun hn => ?_⟩
          · rw [zipL_get] at hv
            cases ev : vs[i]? with
            | none => rw [ev] at hv; cases hv
            | some v1 =>
              cases eu : us[i]? with
              | none => rw [ev, eu] at hv; cases hv
              | some v2 =>
                rw [ev, eu] at hv
                cases hv
                obtain ⟨x1, _, Gv, _, e1, _, rv, _, _⟩ := r1'.at ev
                obtain ⟨x2, _, Gu, _, e2, _, ru, _, _⟩ := r2'.at eu
                refine ⟨⟨ws, zs, _, _, s1, s2, e1, e2⟩, fun x H' hy => ?_⟩
                obtain ⟨T, x', y', rfl, hT, rfl, f1, f2⟩ := e0 s1 s2 hy
                rw [e1] at f1
                rw [e2] at f2
                cases f1
                cases f2
                exact ⟨same_upd hT, _, rp_pair O.ok rv ru hT⟩
          · rw [zipL_get] at hn
            refine ⟨ws, zs, s1, s2, ?_⟩
            cases ev : vs[i]? with
            | none => exact .inl (by rw [← rl1.length]; exact List.getElem?_eq_none_iff.mp ev)
            | some v1 =>
              cases eu : us[i]? with
              | none => exact .inr (by rw [← rl2.length]; exact List.getElem?_eq_none_iff.mp eu)
              | some v2 => rw [ev, eu] at hn; cases hn
        | _ => cases ev
end
end DI
set_option Elab.async false
set_option linter.all false
set_option maxRecDepth 100000
set_option maxHeartbeats 1000000
/-! DIS20: loops over what is walked, comprehensions. -/
namespace DI
open PySem PySem.Spec PyProof.Rows L2

section
variable {Y : Cz} {X : Cx} {tg it e : Expr} {pos : Pos}
theorem lk_stp {X : KX} {env : PEnv} {σ : St} {fp fp' : Nat → List Addr} {H H' : Hp} {Gp : Addr → Prop} (S : Sim X env σ H fp) (t : Stp fp H fp' H') (hz : ∀ b, Gp b → X.Z b) : LkH H Gp H' := ⟨t.fix S, fun b hb o ho => t.frm b o ho fun i hi => S.zd i b hi (hz b hb)⟩
theorem unlock_body {Y : Cz} {env0 : PEnv} {l : List Nat} {fp : Nat → List Addr} {H : Hp} {D : Ends} {r : SR} (h : HoldS Y fp H (r.unlock env0 l) D) :
    match r with
    | .nx env => ∃ env', unlockS env0 env l = some env' ∧ HoldS Y fp H (.nx env') D
    | .brk env => ∃ env', unlockS env0 env l = some env' ∧ HoldS Y fp H (.brk env') D
    | .cnt env => ∃ env', unlockS env0 env l = some env' ∧ HoldS Y fp H (.cnt env') D
    | .ret v env => ∃ env', unlockS env0 env l = some env' ∧ HoldS Y fp H (.ret v env') D
    | .exc c fs env => ∃ env', unlockS env0 env l = some env' ∧ HoldS Y fp H (.exc c fs env') D
    | .bad => False := by
  cases r with
  | nx env =>
    have h : HoldS Y fp H (match unlockS env0 env l with | some env' => .nx env' | none => .bad) D := h
    cases e : unlockS env0 env l with
    | none => rw [e] at h; exact h.elim
    | some env' => rw [e] at h; exact ⟨env', e, h⟩
  | brk env =>
    have h : HoldS Y fp H (match unlockS env0 env l with | some env' => .brk env' | none => .bad) D := h
    cases e : unlockS env0 env l with
    | none => rw [e] at h; exact h.elim
    | some env' => rw [e] at h; exact ⟨env', e, h⟩
  | cnt env =>
    have h : HoldS Y fp H (match unlockS env0 env l with | some env' => .cnt env' | none => .bad) D := h
    cases e : unlockS env0 env l with
    | none => rw [e] at h; exact h.elim
    | some env' => rw [e] at h; exact ⟨env', e, h⟩
  | ret v env =>
    have h : HoldS Y fp H (match unlockS env0 env l with | some env' => .ret v env' | none => .bad) D := h
    cases e : unlockS env0 env l with
    | none => rw [e] at h; exact h.elim
    | some env' => rw [e] at h; exact ⟨env', e, h⟩
  | exc c fs env =>
    have h : HoldS Y fp H (match unlockS env0 env l with | some env' => .exc c fs env' | none => .bad) D := h
    cases e : unlockS env0 env l with
    | none => rw [e] at h; exact h.elim
    | some env' => rw [e] at h; exact ⟨env', e, h⟩
  | bad => exact h
/-- with something else lent -/
abbrev Cz.sub (Y : Cz) (Z : Addr → Prop) (R : Nat → Option V) (Q : Nat → PV → V → List Addr → Prop) : Cz := ⟨sX Y.X Z R Q, Y.p, Y.cf, Y.fu, Y.W, Y.er⟩
/-- read behind a lock as ahead of it -/
theorem hold_locked (ok : Y.X.Ok) {env : PEnv} {σ : St} {fp : Nat → List Addr} {H : Hp} {fp0 : Nat → List Addr} {H0 : Hp} {l : List Nat} {Gp : Addr → Prop} {D : Ends} {r : SR} (S : Sim Y.X env σ H fp) (t : Stp fp0 H0 fp H) (h : HoldS Y fp0 H0 (r.unlock env l) D) :
    HoldS ⟨lockX Y.X env l fp σ Gp, Y.p, Y.cf, Y.fu, Y.W, Y.er⟩ (fpL env l fp) H r D := by
  have h1 := unlock_body h
  have go : ∀ {σ' env1 env' H' fp'}, Sim (lockX Y.X env l fp σ Gp) env1 σ' H' fp' → Stp (fpL env l fp) H fp' H' → unlockS env env1 l = some env' → Sim Y.X env' σ' H' (fpU env l fp fp') ∧ Stp fp0 H0 (fpU env l fp fp') H' := fun S' t' hu => by
    obtain ⟨q1, q2⟩ := Sim.unlock ok S S' t' hu
    exact ⟨q1, t.trans q2⟩
  cases r with
  | nx env1 =>
    obtain ⟨env', hu, h1⟩ := h1
    intro σ' H' fp' S' t'
    obtain ⟨q1, q2⟩ := go S' t' hu
    exact h1 σ' H' _ q1 q2
  | brk env1 =>
    obtain ⟨env', hu, h1⟩ := h1
    intro σ' H' fp' S' t'
    obtain ⟨q1, q2⟩ := go S' t' hu
    exact h1 σ' H' _ q1 q2
  | cnt env1 =>
    obtain ⟨env', hu, h1⟩ := h1
    intro σ' H' fp' S' t'
    obtain ⟨q1, q2⟩ := go S' t' hu
    exact h1 σ' H' _ q1 q2
  | exc c fs env1 =>
    obtain ⟨env', hu, h1⟩ := h1
    intro σ' cls d H' fp' S' t' e
    obtain ⟨q1, q2⟩ := go S' t' hu
    exact h1 σ' cls d H' _ q1 q2 e
  | ret v env1 =>
    obtain ⟨env', hu, h1⟩ := h1
    intro w F σ' H' fp' S' t' vo
    obtain ⟨q1, q2⟩ := go S' t' hu
    have inL : ∀ b ∈ F, ∀ j, Lkd env l j → b ∉ fp j := fun b hb j hj hbj => by
      rcases vo.new b hb with ⟨k, hk⟩ | h0
      · obtain ⟨hn, hk⟩ := fpL_mem hk
        exact hn (by rw [S.dis k j b hk hbj]; exact hj)
      · obtain ⟨o, ho, _⟩ := S.owned hbj
        rw [h0] at ho; cases ho
    refine h1 w F σ' H' _ q1 q2 ⟨Rp.sub.mpr vo.rp, vo.nd, fun b hb j hj => ?_, fun b hb => t.fresh ((vo.new b hb).imp (fun ⟨k, hk⟩ => ⟨k, (fpL_mem hk).2⟩) fun h => h), fun b hb hz => vo.z b hb (.inl hz)⟩
    unfold fpU at hj
    split at hj
    · rename_i hk; exact inL b hb j hk hj
    · exact vo.dis b hb j hj
  | bad => exact h1
theorem ps_fr {DIit : DI.It} {t : Tg} {as : List Stmt} {ss : List S} (O : Ok0 Y X) (hc : X.calm = true) (hp : PassesOwn (model X.prog X.w) X.A X.env X.xe) (hi : PI X tg it (RdI Y DIit)) (hg : ∀ Z R Q, PG X tg (RdG (Y.sub Z R Q) PT0 t)) (hb : ∀ Z R Q, PSs X as (RdSs (Y.sub Z R Q) ss))
    (hs : ∀ x, foldedSetIterable it X.env x = pure x) : PS X (.For tg it as [] pos) (RdS Y (.for t DIit ss)) := by
  have hg' : PG X tg (fun v σ H Q => ∃ Z R Q', RdG (Y.sub Z R Q') PT0 t v σ H Q) := ⟨fun pins s σ H v u Q I r ⟨Z, R, Q', h⟩ => (hg Z R Q').run pins s σ H v u Q I r h⟩
  have hb' : PSs X as (fun D σ H => ∃ Z R Q', RdSs (Y.sub Z R Q') ss D σ H) := ⟨fun pins s σ H D I ⟨Z, R, Q', h⟩ => (hb Z R Q').run pins s σ H D I h⟩
  refine PS.mono (ps_for hp hc hi hg' hb' hs) fun D σ H ⟨env, fp, S, h⟩ => ?_
  unfold exS at h
  refine ⟨env, fp, S, h.st.imp fun a env1 h1 J H1 fp1 Gp P1 => ?_⟩
  have SL := P1.sim.lock P1.g1 (fun b j hb hj => P1.g2 b j hb hj)
  have hL := hold_locked (Gp := Gp) O.ok P1.sim P1.stp h1
  generalize hXL : lockX Y.X env1 a.2 fp1 σ Gp = XL at SL hL
  have hZ : ∀ b, Gp b → XL.Z b := fun b hb => by rw [← hXL]; exact .inr (.inr hb)
  have hsub : (⟨XL, Y.p, Y.cf, Y.fu, Y.W, Y.er⟩ : Cz) = Y.sub XL.Z XL.R XL.Q := by rw [← hXL]; rfl
  have okL : XL.Ok := by rw [← hXL]; exact O.ok
  refine ⟨fun i m σ' H' => m = a.1.length - i ∧ i ≤ a.1.length ∧ ∃ env' fp', Sim XL env' σ' H' fp' ∧ Stp (fpL env1 a.2 fp1) H1 fp' H' ∧ HoldS ⟨XL, Y.p, Y.cf, Y.fu, Y.W, Y.er⟩ (fpL env1 a.2 fp1) H1 (forI (bindT false t) (exSs Y.p Y.cf Y.fu ss) (a.1.drop i) env') D,
    ⟨a.1.length, by simp, Nat.zero_le _, _, _, SL, Stp.refl, hL⟩, ?_⟩
  rintro i m σ' H' ⟨rfl, hi', env', fp', S', t', h'⟩
  have wk := P1.wk H' (lk_stp SL t' hZ) i
  by_cases hlt : i < a.1.length
  · have ev := List.getElem?_eq_getElem hlt
    obtain ⟨go, yl⟩ := wk.1 _ ev
    have ed : a.1.drop i = a.1[i] :: a.1.drop (i + 1) := List.drop_eq_getElem_cons hlt
    rw [ed] at h'
    unfold forI at h'
    cases hbd : bindT false t a.1[i] env' with
    | none => rw [hbd] at h'; exact h'.elim
    | some env2 =>
      rw [hbd] at h'
      dsimp only at h'
      refine .inr ⟨go, fun σ2 H2 => ∃ env3 fp3, Sim XL env3 σ2 H2 fp3 ∧ Stp (fpL env1 a.2 fp1) H1 fp3 H2 ∧ HoldS ⟨XL, Y.p, Y.cf, Y.fu, Y.W, Y.er⟩ (fpL env1 a.2 fp1) H1 (forI (bindT false t) (exSs Y.p Y.cf Y.fu ss) (a.1.drop (i + 1)) env3) D, fun σ2 H2 ⟨env3, fp3, q1, q2, q3⟩ => ⟨a.1.length - (i + 1), by omega, rfl, hlt, env3, fp3, q1, q2, q3⟩, fun x H2 hy => ?_⟩
      obtain ⟨s2, G, rx⟩ := yl x H2 hy
      have S2 := S'.same okL s2
      have t2 := t'.trans (Stp.same s2)
      refine ⟨XL.Z, XL.R, XL.Q, env', fp', a.1[i], G, env2, by rw [← hsub]; exact S2, hbd, by rw [← hsub]; rw [← hXL]; exact Rp.sub.mp rx, fun σ3 fp3 S3 t3 _ => ?_⟩
      refine ⟨XL.Z, XL.R, XL.Q, env2, fp3, S3, ?_⟩
      rw [← hsub] at S3 ⊢
      have t3' := t2.trans t3
      have h3 := HoldS.body (Y := ⟨XL, Y.p, Y.cf, Y.fu, Y.W, Y.er⟩) (kn := forI (bindT false t) (exSs Y.p Y.cf Y.fu ss) (a.1.drop (i + 1))) (kc := forI (bindT false t) (exSs Y.p Y.cf Y.fu ss) (a.1.drop (i + 1))) (kb := .nx) h' t3'
      revert h3
      cases exSs Y.p Y.cf Y.fu ss env2 with
      | nx env => exact fun h' => h'
      | cnt env => exact fun h' => h'
      | brk env =>
        intro h' σ' H' fp' S' t'
        obtain ⟨env2, fp2, S2, t2, h2⟩ := h' σ' H' fp' S' t'
        exact h2 σ' H' fp2 S2 t2
      | ret v env => exact fun h' => h'
      | exc c fs env => exact fun h' => h'
      | bad => exact fun h' => h'
  · have ei : i = a.1.length := by omega
    have en : a.1[i]? = none := List.getElem?_eq_none (by omega)
    have ed : a.1.drop i = [] := List.drop_eq_nil_of_le (by omega)
    rw [ed] at h'
    unfold forI at h'
    exact .inl ⟨wk.2 en, h' σ' H' fp' S' t'⟩
end
end DI
set_option Elab.async false
set_option linter.all false
set_option maxRecDepth 100000
set_option maxHeartbeats 1000000
/-! DIS21: list comprehensions. -/
namespace DI
open PySem PySem.Spec PyProof.Rows L2

theorem wipeS_len : ∀ (own : List Nat) (env : PEnv), (wipeS env own).length = env.length
  | [], env => rfl
  | i :: is, env => by
    show ((wipeS env is).set i .un).length = _
    rw [List.length_set, wipeS_len is]
theorem wipeS_at : ∀ (own : List Nat) (env : PEnv) (j : Nat), (j ∈ own → j < env.length → (wipeS env own)[j]? = some .un) ∧ (j ∉ own → (wipeS env own)[j]? = env[j]?)
  | [], env, j => ⟨fun h => (by cases h), fun _ => rfl⟩
  | i :: is, env, j => by
    obtain ⟨h1, h2⟩ := wipeS_at is env j
    refine ⟨fun hm hl => ?_, fun hn => ?_⟩
    · show ((wipeS env is).set i .un)[j]? = _
      by_cases e : j = i
      · subst e
        rw [List.getElem?_set_self (by rw [wipeS_len]; exact hl)]
      · rw [List.getElem?_set_ne (Ne.symm e)]
        exact h1 ((List.mem_cons.mp hm).resolve_left e) hl
    · show ((wipeS env is).set i .un)[j]? = _
      rw [List.getElem?_set_ne (fun e => hn (by rw [← e]; exact List.mem_cons_self))]
      exact h2 fun h => hn (List.mem_cons_of_mem _ h)
theorem wipe_at : ∀ (own : List Nat) (σ : St) (j : Nat), (j ∉ own → (wipe σ own)[j]? = σ[j]?)
  | [], σ, j => fun _ => rfl
  | i :: is, σ, j => fun hn => by
    show ((wipe σ is).set i none)[j]? = _
    rw [List.getElem?_set_ne (fun e => hn (by rw [← e]; exact List.mem_cons_self))]
    exact wipe_at is σ j fun h => hn (List.mem_cons_of_mem _ h)
theorem wipe_set : ∀ (own : List Nat) (σ : St) (i : Nat) (x : Option V), (i ∈ own → wipe (σ.set i x) own = wipe σ own) ∧ (i ∉ own → wipe (σ.set i x) own = (wipe σ own).set i x)
  | [], σ, i, x => ⟨fun h => (by cases h), fun _ => rfl⟩
  | k :: ks, σ, i, x => by
    obtain ⟨h1, h2⟩ := wipe_set ks σ i x
    refine ⟨fun hm => ?_, fun hn => ?_⟩
    · show (wipe (σ.set i x) ks).set k none = (wipe σ ks).set k none
      by_cases hk : i ∈ ks
      · rw [h1 hk]
      · have e : i = k := (List.mem_cons.mp hm).resolve_right hk
        subst e
        rw [h2 hk, List.set_set]
    · show (wipe (σ.set i x) ks).set k none = ((wipe σ ks).set k none).set i x
      rw [h2 fun h => hn (List.mem_cons_of_mem _ h)]
      rw [List.set_comm _ _ (fun e => hn (by rw [← e]; exact List.mem_cons_self))]
theorem wipe_wipe : ∀ (own : List Nat) (σ : St), wipe (wipe σ own) own = wipe σ own := by
  intro own σ
  have key : ∀ (os : List Nat) (τ : St), (∀ j ∈ os, τ[j]? = none ∨ τ[j]? = some none) → wipe τ os = τ := by
    intro os
    induction os with
    | nil => intro τ _; rfl
    | cons k ks ih =>
      intro τ h
      show (wipe τ ks).set k none = τ
      rw [ih τ fun j hj => h j (List.mem_cons_of_mem _ hj)]
      apply List.ext_getElem?
      intro j
      by_cases e : j = k
      · subst e
        rcases h j List.mem_cons_self with h | h
        · have hl := List.getElem?_eq_none_iff.mp h
          rw [h]
          exact List.getElem?_eq_none (by simpa using hl)
        · have hl : j < τ.length := by
            rcases Nat.lt_or_ge j τ.length with z | z
            · exact z
            · rw [List.getElem?_eq_none z] at h; cases h
          rw [List.getElem?_set_self hl, h]
      · rw [List.getElem?_set_ne (Ne.symm e)]
  have isn : ∀ (os : List Nat) (j : Nat), j ∈ os → (wipe σ os)[j]? = none ∨ (wipe σ os)[j]? = some none := by
    intro os
    induction os with
    | nil => intro j h; cases h
    | cons k ks ih =>
      intro j h
      show ((wipe σ ks).set k none)[j]? = none ∨ ((wipe σ ks).set k none)[j]? = some none
      by_cases e : j = k
      · subst e
        rcases Nat.lt_or_ge j (wipe σ ks).length with z | z
        · exact .inr (List.getElem?_set_self z)
        · exact .inl (List.getElem?_eq_none (by simpa using z))
      · rw [List.getElem?_set_ne (Ne.symm e)]
        exact ih j ((List.mem_cons.mp h).resolve_left e)
  exact key own _ (isn own)
theorem backS_len {env0 : PEnv} : ∀ (own : List Nat) (env : PEnv), (backS env0 env own).length = env.length
  | [], env => rfl
  | i :: is, env => by
    show (match env0[i]? with | some s => (backS env0 env is).set i s | none => backS env0 env is).length = _
    split
    · rw [List.length_set, backS_len is]
    · exact backS_len is env
theorem backS_at {env0 : PEnv} : ∀ (own : List Nat) (env : PEnv) (j : Nat), env0.length = env.length → (j ∈ own → (backS env0 env own)[j]? = env0[j]?) ∧ (j ∉ own → (backS env0 env own)[j]? = env[j]?)
  | [], env, j, hl => ⟨fun h => (by cases h), fun _ => rfl⟩
  | i :: is, env, j, hl => by
    obtain ⟨h1, h2⟩ := backS_at is env j hl
    have un : backS env0 env (i :: is) = (match env0[i]? with | some s => (backS env0 env is).set i s | none => backS env0 env is) := rfl
    refine ⟨fun hm => ?_, fun hn => ?_⟩
    · rw [un]
      by_cases e : j = i
      · subst e
        cases es : env0[j]? with
        | none => 
          dsimp only
          rw [List.getElem?_eq_none_iff] at es ⊢
          rw [backS_len]; omega
        | some s =>
          dsimp only
          rw [List.getElem?_set_self]
          rw [backS_len]
          rcases Nat.lt_or_ge j env0.length with z | z
          · omega
          · rw [List.getElem?_eq_none z] at es; cases es
      · have hj := (List.mem_cons.mp hm).resolve_left e
        split
        · rw [List.getElem?_set_ne (Ne.symm e)]; exact h1 hj
        · exact h1 hj
    · rw [un]
      have ne : i ≠ j := fun e => hn (by rw [← e]; exact List.mem_cons_self)
      split
      · rw [List.getElem?_set_ne ne]; exact h2 fun h => hn (List.mem_cons_of_mem _ h)
      · exact h2 fun h => hn (List.mem_cons_of_mem _ h)
theorem plainS_at {env : PEnv} : ∀ {own : List Nat}, plainS env own = true → ∀ j ∈ own, env[j]? = some .un ∨ (∃ v, env[j]? = some (.ow v) ∧ v.imm = true) ∨ ∃ v, env[j]? = some (.ro false v) ∧ v.imm = true
  | [], _, j, h => by cases h
  | i :: is, hp, j, h => by
    have hp : ((match env[i]? with | some .un => true | some (.ow v) => v.imm | some (.ro false v) => v.imm | _ => false) && plainS env is) = true := hp
    rcases List.mem_cons.mp h with e | h
    · subst e
      have := and_l hp
      cases es : env[j]? with
      | none => rw [es] at this; cases this
      | some s =>
        rw [es] at this
        cases s with
        | un => exact .inl rfl
        | ow v => exact .inr (.inl ⟨v, rfl, this⟩)
        | ro k v =>
          cases k with
          | false => exact .inr (.inr ⟨v, rfl, this⟩)
          | true => cases this
        | rf v => cases this
    · exact plainS_at (and_r hp) j h
def fpO (own : List Nat) (fp : Nat → List Addr) (j : Nat) : List Addr := if j ∈ own then [] else fp j
theorem fpO_mem {own : List Nat} {fp : Nat → List Addr} {j : Nat} {b : Addr} (h : b ∈ fpO own fp j) : j ∉ own ∧ b ∈ fp j := by
  unfold fpO at h
  split at h
  · cases h
  · rename_i hn; exact ⟨hn, h⟩
section
variable {X : KX} {env envL : PEnv} {σ σ' : St} {H H1 : Hp} {fp fp' : Nat → List Addr} {own : List Nat}
theorem Sim.wipe (S : Sim X env σ H fp) (hR : ∀ j ∈ own, X.R j = none) : Sim X (wipeS env own) (L2.wipe σ own) H (fpO own fp) := by
  have gm : ∀ j v, getM (wipeS env own) j = some v → j ∉ own ∧ getM env j = some v := fun j v h => by
    by_cases hj : j ∈ own
    · have hl : j < env.length := by rw [← wipeS_len own env]; exact getM_lt h
      unfold getM at h
      rw [(wipeS_at own env j).1 hj hl] at h
      cases h
    · unfold getM at h ⊢
      rw [(wipeS_at own env j).2 hj] at h
      exact ⟨hj, h⟩
  refine ⟨by rw [wipeS_len, wipe_length]; exact S.len, fun j v h => ?_, fun j h => ?_, fun j k v h => ?_, S.qz, fun j j' b h1 h2 => S.dis j j' b (fpO_mem h1).2 (fpO_mem h2).2, fun j => ?_, fun j b hb => S.zd j b (fpO_mem hb).2, S.zt, fun j w h => ?_⟩
  · obtain ⟨hn, hv⟩ := gm j v h
    obtain ⟨w, e, r⟩ := S.own j v hv
    refine ⟨w, by rw [wipe_at own σ j hn]; exact e, ?_⟩
    unfold fpO
    rw [if_neg hn]
    exact r
  · unfold fpO
    split
    · rfl
    · rename_i hn
      refine S.emp j ?_
      unfold getM at h ⊢
      rw [(wipeS_at own env j).2 hn] at h
      exact h
  · by_cases hj : j ∈ own
    · have hl : j < env.length := by
        rcases Nat.lt_or_ge j (wipeS env own).length with z | z
        · rw [wipeS_len] at z; exact z
        · rw [List.getElem?_eq_none z] at h; cases h
      rw [(wipeS_at own env j).1 hj hl] at h
      cases h
    · rw [(wipeS_at own env j).2 hj] at h
      obtain ⟨w, G, e, r, q⟩ := S.ro j k v h
      exact ⟨w, G, by rw [wipe_at own σ j hj]; exact e, r, q⟩
  · unfold fpO
    split
    · exact List.nodup_nil
    · exact S.nd j
  · have hj : j ∉ own := fun hj => by rw [hR j hj] at h; cases h
    obtain ⟨e1, s, e2, e3⟩ := S.fx j w h
    exact ⟨by rw [wipe_at own σ j hj]; exact e1, s, by rw [(wipeS_at own env j).2 hj]; exact e2, e3⟩
/-- the own slots as they were -/
theorem Sim.back (ok : X.Ok) (SL : Sim X envL σ H1 fp) (hp : plainS envL own = true) (S : Sim X (wipeS env own) (L2.wipe σ own) H fp') (fx : Fix H1 H) : Sim X (backS envL env own) σ H fp' := by
  have hl : envL.length = env.length := by
    have h1 := S.len
    rw [wipeS_len, wipe_length] at h1
    rw [← h1]; exact SL.len.symm
  have pl := plainS_at hp
  have lt : ∀ j ∈ own, j < env.length := fun j hj => by
    rw [← hl]
    rcases Nat.lt_or_ge j envL.length with z | z
    · exact z
    · have e := List.getElem?_eq_none (l := envL) z
      rcases pl j hj with h | ⟨v, h, _⟩ | ⟨v, h, _⟩ <;> (rw [e] at h; cases h)
  have emp : ∀ j ∈ own, fp' j = [] := fun j hj => S.emp j (by unfold getM; rw [(wipeS_at own env j).1 hj (lt j hj)])
  have atO := fun j => backS_at (env0 := envL) own env j hl
  have eM : ∀ j, j ∉ own → getM (backS envL env own) j = getM (wipeS env own) j := fun j hj => by
    unfold getM
    rw [(atO j).2 hj, (wipeS_at own env j).2 hj]
  have eMo : ∀ j, j ∈ own → getM (backS envL env own) j = getM envL j := fun j hj => by
    unfold getM
    rw [(atO j).1 hj]
  refine ⟨by rw [backS_len, ← hl]; exact SL.len, fun j v h => ?_, fun j h => ?_, fun j k v h => ?_, S.qz, S.dis, S.nd, S.zd, S.zt, fun j w h => ?_⟩
  · by_cases hj : j ∈ own
    · rw [eMo j hj] at h
      obtain ⟨w, e, r⟩ := SL.own j v h
      have hi : v.imm = true := by
        unfold getM at h
        rcases pl j hj with e' | ⟨u, e', hi⟩ | ⟨u, e', hi⟩
        · rw [e'] at h; cases h
        · rw [e'] at h; cases h; exact hi
        · rw [e'] at h; cases h
      refine ⟨w, e, ?_⟩
      rw [emp j hj]
      exact ((r.imm (m' := true) hi).2).fix ok fx fun _ hb => by cases hb
    · rw [eM j hj] at h
      obtain ⟨w, e, r⟩ := S.own j v h
      exact ⟨w, by rw [wipe_at own σ j hj] at e; exact e, r⟩
  · by_cases hj : j ∈ own
    · exact emp j hj
    · rw [eM j hj] at h
      exact S.emp j h
  · by_cases hj : j ∈ own
    · rw [(atO j).1 hj] at h
      obtain ⟨w, G, e, r, q⟩ := SL.ro j k v h
      have hi : v.imm = true := by
        rcases pl j hj with e' | ⟨u, e', hi⟩ | ⟨u, e', hi⟩
        · rw [e'] at h; cases h
        · rw [e'] at h; cases h
        · rw [e'] at h; cases h; exact hi
      have eG := (r.imm (m' := false) hi).1
      subst eG
      exact ⟨w, [], e, r.fix ok fx (fun _ hb => by cases hb), q⟩
    · rw [(atO j).2 hj] at h
      rw [← (wipeS_at own env j).2 hj] at h
      obtain ⟨w, G, e, r, q⟩ := S.ro j k v h
      exact ⟨w, G, by rw [wipe_at own σ j hj] at e; exact e, r, q⟩
  · obtain ⟨e1, s, e2, e3⟩ := S.fx j w h
    have hj : j ∉ own := fun hj => by
      rw [(wipeS_at own env j).1 hj (lt j hj)] at e2
      cases e2; cases e3
    refine ⟨by rw [wipe_at own σ j hj] at e1; exact e1, s, ?_, e3⟩
    rw [(atO j).2 hj, ← (wipeS_at own env j).2 hj]
    exact e2
end
/-- the tests of a comprehension -/
def RdTs (Y : Cz) (cs : List E) : TT := fun σ H Q => ∃ env fp, Sim Y.X env σ H fp ∧ Hold Y σ fp H (evCs Y.p Y.cf cs env) fun b env' => ∀ H' fp', Sim Y.X env' σ H' fp' → Stp fp H fp' H' → Q b H'
section
variable {Y : Cz} {X : Cx} {c : Expr} {cs : List Expr} {ec : E} {ecs : List E}
theorem PTs.mono {X : Cx} {ifs : List Expr} {t u : TT} (h : PTs X ifs t) (k : ∀ σ H Q, u σ H Q → t σ H Q) : PTs X ifs u := ⟨fun pins s σ H Q I hu => h.run pins s σ H Q I (k σ H Q hu)⟩
theorem pts_n : PTs X [] (RdTs Y []) := PTs.mono pts_nil fun σ H Q ⟨env, fp, S, h⟩ => by
  unfold evCs at h
  exact h H fp S Stp.refl
theorem pts_1 (h : PT X c (RdT Y ec)) : PTs X [c] (RdTs Y [ec]) := PTs.mono (pts_one h) fun σ H Q ⟨env, fp, S, h⟩ => by
  unfold evCs at h
  refine ⟨env, fp, S, h.bind.imp fun r env1 h1 w H1 fp1 P1 => ?_⟩
  cases et : truthI r.1 with
  | none => rw [et] at h1; exact h1.elim
  | some b =>
    rw [et] at h1
    refine ⟨b, rfl, ?_⟩
    cases b with
    | false => exact h1 H1 fp1 P1.sim P1.stp
    | true =>
      dsimp only at h1
      unfold evCs at h1
      exact h1 H1 fp1 P1.sim P1.stp
end
/-- in a comprehension's block -/
abbrev Cz.cmp (Y : Cz) (Z : Addr → Prop) (R : Nat → Option V) (Q : Nat → PV → V → List Addr → Prop) : Cz := ⟨sX Y.X Z R Q, Y.p, Y.cf, Y.fu, fun _ _ _ _ => False, Y.er⟩
abbrev PW1 (own : List Nat) : St → St → Prop := fun a b => wipe b own = wipe a own
theorem pw1 (own : List Nat) : Pr (PW1 own) := ⟨fun _ => rfl, fun _ _ _ h1 h2 => Eq.trans h2 h1⟩
theorem pw1_set {own : List Nat} {i : Nat} (h : i ∈ own) : ∀ (σ : St) (x : V), PW1 own σ (σ.set i (some x)) := fun σ x => (wipe_set own σ i (some x)).1 h
section
variable {Y : Cz} {X : Cx} {tg it e : Expr} {pos : Pos}
/-- what a comprehension asks, from the interpreter -/
theorem rd_comp (O : Ok0 Y X) {elt : E} {t : Tg} {DIit : DI.It} {cs : List E} {own : List Nat} {σ : St} {H : Hp} {Q : VK} (h : RdB Y (.comp elt t DIit cs own) σ H Q) :
    tLc (RdI Y DIit) (fun v σ H Q => ∃ Z R Q', RdG (Y.cmp Z R Q') (PW1 own) t v σ H Q) (fun σ H Q => ∃ Z R Q', RdTs (Y.cmp Z R Q') cs σ H Q) (fun σ H Q => ∃ Z R Q', RdB (Y.cmp Z R Q') elt σ H Q) own σ H Q := by
  obtain ⟨env, fp, S, h⟩ := h
  unfold evB at h
  refine ⟨env, fp, S, h.bind.imp fun a env1 h1 J H1 fp1 Gp P1 => ?_⟩
  obtain ⟨hpl, h1⟩ := h1.ite
  intro D hD
  have SL := P1.sim.lock P1.g1 (fun b j hb hj => P1.g2 b j hb hj)
  have S1 := P1.sim
  have unl := fun {env' env2 σ' H' fp'} S' t' hu => Sim.unlock (X := Y.X) (env0 := env1) (env := env2) (env' := env') (σ := σ) (σ' := σ') (H := H1) (H' := H') (fp := fp1) (fp' := fp') (l := a.2) (Gp := Gp) O.ok S1 S' t' hu
  have hLk : ∀ j b, b ∈ fpL env1 a.2 fp1 j → b ∈ fp1 j ∧ ∀ k, Lkd env1 a.2 k → b ∉ fp1 k := fun j b hb => by
    obtain ⟨hn, hb⟩ := fpL_mem hb
    exact ⟨hb, fun k hk hbk => hn (by rw [S1.dis j k b hb hbk]; exact hk)⟩
  have eU : ∀ fp' j b, b ∈ fpU env1 a.2 fp1 fp' j → (Lkd env1 a.2 j ∧ b ∈ fp1 j) ∨ b ∈ fp' j := fun fp' j b hb => by
    unfold fpU at hb
    split at hb
    · rename_i hk; exact .inl ⟨hk, hb⟩
    · exact .inr hb
  generalize hfL : fpL env1 a.2 fp1 = fL at SL hLk unl
  generalize hXL : lockX Y.X env1 a.2 fp1 σ Gp = XL at SL unl
  have hZ : ∀ b, Gp b → XL.Z b := fun b hb => by rw [← hXL]; exact .inr (.inr hb)
  have hZ0 : ∀ b, Y.X.Z b → XL.Z b := fun b hb => by rw [← hXL]; exact .inl hb
  have hsub : ∀ {m H v w F}, Rp m XL H v w F ↔ Rp m Y.X H v w F := by
    intro m H v w F; rw [← hXL]; exact Rp.sub.symm
  have hcz : (⟨XL, Y.p, Y.cf, Y.fu, fun _ _ _ _ => False, Y.er⟩ : Cz) = Y.cmp XL.Z XL.R XL.Q := by rw [← hXL]; rfl
  have okL : XL.Ok := by rw [← hXL]; exact O.ok
  generalize heL : lockS env1 a.2 = envL at SL h1 hpl
  have hR : ∀ j ∈ own, XL.R j = none := fun j hj => by
    cases e : XL.R j with
    | none => rfl
    | some w =>
      obtain ⟨_, s, e2, e3⟩ := SL.fx j w e
      rcases plainS_at hpl j hj with h | ⟨v, h, _⟩ | ⟨v, h, _⟩ <;> (rw [h] at e2; cases e2; cases e3)
  have SW := SL.wipe (own := own) hR
  have sD := same_upd (o := HO.lst []) hD
  have SW' := SW.same okL sD
  have DZ : ∀ b, H1 b = none → ¬ XL.Z b := fun b hb hz => by
    obtain ⟨o, ho⟩ := SL.zt b hz
    rw [hb] at ho; cases ho
  have Dfp : ∀ j, D ∉ fpO own fL j := fun j hj => by
    obtain ⟨o, ho, _⟩ := SW.owned hj
    rw [hD] at ho; cases ho
  -- what holds at a turn
  let elI : PEnv → R PV := fun env => (evB Y.p Y.cf elt env).bind fun w env => ownE elt w env
  let loopI : List PV → List PV → PEnv → R (List PV) := compLoop t own (evCs Y.p Y.cf cs) elI
  let Inv0 : Nat → Hp → Prop := fun i Hc => i ≤ a.1.length ∧ ∃ env2 fp2 acc ws Fs, Sim XL (wipeS env2 own) (L2.wipe σ own) Hc fp2 ∧ Stp (fpO own fL) H1 fp2 Hc ∧ Hc D = some (.lst ws) ∧ RpL true XL Hc acc ws Fs ∧ (D :: Fs).Nodup ∧
    (∀ b ∈ D :: Fs, ∀ j, b ∉ fp2 j) ∧ (∀ b ∈ Fs, (∃ j, b ∈ fpO own fL j) ∨ H1 b = none) ∧
    Hold Y σ fp H (compEnd env1 envL a.2 own (loopI (a.1.drop i) acc env2)) fun r env' => ∀ w H' fp', Post Y.X σ fp H (.comp elt t DIit cs own) r env' w H' fp' → Q w H'
  have start : Inv0 0 (upd H1 D (.lst [])) := ⟨Nat.zero_le _, envL, _, [], [], [], SW', Stp.same sD, upd_same, RpL.nil, by simp, fun b hb => by rw [List.mem_singleton.mp hb]; exact Dfp, fun b hb => (by cases hb), h1⟩
  refine ⟨fun i m Hc => m = a.1.length - i ∧ Inv0 i Hc, ⟨_, rfl, start⟩, ?_⟩
  rintro i m Hc ⟨rfl, hi, env2, fp2, acc, ws, Fs, S2, t2, eD, rA, ndA, djA, nwA, h2⟩
  have zA : ∀ b ∈ D :: Fs, ¬ XL.Z b := fun b hb hz => by
    rcases List.mem_cons.mp hb with e | hb
    · rw [e] at hz; exact DZ D hD hz
    · rcases nwA b hb with ⟨j, hj⟩ | h0
      · exact SW.zd j b hj hz
      · exact DZ b h0 hz
  have wk := P1.wk Hc (lk_stp SW t2 hZ) i
  by_cases hlt : i < a.1.length
  · have ev := List.getElem?_eq_getElem hlt
    obtain ⟨go, yl⟩ := wk.1 _ ev
    have ed : a.1.drop i = a.1[i] :: a.1.drop (i + 1) := List.drop_eq_getElem_cons hlt
    rw [ed] at h2
    have h2 : Hold Y σ fp H (compEnd env1 envL a.2 own (match bindT false t a.1[i] (wipeS env2 own) with
      | none => .bad
      | some env1 => match evCs Y.p Y.cf cs env1 with
        | .ok true env2 => match elI env2 with
          | .ok w env3 => if acc.length < sizeLine then loopI (a.1.drop (i + 1)) (acc ++ [w]) env3 else .bad
          | _ => .bad
        | .ok false env2 => loopI (a.1.drop (i + 1)) acc env2
        | _ => .bad)) fun r env' => ∀ w H' fp', Post Y.X σ fp H (.comp elt t DIit cs own) r env' w H' fp' → Q w H' := h2
    have bad : ∀ {Φ : PV × Bool → PEnv → Prop}, Hold Y σ fp H (compEnd env1 envL a.2 own (.bad : R (List PV))) Φ → False := fun h => h
    cases hbd : bindT false t a.1[i] (wipeS env2 own) with
    | none => rw [hbd] at h2; exact (bad h2).elim
    | some env3 =>
      rw [hbd] at h2
      dsimp only at h2
      refine .inr ⟨go, Inv0 (i + 1), fun H' q => ⟨a.1.length - (i + 1), by omega, rfl, q⟩, fun x Hx hy => ?_⟩
      obtain ⟨sx, G, rx⟩ := yl x Hx hy
      have Sx := S2.same okL sx
      have tx := t2.trans (Stp.same sx)
      refine ⟨XL.Z, XL.R, XL.Q, wipeS env2 own, fp2, a.1[i], G, env3, by rw [← hcz]; exact Sx, hbd, by rw [← hcz]; exact hsub.mpr rx, fun σ3 fp3 S3 t3 p3 => ⟨?_, ?_⟩⟩
      · have e1 : L2.wipe σ3 own = L2.wipe (L2.wipe σ own) own := p3
        rw [e1, wipe_wipe]
      refine ⟨XL.Z, XL.R, XL.Q, env3, fp3, S3, ?_⟩
      rw [← hcz] at S3 ⊢
      have t3' := tx.trans t3
      -- the tests
      cases hc : evCs Y.p Y.cf cs env3 with
      | bad => rw [hc] at h2; exact (bad h2).elim
      | exc c fs e' => rw [hc] at h2; exact (bad h2).elim
      | ok b env4 =>
        rw [hc] at h2
        intro H4 fp4 S4 t4
        have t4' := t3'.trans t4
        have ww : L2.wipe σ3 own = L2.wipe σ own := by
          have e1 : L2.wipe σ3 own = L2.wipe (L2.wipe σ own) own := p3
          rw [e1, wipe_wipe]
        -- what is made so far stays through a step
        have stay : ∀ {H5 fp5}, Stp (fpO own fL) H1 fp5 H5 → Stp fp2 Hc fp5 H5 → (∀ o b, b ∈ D :: Fs → Hc b = some o → H5 b = some o) ∧ ∀ b ∈ D :: Fs, ∀ j, b ∉ fp5 j := fun {H5 fp5} _ t5 => by
          refine ⟨fun o b hb ho => t5.frm b o ho fun j hj => djA b hb j hj, fun b hb j hj => ?_⟩
          rcases t5.new j b hj with ⟨k, hk⟩ | h0
          · exact djA b hb k hk
          · rcases List.mem_cons.mp hb with e | hb
            · rw [e, eD] at h0; cases h0
            · obtain ⟨o, ho⟩ := rA.trk b hb
              rw [h0] at ho; cases ho
        have fx2 : ∀ {H5 fp5}, Stp fp2 Hc fp5 H5 → Fix Hc H5 := fun t5 => t5.fix S2
        have tc4 := ((Stp.same sx).trans t3).trans t4
        cases b with
        | false =>
          dsimp only at h2 ⊢
          rw [if_neg (by decide)]
          obtain ⟨k1, k2⟩ := stay t4' tc4
          have S4w := S4.wipe (own := own) hR
          rw [ww] at S4w
          refine ⟨hlt, env4, _, acc, ws, Fs, S4w, t4'.trans ⟨fun _ _ h _ => h, fun j b hb => .inl ⟨j, (fpO_mem hb).2⟩⟩, k1 _ D List.mem_cons_self eD, rA.fix okL (fx2 tc4) fun b hb o ho => k1 o b (List.mem_cons_of_mem _ hb) ho, ndA, fun b hb j hj => k2 b hb j (fpO_mem hj).2, nwA, h2⟩
        | true =>
          dsimp only at h2 ⊢
          rw [if_pos rfl]
          refine ⟨XL.Z, XL.R, XL.Q, env4, fp4, by rw [← hcz]; exact S4, ?_⟩
          rw [← hcz]
          cases he : evB Y.p Y.cf elt env4 with
          | bad =>
            have : elI env4 = .bad := by show (evB Y.p Y.cf elt env4).bind _ = _; rw [he]; rfl
            rw [this] at h2; exact (bad h2).elim
          | exc c fs e' =>
            have : elI env4 = .exc c fs e' := by show (evB Y.p Y.cf elt env4).bind _ = _; rw [he]; rfl
            rw [this] at h2; exact (bad h2).elim
          | ok r env5 =>
            have eI : elI env4 = ownE elt r env5 := by show (evB Y.p Y.cf elt env4).bind _ = _; rw [he]; rfl
            rw [eI] at h2
            intro w5 H5 fp5 P5
            obtain ⟨v, env6, fp6, F, S6, t6, _, vo, e6⟩ := own_run P5 (fun hb => by rw [hb] at h2; exact bad h2)
            rw [e6] at h2
            dsimp only at h2
            by_cases hz : acc.length < sizeLine
            rotate_left
            · rw [if_neg hz] at h2; exact (bad h2).elim
            rw [if_pos hz] at h2
            have t6' := t4'.trans t6
            have tc6 := tc4.trans t6
            obtain ⟨k1, k2⟩ := stay t6' tc6
            have eD6 := k1 _ D List.mem_cons_self eD
            have rA6 := rA.fix okL (fx2 tc6) fun b hb o ho => k1 o b (List.mem_cons_of_mem _ hb) ho
            -- the new value's parts are others
            have FD : ∀ b ∈ F, b ∉ D :: Fs := fun b hb hm => by
              rcases (tc4.fresh (vo.new b hb)) with ⟨j, hj⟩ | h0
              · exact djA b hm j hj
              · rcases List.mem_cons.mp hm with e | hm
                · rw [e, eD] at h0; cases h0
                · obtain ⟨o, ho⟩ := rA.trk b hm
                  rw [h0] at ho; cases ho
            have n0 := List.nodup_cons.mp ndA
            have rn := (rA6.append (RpL.cons vo.rp RpL.nil)).updA (o' := .lst (ws ++ [w5])) okL eD6 rfl (fun hb => by
              rcases List.mem_append.mp hb with hb | hb
              · exact n0.1 hb
              · rw [List.append_nil] at hb; exact FD D hb List.mem_cons_self)
            rw [List.append_nil] at rn
            have S6w := S6.wipe (own := own) hR
            rw [ww] at S6w
            have up : ∀ b o, H5 b = some o → b ≠ D → upd H5 D (.lst (ws ++ [w5])) b = some o := fun b o hb hn => by rw [upd_ne hn]; exact hb
            have nD6 : ∀ j, D ∉ fp6 j := k2 D List.mem_cons_self
            have S7 : Sim XL (wipeS env6 own) (L2.wipe σ own) (upd H5 D (.lst (ws ++ [w5]))) (fpO own fp6) := by
              have fx := fix_upd (o' := .lst (ws ++ [w5])) eD6 rfl
              refine ⟨S6w.len, fun j v h => ?_, S6w.emp, fun j k v h => ?_, S6w.qz, S6w.dis, S6w.nd, S6w.zd, fun b hz => ?_, S6w.fx⟩
              · obtain ⟨w, e, r⟩ := S6w.own j v h
                exact ⟨w, e, r.fix okL fx fun b hb o ho => up b o ho fun e => nD6 j (by rw [← e]; exact (fpO_mem hb).2)⟩
              · obtain ⟨w, G, e, r, q⟩ := S6w.ro j k v h
                exact ⟨w, G, e, r.fix okL fx fun b hb o ho => up b o ho fun e => zA D List.mem_cons_self (by rw [← e]; exact S6w.qz _ _ _ _ q b hb), q⟩
              · obtain ⟨o, ho⟩ := S6w.zt b hz
                exact ⟨o, up b o ho fun e => zA D List.mem_cons_self (by rw [← e]; exact hz)⟩
            refine ⟨ws, eD6, by rw [← rA.length]; exact hz, hlt, env6, _, acc ++ [v], ws ++ [w5], Fs ++ F, S7, ⟨fun b o hb hn => ?_, fun j b hb => t6'.new j b (fpO_mem hb).2⟩, upd_same, rn, ?_, fun b hb j hj => ?_, fun b hb => ?_, h2⟩
            · exact up b o (t6'.frm b o hb hn) fun e => by rw [e, hD] at hb; cases hb
            · refine List.nodup_cons.mpr ⟨fun hb => ?_, List.nodup_append.mpr ⟨n0.2, vo.nd, fun b hb c hc e => ?_⟩⟩
              · rcases List.mem_append.mp hb with hb | hb
                · exact n0.1 hb
                · exact FD D hb List.mem_cons_self
              · subst e
                exact FD b hc (List.mem_cons_of_mem _ hb)
            · have hj := (fpO_mem hj).2
              rcases List.mem_cons.mp hb with e | hb
              · rw [e] at hj; exact nD6 j hj
              · rcases List.mem_append.mp hb with hb | hb
                · exact k2 b (List.mem_cons_of_mem _ hb) j hj
                · exact vo.dis b hb j hj
            · rcases List.mem_append.mp hb with hb | hb
              · exact nwA b hb
              · exact t4'.fresh (vo.new b hb)
  · -- the end
    have en : a.1[i]? = none := List.getElem?_eq_none (by omega)
    have ed : a.1.drop i = [] := List.drop_eq_nil_of_le (by omega)
    rw [ed] at h2
    refine .inl ⟨wk.2 en, ?_⟩
    have h2 : Hold Y σ fp H (match unlockS env1 (backS envL env2 own) a.2 with | some env' => .ok (.lst acc, true) env' | none => .bad) fun r env' => ∀ w H' fp', Post Y.X σ fp H (.comp elt t DIit cs own) r env' w H' fp' → Q w H' := h2
    cases hu : unlockS env1 (backS envL env2 own) a.2 with
    | none => rw [hu] at h2; exact h2.elim
    | some env' =>
      rw [hu] at h2
      have h2 : ∀ w H' fp', Post Y.X σ fp H (.comp elt t DIit cs own) (.lst acc, true) env' w H' fp' → Q w H' := h2
      have SB := Sim.back okL SL hpl S2 (t2.fix SW)
      have tB : Stp fL H1 fp2 Hc := ⟨fun b o hb hn => t2.frm b o hb fun j hj => hn j (fpO_mem hj).2, fun j b hb => (t2.new j b hb).imp (fun ⟨k, hk⟩ => ⟨k, (fpO_mem hk).2⟩) fun h => h⟩
      obtain ⟨S5, t5⟩ := unl SB tB hu
      have vo : VO Y.X fp H (fpU env1 a.2 fp1 fp2) Hc (.lst acc) (.ref D) (D :: Fs) := by
        refine ⟨hsub.mp (rp_lstI eD rA), ndA, fun b hb j hj => ?_, fun b hb => ?_, fun b hb hz => zA b hb (hZ0 b hz)⟩
        · rcases eU fp2 j b hj with ⟨hk, hj⟩ | hj
          · rcases List.mem_cons.mp hb with e | hb
            · obtain ⟨o, ho, _⟩ := S1.owned hj
              rw [e, hD] at ho; cases ho
            · rcases nwA b hb with ⟨k, hk'⟩ | h0
              · exact (hLk k b (fpO_mem hk').2).2 j hk hj
              · obtain ⟨o, ho, _⟩ := S1.owned hj
                rw [h0] at ho; cases ho
          · exact djA b hb j hj
        · rcases List.mem_cons.mp hb with e | hb
          · rw [e]; exact P1.stp.fresh (.inr hD)
          · exact P1.stp.fresh ((nwA b hb).imp (fun ⟨k, hk⟩ => ⟨k, (hLk k b (fpO_mem hk).2).1⟩) fun h => h)
      exact h2 _ _ _ ⟨S5, P1.stp.trans t5, fun q => (nomatch q), fun q => (nomatch q), ⟨_, vo.vb⟩, fun _ => ⟨_, vo⟩, fun i z => (nomatch z)⟩
end
end DI
set_option Elab.async false
set_option linter.all false
set_option maxRecDepth 100000
set_option maxHeartbeats 1000000
/-! DIS22: the rules for what else is written; the bundle of what a walk needs. -/
namespace DI
open PySem PySem.Spec PyProof.Rows L2

section
variable {Y : Cz} {X : Cx} {tg it e elt a b c : Expr} {ee ea eb ec : E} {pos p p2 pos2 p1 : Pos}
theorem pe_cmp0 (O : Ok0 Y X) (hc : X.calm = true) (hN : X.N.Nodup) {eelt : E} {t : Tg} {DIit : DI.It} {cs : List E} {ifs : List Expr} {scope : Scope} {own : List (Str × Nat)} (hi : PI X tg it (RdI Y DIit)) (ok : BlkOk X.N X.env.scope scope own)
    (hg : ∀ Z R Q s H C cl fp, PG (X.blk s H scope (compEnvC scope cl C X.env) fp) tg (RdG (Y.cmp Z R Q) (PW1 (own.map (·.2))) t)) (ht : ∀ Z R Q s H C cl fp, PTs (X.blk s H scope (compEnvC scope cl C X.env) fp) ifs (RdTs (Y.cmp Z R Q) cs))
    (he : ∀ Z R Q s H C cl fp, PE (X.blk s H scope (compEnvC scope cl C X.env) fp) elt (RdB (Y.cmp Z R Q) eelt)) (hs : ∀ x, foldedSetIterable it X.env x = pure x) :
    PE X (.ListComp elt [⟨tg, it, ifs, 0⟩] scope pos) (RdB Y (.comp eelt t DIit cs (own.map (·.2)))) :=
  PE.mono (pe_lc (g := fun v σ H Q => ∃ Z R Q', RdG (Y.cmp Z R Q') (PW1 (own.map (·.2))) t v σ H Q) (tt := fun σ H Q => ∃ Z R Q', RdTs (Y.cmp Z R Q') cs σ H Q) (te := fun σ H Q => ∃ Z R Q', RdB (Y.cmp Z R Q') eelt σ H Q) hc hN hi ok
    (fun s H C cl fp => ⟨fun pins s' σ H' v u Q I r ⟨Z, R, Q', h⟩ => (hg Z R Q' s H C cl fp).run pins s' σ H' v u Q I r h⟩)
    (fun s H C cl fp => ⟨fun pins s' σ H' Q I ⟨Z, R, Q', h⟩ => (ht Z R Q' s H C cl fp).run pins s' σ H' Q I h⟩)
    (fun s H C cl fp => ⟨fun pins s' σ H' Q I ⟨Z, R, Q', h⟩ => (he Z R Q' s H C cl fp).run pins s' σ H' Q I h⟩) hs) fun σ H Q h => rd_comp O h
theorem ps_setcmp (O : Ok0 Y X) (hc : X.calm = true) (hN : X.N.Nodup) {i : Nat} {y : Str} {eelt : E} {t : Tg} {DIit : DI.It} {cs : List E} {ifs : List Expr} {scope : Scope} {own : List (Str × Nat)} {spos : Pos} (hy : X.N[i]? = some y) (hyl : X.env.scope.names.lookup y = some .local)
    (hsw : swapsWith (.ListComp elt [⟨tg, it, ifs, 0⟩] scope pos) (some (.Name y p1)) spos.line X.env = pure true) (hi : PI X tg it (RdI Y DIit)) (ok : BlkOk X.N X.env.scope scope own)
    (hg : ∀ Z R Q s H C cl fp, PG (X.blk s H scope (compEnvC scope cl C X.env) fp) tg (RdG (Y.cmp Z R Q) (PW1 (own.map (·.2))) t)) (ht : ∀ Z R Q s H C cl fp, PTs (X.blk s H scope (compEnvC scope cl C X.env) fp) ifs (RdTs (Y.cmp Z R Q) cs))
    (he : ∀ Z R Q s H C cl fp, PE (X.blk s H scope (compEnvC scope cl C X.env) fp) elt (RdB (Y.cmp Z R Q) eelt)) (hs : ∀ x, foldedSetIterable it X.env x = pure x) :
    PS X (.Assign [.Name y p1] (.ListComp elt [⟨tg, it, ifs, 0⟩] scope pos) spos) (RdS Y (.asg (.v i) (.comp eelt t DIit cs (own.map (·.2))))) := by
  refine PS.mono (ps_setLc (g := fun v σ H Q => ∃ Z R Q', RdG (Y.cmp Z R Q') (PW1 (own.map (·.2))) t v σ H Q) (tt := fun σ H Q => ∃ Z R Q', RdTs (Y.cmp Z R Q') cs σ H Q) (te := fun σ H Q => ∃ Z R Q', RdB (Y.cmp Z R Q') eelt σ H Q) hc hN hy hyl hsw hi ok
    (fun s H C cl fp => ⟨fun pins s' σ H' v u Q I r ⟨Z, R, Q', h⟩ => (hg Z R Q' s H C cl fp).run pins s' σ H' v u Q I r h⟩)
    (fun s H C cl fp => ⟨fun pins s' σ H' Q I ⟨Z, R, Q', h⟩ => (ht Z R Q' s H C cl fp).run pins s' σ H' Q I h⟩)
    (fun s H C cl fp => ⟨fun pins s' σ H' Q I ⟨Z, R, Q', h⟩ => (he Z R Q' s H C cl fp).run pins s' σ H' Q I h⟩) hs) fun D σ H ⟨env, fp, S, h⟩ => ?_
  unfold exS at h
  refine rd_comp O ((evE_S S h).mono fun w H1 ⟨v, env2, fp2, F, S2, t2, vo, h2⟩ => ?_)
  cases hb : bindT true (.v i) v env2 with
  | none => rw [hb] at h2; exact h2.elim
  | some env3 =>
    rw [hb] at h2
    obtain ⟨_, hl, rfl⟩ := bind_v hb
    obtain ⟨S3, t3⟩ := VO.setv S2 t2 vo hl
    exact h2 _ _ _ S3 t3
/-! ### tuple(range(..)) -/
def rgV' (a c : Int) (n : Nat) : List V := (List.range n).map fun i => V.int (a + (i : Nat) * c)
theorem rgV'_rp {m : Bool} {X : KX} {H : Hp} {c : Int} : ∀ {a : Int} {n : Nat}, RpL m X H (rangeC a c n) (rgV' a c n) []
  | a, 0 => RpL.nil
  | a, n + 1 => by
    have e : rgV' a c (n + 1) = .int a :: rgV' (a + c) c n := by
      unfold rgV'
      rw [List.range_succ_eq_map, List.map_cons, List.map_map]
      congr 1
      · simp
      · refine List.map_congr_left fun i _ => ?_
        simp only [Function.comp_apply]
        congr 1
        push_cast
        rw [Int.add_mul, Int.one_mul]
        omega
    rw [e]
    have := RpL.cons (m := m) (X := X) (H := H) (rp_intI (i := a)) (rgV'_rp (c := c) (a := a + c) (n := n))
    exact this
theorem rangeC_len {c : Int} : ∀ {a : Int} {n : Nat}, (rangeC a c n).length = n
  | a, 0 => rfl
  | a, n + 1 => by
    show (rangeC (a + c) c n).length + 1 = n + 1
    rw [rangeC_len]
theorem rangeC_one : ∀ {a : Int} {n : Nat}, rangeC a 1 n = rangeL a n
  | a, 0 => rfl
  | a, n + 1 => by
    show PV.int a :: rangeC (a + 1) 1 n = .int a :: rangeL (a + 1) n
    rw [rangeC_one]
theorem vals_rgC {a c : Int} {n : Nat} {acc : Array Value} (h : ItemsOf (fun i v => ∃ t, v = .int (a + i * c) t) acc n) : Vals (rgV' a c n) acc.toList := by
  have e : acc.toList.length = n := by rw [Array.length_toList]; exact h.1
  unfold rgV'
  rw [← e]
  refine vals_of_get acc.toList _ fun j u hj => ?_
  obtain ⟨t, rfl⟩ := h.2 j u (by rw [← hj, Array.getElem?_toList])
  exact ⟨t, rfl⟩
theorem range_small {vs xs : List PV} (h : rangeI vs = some xs) : ∃ a b c n, (vs = [.int b] ∧ a = 0 ∧ c = 1 ∨ vs = [.int a, .int b] ∧ c = 1 ∨ vs = [.int a, .int b, .int c]) ∧ xs = rangeC a c n ∧ Builtin.Range.small a b c = true ∧ Builtin.Range.rangeSize a b c = (n : Nat) ∧ c ≠ 0 ∧ c.natAbs < 1073741824 := by
  match vs, h with
  | [.int n], h =>
    have h : (if fits62 n = true then some (rangeL 0 n.toNat) else none) = some xs := h
    split at h
    · rename_i hf
      cases h
      obtain ⟨f1, f2⟩ := fits62_ok hf
      exact ⟨0, n, 1, (n - 0).toNat, .inl ⟨rfl, rfl, rfl⟩, by rw [rangeC_one, Int.sub_zero], small_one (by decide) (by decide) f1 f2, rangeSize_nat 0 n, by decide, by decide⟩
    · cases h
  | [.int m, .int n], h =>
    have h : (if (fits62 m && fits62 n) = true then some (rangeL m (n - m).toNat) else none) = some xs := h
    split at h
    · rename_i hf
      cases h
      obtain ⟨f1, f2⟩ := fits62_ok (and_l hf)
      obtain ⟨f3, f4⟩ := fits62_ok (and_r hf)
      exact ⟨m, n, 1, (n - m).toNat, .inr (.inl ⟨rfl, rfl⟩), by rw [rangeC_one], small_one f1 f2 f3 f4, rangeSize_nat m n, by decide, by decide⟩
    · cases h
  | [.int a, .int b, .int c], h =>
    have h : (if c ≠ 0 ∧ c.natAbs < 1073741824 ∧ Builtin.Range.small a b c = true ∧ Builtin.Range.rangeSize a b c = ((Builtin.Range.rangeSize a b c).toNat : Nat) then some (rangeC a c (Builtin.Range.rangeSize a b c).toNat) else none) = some xs := h
    split at h
    · rename_i hf
      cases h
      exact ⟨a, b, c, _, .inr (.inr rfl), rfl, hf.2.2.1, hf.2.2.2, hf.1, hf.2.1⟩
    · cases h
/-- a range as a value -/
theorem eval_range (O : Ok0 Y X) {as : List Expr} {es : List E} (hg : Gl X "range") (hm : X.mg "range" = none) (ha : Alls Y X (a :: as) es) {pins : List (Addr × Obj)} {s : Shared} {σ : St} {H : Hp} {R : List PV → Hp → Prop} (I : Inv X pins σ H s)
    (h : RdA Y es σ H fun ws H1 => ∃ vs xs G, rangeI vs = some xs ∧ RpL false Y.X H1 vs ws G ∧ R xs H1) :
    wpAny (model X.prog X.w) X.A (eval (.Call (.Name "range" p) (a :: as) [] pos) X.env) (fun x s' => ∃ r i j c t u v n H', x = .ref r ∧ IsRange s'.heap r i j c t u v ∧ Inv X pins σ H' s' ∧ Builtin.Range.small i j c = true ∧ Builtin.Range.rangeSize i j c = (n : Nat) ∧ R (rangeC i c n) H') X.xe s := by
  have hs : starEach (a :: as) X.env = (false, eval a X.env) :: starEach as X.env := by cases ha; assumption
  have h2 : (backTo pos (starEach as X.env)).any (·.1) = false := by cases ha with | cons _ _ t => exact t.plain
  refine Call_ (ld_blt I hg hm boot_range (PyProof.Rows.callWith_type1 (thn ((pa_A O ha).run pos pins s σ H _ I h) fun us s1 ⟨ws, H1, I1, r1, vs, xs, G, er, rp, q⟩ => ?_) hs h2))
  obtain ⟨i, j, c, n, hv, rfl, hsm, hsz, c0, c1⟩ := range_small er
  rcases hv with ⟨rfl, rfl, rfl⟩ | ⟨rfl, rfl⟩ | rfl
  · obtain ⟨w, rfl, rw'⟩ := rpL_one rp
    rw [rp_int' rw'] at r1
    obtain ⟨u, rfl, ru⟩ := r1.one
    obtain ⟨t, rfl⟩ := ru
    exact call_range_1 ⟨_, 0, j, 1, _, _, _, n, H1, rfl, IsRange.new _ _ _ _ _ _ _, I1.kept fun b u e => Heap.get?_push_of_some _ e, hsm, hsz, q⟩
  · have e2 : ws = [.int i, .int j] := by
      unfold RpL at rp
      obtain ⟨w, ws', F1, F2, rfl, _, q1, q2⟩ := rp
      obtain ⟨w2, rfl, q3⟩ := rpL_one q2
      rw [rp_int' q1, rp_int' q3]
    subst e2
    obtain ⟨u1, u2, rfl, ru1, ru2⟩ := r1.two
    obtain ⟨t1, rfl⟩ := ru1
    obtain ⟨t2, rfl⟩ := ru2
    exact call_range_2 ⟨_, i, j, 1, _, _, _, n, H1, rfl, IsRange.new _ _ _ _ _ _ _, I1.kept fun b u e => Heap.get?_push_of_some _ e, hsm, hsz, q⟩
  · have e2 := rpL_three rp
    subst e2
    cases r1 with
    | cons ra rr =>
      cases rr with
      | cons rb rr =>
        cases rr with
        | cons rc rr =>
          cases rr
          obtain ⟨t1, rfl⟩ := ra
          obtain ⟨t2, rfl⟩ := rb
          obtain ⟨t3, rfl⟩ := rc
          exact call_range_3 c0 ⟨_, i, j, c, _, _, _, n, H1, rfl, IsRange.new _ _ _ _ _ _ _, I1.kept (t' := s1.toks) fun b u e => Heap.get?_push_of_some _ e, hsm, hsz, q⟩ (.inl (PyProof.noPylong_small c1))
theorem rd_tupI (O : Ok0 Y X) {es : List E} {σ : St} {H : Hp} {Q : VK} {f : List PV → PV} (ef : E) (hv : ∀ i, ef ≠ .var i) (hq : ef.quiet = quietL es)
    (he : ∀ env, evB Y.p Y.cf ef env = (itI Y.p Y.cf (.range es) env).bind fun a env => if (a.2.isEmpty && immL a.1 && decide (a.1.length ≤ 16777216)) = true then .ok (f a.1, true) env else .bad) (h : RdB Y ef σ H Q) :
    RdA Y es σ H fun ws H1 => ∃ vs xs G, rangeI vs = some xs ∧ RpL false Y.X H1 vs ws G ∧ (xs.length ≤ 16777216 ∧ Gives Y.X H1 (f xs) Q) := by
  obtain ⟨env, fp, S, h⟩ := h
  rw [he] at h
  have h : Hold Y σ fp H (((evA Y.p Y.cf es env).bind fun vs env => opt ((rangeI vs).map fun xs => (xs, ([] : List Nat))) env).bind fun a env => if (a.2.isEmpty && immL a.1 && decide (a.1.length ≤ 16777216)) = true then .ok (f a.1, true) env else .bad) fun r env' => ∀ w H' fp', Post Y.X σ fp H ef r env' w H' fp' → Q w H' := by
    unfold itI at h; exact h
  refine ⟨env, fp, S, ?_⟩
  cases ev : evA Y.p Y.cf es env with
  | bad => rw [ev] at h; exact h
  | exc c fs e' => rw [ev] at h; exact h
  | ok vs env1 =>
    rw [ev] at h
    intro ws H1 fp1 P1
    cases er : rangeI vs with
    | none =>
      have h : Hold Y σ fp H ((opt ((rangeI vs).map fun xs => (xs, ([] : List Nat))) env1).bind fun a env => if (a.2.isEmpty && immL a.1 && decide (a.1.length ≤ 16777216)) = true then .ok (f a.1, true) env else .bad) _ := h
      rw [er] at h; exact h.elim
    | some xs =>
      have h : Hold Y σ fp H ((opt ((rangeI vs).map fun xs => (xs, ([] : List Nat))) env1).bind fun a env => if (a.2.isEmpty && immL a.1 && decide (a.1.length ≤ 16777216)) = true then .ok (f a.1, true) env else .bad) _ := h
      rw [er] at h
      obtain ⟨hc, h⟩ := h.ite
      obtain ⟨G, r⟩ := P1.vb
      exact ⟨vs, xs, G, er, r, of_decide_eq_true (and_r hc), gives_of (e := ef) O.ok P1.sim P1.stp (fun q => P1.same (by rw [← hq]; exact q)) (fun q => P1.mono (by rw [← hq]; exact q)) hv h⟩
theorem pe_tupRange (O : Ok0 Y X) (hc : X.calm = true) {as : List Expr} {es : List E} (hg0 : Gl X "tuple") (hm0 : X.mg "tuple" = none) (hg : Gl X "range") (hm : X.mg "range" = none) (ha : Alls Y X (a :: as) es)
    (na : starEach [.Call (.Name "range" p2) (a :: as) [] pos2] X.env = (false, eval (.Call (.Name "range" p2) (a :: as) [] pos2) X.env) :: starEach [] X.env) :
    PE X (.Call (.Name "tuple" p) [.Call (.Name "range" p2) (a :: as) [] pos2] [] pos) (RdB Y (.tupI (.range es))) := by
  refine ⟨fun pins s σ H Q I h => ?_⟩
  have h' := rd_tupI (f := .tup) O (.tupI (.range es)) (fun _ z => nomatch z) rfl (fun env => by unfold evB; rfl) h
  refine Call_ (ld_blt I hg0 hm0 boot_tuple (PyProof.Rows.callWith_type1 (args_cons (thn (eval_range O hg hm ha I h') fun x s1 ⟨r, i, j, c, t, u, v, n, H1, ex, hr, I1, hsm, hsz, hlen, gv⟩ => args_nil ?_) na) na))
  subst ex
  have hn : n ≤ 2 ^ 24 := by
    have := rangeC_len (a := i) (c := c) (n := n)
    omega
  refine call_tuple_range (n := n) (I1.ok.hd hc) hr hsm hsz hn fun h' tk acc hk hi => ?_
  have I2 : Inv X pins σ H1 { s1 with heap := h', toks := tk } := I1.kept hk
  have hfree := I2.hok.fresh (Nat.le_refl _)
  have sm := same_upd (o := .tup (rgV' i c n)) hfree
  refine ⟨.ref h'.objs.size, upd H1 h'.objs.size (.tup (rgV' i c n)), I2.laid (t' := tk) (fun c o e => Heap.get?_push_of_some _ e) (Nat.le_refl _) (show ObjOk X.prog X.w _ _ _ (.tup (rgV' i c n)) from ⟨?_, acc.toList, vals_rgC hi, ?_⟩), rfl, ?_⟩
  · unfold rgV'; rw [List.length_map, List.length_range, sizeLine_eq]; omega
  · rw [Array.toArray_toList]; exact IsTup.new _ _
  · refine gv _ [] _ ⟨sm, ?_, List.nodup_nil, fun _ hb => by cases hb⟩
    unfold Rp
    exact ⟨_, _, rfl, SqT.of upd_same, rgV'_rp⟩
/-! ### {} -/
theorem pe_dict0 (O : Ok0 Y X) : PE X (.Dict [] [] pos) (RdB Y (.dict [])) := by
  refine PE.mono pe_dnewK fun σ H Q ⟨env, fp, S, h⟩ => ?_
  unfold evB evO at h
  have h : ∀ w H' fp', Post Y.X σ fp H (.dict []) (.dct [] [], true) env w H' fp' → Q w H' := h
  intro d hd
  refine h _ _ _ (New.post O.ok S Stp.refl (fun _ => same_refl) (fun _ _ _ h => h) (fun _ z => nomatch z) ⟨same_upd hd, ?_, (List.nodup_cons.mpr ⟨fun h => (by cases h), List.nodup_nil⟩), fun b hb => by rw [List.mem_singleton.mp hb]; exact hd⟩)
  unfold Rp
  exact ⟨d, [], [], rfl, upd_same, ⟨rfl, List.nodup_nil⟩, rfl, RpL.nil⟩
end
end DI
set_option Elab.async false
set_option linter.all false
set_option maxRecDepth 100000
set_option maxHeartbeats 1000000
/-! DIS23: isinstance, swaps, chains; the bundle. -/
namespace DI
open PySem PySem.Spec PyProof.Rows L2

def tyName : Ty → String
  | .int => "int" | .bool => "bool" | .str => "str" | .tuple => "tuple" | .list => "list" | _ => "NoneType"
def tyS : Ty → Str
  | .int => "int" | .bool => "bool" | .str => "str" | .tuple => "tuple" | .list => "list" | _ => "?"
def tyB (t : Ty) : Bool := match t with | .none => false | .cls _ => false | _ => true
theorem ty_boot {t : Ty} (h : tyB t = true) : bootBuiltins (tyS t) = some (.type (tyName t)) ∧ tyS t ≠ ("__name__" : Str) ∧ (tyS t == ("__debug__" : Str)) = false := by
  cases t <;> first | (cases h; done) | (refine ⟨?_, ?_, ?_⟩ <;> decide +kernel)
/-- a value's type -/
def pvTy : PV → String
  | .non => "NoneType" | .bl _ => "bool" | .int _ => "int" | .str _ => "str" | .tup _ => "tuple" | .lst _ => "list" | .fls _ => "list" | _ => "?"
theorem tyOf_kit {v : PV} {t : Ty} {b : Bool} (ht : tyB t = true) (h : tyOf v t = some b) : kitB (pvTy v) (tyName t) = some b := by
  cases v <;> cases t <;> first | (cases ht; done) | (cases h; done) | (cases h; simp only [pvTy, tyName]; decide +kernel)
theorem pvTy_ok {m : Bool} {X : KX} {H : Hp} {v : PV} {w : V} {G : List Addr} {t : Ty} {b : Bool} (r : Rp m X H v w G) (h : tyOf v t = some b) (ht : tyB t = true) : TyX X.K H w (.type (pvTy v)) := by
  cases v with
  | non => rw [rp_non' r]; exact .base .non
  | bl k => rw [rp_bl' r]; exact .base (.bl k)
  | int i => rw [rp_int' r]; exact .base (.int i)
  | str x => rw [rp_str' r]; exact .base (.str x)
  | tup vs =>
    obtain ⟨a, ws, rfl, hs, _⟩ := rp_tup' r
    rcases hs with (h1 | ⟨o, h1⟩) | ⟨o, its, n, h1, h2, _⟩
    · exact .base (.tup h1)
    · exact .fTuple h1
    · exact .kTuple h1 h2
  | lst vs =>
    obtain ⟨a, ws, G0, rfl, hs, _⟩ := rp_lst' r
    rcases hs.sq with (h1 | ⟨o, h1⟩) | ⟨o, its, n, h1, h2, _⟩
    · exact .base (.lst h1)
    · exact .base (.frz h1)
    · exact .kList h1 h2
  | fls vs =>
    obtain ⟨a, ws, rfl, hs, _⟩ := rp_fls' r
    rcases hs with (h1 | ⟨o, h1⟩) | ⟨o, its, n, h1, h2, _⟩
    · exact .base (.lst h1)
    · exact .base (.frz h1)
    · exact .kList h1 h2
  | _ => cases t <;> first | (cases h; done) | (cases ht; done)
section
variable {Y : Cz} {X : Cx} {a b c : Expr} {ea eb ec : E} {pos p p2 px py pt : Pos}
theorem pe_isi1 (O : Ok0 Y X) {t : Ty} (ht : tyB t = true) (hg : Gl X "isinstance") (hm : X.mg "isinstance" = none) (hg2 : Gl X (tyS t)) (hm2 : X.mg (tyS t) = none) (ha : PE X a (RdB Y ea))
    (hs : starEach [a, .Name (tyS t) p2] X.env = (false, eval a X.env) :: starEach [.Name (tyS t) p2] X.env) (hs2 : starEach [.Name (tyS t) p2] X.env = (false, eval (.Name (tyS t) p2) X.env) :: starEach [] X.env) (hpl : (backTo pos (starEach [.Name (tyS t) p2] X.env)).any (·.1) = false) :
    PE X (.Call (.Name "isinstance" p) [a, .Name (tyS t) p2] [] pos) (RdB Y (.isi ea [t])) := by
  obtain ⟨b1, b2, b3⟩ := ty_boot ht
  refine PE.mono (pe_callB call_isi hg hm PyProof.Rows.boot_isinstance (pa_cons ha (pa_cons (pe_bltn (v := .ty (tyName t)) hg2 hm2 b1 rfl b2 b3) pa_nil hs2) hs) (by decide) (by decide) hs hpl) fun σ H Q ⟨env, fp, S, h⟩ => ?_
  unfold evB at h
  refine ⟨env, fp, S, h.bind.imp fun r env1 h1 w H1 fp1 P1 => ?_⟩
  obtain ⟨q, eq, hΦ⟩ := h1.opt
  cases ei : isiI Y.p r.1 [t] with
  | none => rw [ei] at eq; cases eq
  | some k =>
    rw [ei] at eq
    cases eq
    obtain ⟨G, vb⟩ := P1.vb
    have hty : tyOf r.1 t = some k := by
      unfold isiI at ei
      split at ei
      · rename_i d
        cases ht
      · split at ei
        · cases ei; assumption
        · unfold isiI at ei; cases ei; assumption
        · cases ei
    refine ⟨w, .ty (tyName t), .type (pvTy r.1), .type (tyName t), k, rfl, .ty _, by rw [← O.K]; exact pvTy_ok vb.rp hty ht, kit_ty (tyOf_kit ht hty), ?_⟩
    exact (gives_of (e := .isi ea [t]) O.ok P1.sim P1.stp (fun z => P1.same z) (fun z => P1.mono z) (fun _ h => nomatch h) hΦ).bl
/-- a, b = x, y, stored from the right -/
theorem VOs.head {X : KX} {fp fp1 : Nat → List Addr} {H H1 : Hp} {v1 : PV} {vs : List PV} {ws : List V} {F : List Addr} (v : VOs X fp H fp1 H1 (v1 :: vs) ws F) : ∃ w1 ws' F1 F2, ws = w1 :: ws' ∧ VO X fp H fp1 H1 v1 w1 F1 ∧ ∀ i, VOs X fp H (pu fp1 i F1) H1 vs ws' F2 := by
  obtain ⟨rp, nd, dis, new, z⟩ := v
  unfold RpL at rp
  obtain ⟨w1, ws', F1, F2, rfl, rfl, r1, r2⟩ := rp
  obtain ⟨n1, n2, n3⟩ := List.nodup_append.mp nd
  refine ⟨w1, ws', F1, F2, rfl, ⟨r1, n1, fun b hb => dis b (List.mem_append_left _ hb), fun b hb => new b (List.mem_append_left _ hb), fun b hb => z b (List.mem_append_left _ hb)⟩, fun i => ⟨r2, n2, fun b hb j hj => ?_, fun b hb => new b (List.mem_append_right _ hb), fun b hb => z b (List.mem_append_right _ hb)⟩⟩
  rcases pu_mem hj with ⟨_, hb1⟩ | ⟨_, hj⟩
  · exact n3 b hb1 b hb rfl
  · exact dis b (List.mem_append_right _ hb) j hj
theorem ps_par2 (O : Ok0 Y X) (hc : X.calm = true) {i j : Nat} {x y : Str} {kt k2 : Nat} {pt2 : Pos} (hN : X.N.Nodup) (hi : X.N[i]? = some x) (hj : X.N[j]? = some y) (hij : i ≠ j) (hx : X.env.scope.names.lookup x = some .local) (hy : X.env.scope.names.lookup y = some .local) (ha : Alls Y X [a, b] [ea, eb])
    (hw : swappedStores [.Tuple [.Name x px, .Name y py] kt pt] (.Tuple [a, b] k2 pt2) X.env = pure (some [x, y])) (hs : swapsWithSole [.Tuple [.Name x px, .Name y py] kt pt] (.Tuple [a, b] k2 pt2) pos.line X.env = pure false) :
    PS X (.Assign [.Tuple [.Name x px, .Name y py] kt pt] (.Tuple [a, b] k2 pt2) pos) (RdS Y (.par [i, j] [ea, eb])) := by
  refine PS.mono (ps_par hc hN hi hj hij hx hy (pa_O O ha) hw hs) fun D σ H ⟨env, fp, S, h⟩ => ?_
  unfold exS at h
  cases ev : evO Y.p Y.cf [ea, eb] env with
  | bad => rw [ev] at h; exact h.elim
  | exc c fs e' =>
    rw [ev] at h
    exact ⟨env, fp, S, by rw [ev]; exact fun cls d H' fp' S t e => h σ cls d H' fp' S t e⟩
  | ok vs env1 =>
    rw [ev] at h
    refine ⟨env, fp, S, ?_⟩
    rw [ev]
    intro ws H1 fp1 P1
    have h : HoldS Y fp H (match bindTs true [.v i, .v j] vs env1 with | some env' => .nx env' | none => .bad) D := h
    cases hb : bindTs true [.v i, .v j] vs env1 with
    | none => rw [hb] at h; exact h.elim
    | some env2 =>
      rw [hb] at h
      have h : ∀ σ' H' fp', Sim Y.X env2 σ' H' fp' → Stp fp H fp' H' → D.nx σ' H' := h
      obtain ⟨F, vo⟩ := P1.vo
      match vs, hb, vo with
      | [v1, v2], hb, vo =>
        unfold bindTs at hb
        cases h1 : bindT true (.v i) v1 env1 with
        | none => rw [h1] at hb; cases hb
        | some e1 =>
          rw [h1] at hb
          dsimp only at hb
          unfold bindTs at hb
          cases h2 : bindT true (.v j) v2 e1 with
          | none => rw [h2] at hb; cases hb
          | some e2 =>
            rw [h2] at hb
            dsimp only at hb
            unfold bindTs at hb
            cases hb
            obtain ⟨_, l1, rfl⟩ := bind_v h1
            obtain ⟨_, l2, rfl⟩ := bind_v h2
            obtain ⟨w1, ws1, F1, F2, rfl, vo1, k1⟩ := vo.head
            obtain ⟨w2, ws2, F3, F4, rfl, vo2, k2⟩ := (k1 i).head
            have : ws2 = [] := by
              have := (k2 j).rp
              unfold RpL at this
              exact this.1
            subst this
            obtain ⟨S1, t1⟩ := VO.setv P1.sim P1.stp vo1 l1
            obtain ⟨S2, t2⟩ := VO.setv S1 t1 vo2 l2
            exact ⟨w1, w2, rfl, h _ _ _ S2 t2⟩
      | [], hb, vo => simp [bindTs] at hb
      | [_], hb, vo =>
        unfold bindTs at hb
        split at hb
        · simp [bindTs] at hb
        · cases hb
      | _ :: _ :: _ :: _, hb, vo =>
        unfold bindTs at hb
        split at hb
        · unfold bindTs at hb
          split at hb
          · simp [bindTs] at hb
          · cases hb
        · cases hb
end
/-- what a walk needs -/
structure Bun (Y : Cz) (X : Cx) (CX : CXT) (k : Nat) (src : Str → Stmt) : Prop where
  O : Ok0 Y X
  hc : X.calm = true
  D : DefOk X CX k (bX Y.X) Y.er Y.p Y.cf src
  hr : Room k X.A
  hx : ∀ σ, PassesAt CX X σ (WE Y.W σ)
  h0 : ∀ (X' : Cx) (σ : St), PassesAt CX X' σ (WE (fun _ _ _ _ => False) σ)
  ng : ∀ f : BI, X.mg (biName f) = none
  nm : ∀ x ∈ (["range", "zip", "reversed", "enumerate", "isinstance"] : List Str), X.mg x = none
  gl : ∀ x v, Y.p.globs.lookup x = some v → ∃ w u, X.mg x = some u ∧ RelV w u ∧ ∀ H, Rp true (bX Y.X) H v w []
section
variable {Y : Cz} {X : Cx} {CX : CXT} {k : Nat} {src : Str → Stmt}
theorem Bun.sub (B : Bun Y X CX k src) (Z : Addr → Prop) (R : Nat → Option V) (Q : Nat → PV → V → List Addr → Prop) : Bun (Y.sub Z R Q) X CX k src :=
  ⟨⟨B.O.ok, B.O.K, B.O.w, B.O.hu⟩, B.hc, B.D, B.hr, B.hx, B.h0, B.ng, B.nm, B.gl⟩
theorem Bun.cmp (B : Bun Y X CX k src) (Z : Addr → Prop) (R : Nat → Option V) (Q : Nat → PV → V → List Addr → Prop) (s : Shared) (H : Hp) (scope : Scope) (cenv : Env) (fp : List Addr) : Bun (Y.cmp Z R Q) (X.blk s H scope cenv fp) CX k src :=
  ⟨⟨B.O.ok, B.O.K, B.O.w, B.O.hu⟩, B.hc, fun f d h => ⟨(B.D f d h).ex⟩, B.hr, fun σ => B.h0 _ σ, B.h0, B.ng, B.nm, B.gl⟩
end
end DI
set_option Elab.async false
set_option linter.all false
set_option maxRecDepth 100000
set_option maxHeartbeats 1000000
/-! DIS24: the rules as a printer of walks uses them. -/
namespace DI
open PySem PySem.Spec PyProof.Rows L2

section
variable {Y : Cz} {X : Cx} {CX : CXT} {k : Nat} {src : Str → Stmt} {a b c e o tg it elt : Expr} {as bs : List Expr} {ea eb ec ee eo el eh : E} {es : List E} {pos p p1 p2 pos2 ap cp px py pt : Pos}
theorem g_v {i : Nat} {x : Str} (hN : X.N[i]? = some x := by rfl) (hv : Vis X.env.scope x := by first | exact .inl rfl | exact .inr (.inl rfl) | exact .inr (.inr rfl)) (hd : (x == ("__debug__" : Str)) = false := by decide) (hcd : (x == ("__classdict__" : Str)) = false := by decide) : PE X (.Name x pos) (RdB Y (.var i)) := pe_v hN hv hd hcd
theorem g_pv {i : Nat} {x : Str} (hN : X.N[i]? = some x := by rfl) (hv : Vis X.env.scope x := by first | exact .inl rfl | exact .inr (.inl rfl) | exact .inr (.inr rfl)) (hd : (x == ("__debug__" : Str)) = false := by decide) (hcd : (x == ("__classdict__" : Str)) = false := by decide) : PE X (.Name x pos) (RdP Y (.var i)) := pp_v hN hv hd hcd
theorem g_int (B : Bun Y X CX k src) {i : Int} {j : Nat} : PE X (.Constant (.int i) j pos) (RdB Y (.int i)) := pe_cint B.O
theorem g_str (B : Bun Y X CX k src) {i : Str} {j : Nat} : PE X (.Constant (.str i) j pos) (RdB Y (.str i)) := pe_cstr B.O
theorem g_bl (B : Bun Y X CX k src) {i : Bool} {j : Nat} : PE X (.Constant (.bool i) j pos) (RdB Y (.bl i)) := pe_cbl B.O
theorem g_non (B : Bun Y X CX k src) {j : Nat} : PE X (.Constant .none j pos) (RdB Y .non) := pe_cnon B.O
theorem g_g (B : Bun Y X CX k src) {x : Str} {v : PV} (hg : Gl X x := by rfl) (hp : Y.p.globs.lookup x = some v := by rfl) (hd : (x == ("__debug__" : Str)) = false := by decide) : PE X (.Name x pos) (RdB Y (.glob x)) := by
  obtain ⟨w, u, hm, r, hr⟩ := B.gl x v hp
  exact pe_g B.O hg hm r hp (fun H => Rp.sub.mpr (hr H)) hd
theorem g_bin (B : Bun Y X CX k src) {op : Operator} (ha : PE X a (RdB Y ea)) (hb : PE X b (RdB Y eb)) : PE X (.BinOp a op b pos) (RdB Y (.bin op ea eb)) := pe_bin B.O ha hb
theorem g_cmp (B : Bun Y X CX k src) {op : CmpOp} (ha : PE X a (RdB Y ea)) (hb : PE X b (RdB Y eb)) (hs : ∀ es k p, b ≠ .Set es k p := by intro _ _ _ h; cases h) : PE X (.Compare a [op] [b] pos) (RdB Y (.cmp op ea eb)) := pe_cmp' B.O ha hb hs
theorem g_ix (B : Bun Y X CX k src) (ha : PE X a (RdB Y ea)) (hb : PE X b (RdB Y eb)) (hs : PlainIx b := by intro _ _; rfl) : PE X (.Subscript a b pos) (RdB Y (.ix ea eb)) := pe_ix' B.O ha hb hs
theorem g_pix (B : Bun Y X CX k src) (ha : PE X a (RdP Y ea)) (hb : PE X b (RdB Y eb)) (hs : PlainIx b := by intro _ _; rfl) : PE X (.Subscript a b pos) (RdP Y (.ix ea eb)) := pp_ix B.O ha hb hs
theorem g_cons (h : PE X a (RdB Y ea)) (t : Alls Y X as es) (hs : starEach (a :: as) X.env = (false, eval a X.env) :: starEach as X.env := by rfl) : Alls Y X (a :: as) (ea :: es) := .cons h hs t
theorem g_bi (B : Bun Y X CX k src) (f : BI) (h : Alls Y X (a :: as) es) (hg : Gl X (biName f) := by rfl) : PE X (.Call (.Name (biName f) p) (a :: as) [] pos) (RdB Y (.bi f es)) := pe_bi B.O B.hc h hg (B.ng f)
theorem g_call (B : Bun Y X CX k src) {f : Str} {d : Def} (h : Alls Y X (a :: as) es) (hd : Y.p.defs.lookup f = some d := by rfl) (hl : d.muts.length = d.np := by rfl) (hg : Gl X f := by rfl) (hdb : (f == ("__debug__" : Str)) = false := by decide) : PE X (.Call (.Name f p) (a :: as) [] pos) (RdB Y (.call f es)) :=
  pe_call' B.O B.D B.hr B.hx hd hl hg h hdb
theorem g_call0 (B : Bun Y X CX k src) {f : Str} {d : Def} (hd : Y.p.defs.lookup f = some d := by rfl) (hl : d.muts.length = d.np := by rfl) (hg : Gl X f := by rfl) (hdb : (f == ("__debug__" : Str)) = false := by decide) : PE X (.Call (.Name f p) [] [] pos) (RdB Y (.call f [])) :=
  pe_call0' B.O B.D B.hr B.hx hd hl hg hdb
theorem nm_of (B : Bun Y X CX k src) {x : Str} (h : x ∈ (["range", "zip", "reversed", "enumerate", "isinstance"] : List Str)) : X.mg x = none := B.nm x h
theorem g_range (B : Bun Y X CX k src) : X.mg "range" = none := B.nm _ (by simp)
theorem g_zipn (B : Bun Y X CX k src) : X.mg "zip" = none := B.nm _ (by simp)
theorem g_revn (B : Bun Y X CX k src) : X.mg "reversed" = none := B.nm _ (by simp)
theorem g_isin (B : Bun Y X CX k src) : X.mg "isinstance" = none := B.nm _ (by simp)
theorem g_isi (B : Bun Y X CX k src) (t : Ty) (ha : PE X a (RdB Y ea)) (h2 : X.mg (tyS t) = none) (ht : tyB t = true := by rfl) (hg : Gl X "isinstance" := by rfl) (hg2 : Gl X (tyS t) := by rfl)
    (hs : starEach [a, .Name (tyS t) p2] X.env = (false, eval a X.env) :: starEach [.Name (tyS t) p2] X.env := by rfl) (hs2 : starEach [.Name (tyS t) p2] X.env = (false, eval (.Name (tyS t) p2) X.env) :: starEach [] X.env := by rfl) (hpl : (backTo pos (starEach [.Name (tyS t) p2] X.env)).any (·.1) = false := by rfl) :
    PE X (.Call (.Name "isinstance" p) [a, .Name (tyS t) p2] [] pos) (RdB Y (.isi ea [t])) := pe_isi1 B.O ht hg (g_isin B) hg2 h2 ha hs hs2 hpl
theorem g_sl0 (B : Bun Y X CX k src) (ha : PE X a (RdB Y ea)) : PE X (.Subscript a (.Slice none none none p2) pos) (RdB Y (.sl ea .non .non)) := pe_sl' B.O ha (.inl ⟨rfl, rfl⟩) (.inl ⟨rfl, rfl⟩)
theorem g_slL (B : Bun Y X CX k src) (ha : PE X a (RdB Y ea)) (hl : PE X b (RdB Y el)) (n : el ≠ .non := by intro h; cases h) : PE X (.Subscript a (.Slice (some b) none none p2) pos) (RdB Y (.sl ea el .non)) := pe_sl' B.O ha (.inr ⟨b, rfl, n, hl⟩) (.inl ⟨rfl, rfl⟩)
theorem g_slH (B : Bun Y X CX k src) (ha : PE X a (RdB Y ea)) (hl : PE X b (RdB Y el)) (n : el ≠ .non := by intro h; cases h) : PE X (.Subscript a (.Slice none (some b) none p2) pos) (RdB Y (.sl ea .non el)) := pe_sl' B.O ha (.inl ⟨rfl, rfl⟩) (.inr ⟨b, rfl, n, hl⟩)
theorem g_slB (B : Bun Y X CX k src) (ha : PE X a (RdB Y ea)) (hl : PE X b (RdB Y el)) (hh : PE X c (RdB Y eh)) (n : el ≠ .non := by intro h; cases h) (m : eh ≠ .non := by intro h; cases h) : PE X (.Subscript a (.Slice (some b) (some c) none p2) pos) (RdB Y (.sl ea el eh)) := pe_sl' B.O ha (.inr ⟨b, rfl, n, hl⟩) (.inr ⟨c, rfl, m, hh⟩)
/-! ### comprehensions -/
theorem g_cmp0 (B : Bun Y X CX k src) (hN : X.N.Nodup) {eelt : E} {t : Tg} {DIit : DI.It} {cs : List E} {ifs : List Expr} {scope : Scope} {ow : List Nat} (own : List (Str × Nat)) (hi : PI X tg it (RdI Y DIit)) (how : own.map (·.2) = ow)
    (hg : ∀ Z R Q s H C cl fp, PG (X.blk s H scope (compEnvC scope cl C X.env) fp) tg (RdG (Y.cmp Z R Q) (PW1 ow) t)) (ht : ∀ Z R Q s H C cl fp, PTs (X.blk s H scope (compEnvC scope cl C X.env) fp) ifs (RdTs (Y.cmp Z R Q) cs))
    (he : ∀ Z R Q s H C cl fp, PE (X.blk s H scope (compEnvC scope cl C X.env) fp) elt (RdB (Y.cmp Z R Q) eelt)) (ok : blkC X.N X.env.scope scope own = true := by kernel_rfl) (hs : ∀ x, foldedSetIterable it X.env x = pure x := by intro _; rfl) :
    PE X (.ListComp elt [⟨tg, it, ifs, 0⟩] scope pos) (RdB Y (.comp eelt t DIit cs ow)) := by
  subst how
  exact pe_cmp0 B.O B.hc hN hi (blkOk_by ok) hg ht he hs
theorem g_setcmp (B : Bun Y X CX k src) (hN : X.N.Nodup) {i : Nat} {y : Str} {eelt : E} {t : Tg} {DIit : DI.It} {cs : List E} {ifs : List Expr} {scope : Scope} {ow : List Nat} {spos : Pos} (own : List (Str × Nat)) (hi : PI X tg it (RdI Y DIit)) (how : own.map (·.2) = ow)
    (hg : ∀ Z R Q s H C cl fp, PG (X.blk s H scope (compEnvC scope cl C X.env) fp) tg (RdG (Y.cmp Z R Q) (PW1 ow) t)) (ht : ∀ Z R Q s H C cl fp, PTs (X.blk s H scope (compEnvC scope cl C X.env) fp) ifs (RdTs (Y.cmp Z R Q) cs))
    (he : ∀ Z R Q s H C cl fp, PE (X.blk s H scope (compEnvC scope cl C X.env) fp) elt (RdB (Y.cmp Z R Q) eelt)) (hsw : swapsWith (.ListComp elt [⟨tg, it, ifs, 0⟩] scope pos) (some (.Name y p1)) spos.line X.env = pure true) (hy : X.N[i]? = some y := by rfl) (hyl : X.env.scope.names.lookup y = some .local := by rfl) 
    (ok : blkC X.N X.env.scope scope own = true := by kernel_rfl) (hs : ∀ x, foldedSetIterable it X.env x = pure x := by intro _; rfl) :
    PS X (.Assign [.Name y p1] (.ListComp elt [⟨tg, it, ifs, 0⟩] scope pos) spos) (RdS Y (.asg (.v i) (.comp eelt t DIit cs ow))) := by
  subst how
  exact ps_setcmp B.O B.hc hN hy hyl hsw hi (blkOk_by ok) hg ht he hs
/-- the target of a comprehension -/
theorem g_tw (O : Ok0 Y X) {i : Nat} {x : Str} {ow : List Nat} (hN : X.N.Nodup) (hm : i ∈ ow := by decide) (hi : X.N[i]? = some x := by rfl) (hx : Loc X.env.scope x := by first | exact .inl rfl | exact .inr rfl) (hf : X.fn x = true ∨ X.env.scope.names.lookup x = some .local := by first | exact .inl rfl | exact .inr rfl) : PG X (.Name x pos) (RdG Y (PW1 ow) (.v i)) :=
  pg_v O hN hi hx hf (pw1_set hm)
theorem g_tv (O : Ok0 Y X) {i : Nat} {x : Str} (hN : X.N.Nodup) (hi : X.N[i]? = some x := by rfl) (hx : Loc X.env.scope x := by first | exact .inl rfl | exact .inr rfl) (hf : X.fn x = true ∨ X.env.scope.names.lookup x = some .local := by first | exact .inl rfl | exact .inr rfl) : PG X (.Name x pos) (RdG Y PT0 (.v i)) :=
  pg_v O hN hi hx hf (fun _ _ => trivial)
theorem g_tcons {P : St → St → Prop} {t : Tg} {ts : List Tg} (h : PG X a (RdG Y P t)) (t' : Tgs Y X P as ts) (hs : (assignEach (a :: as) X.env).map (·.2) = assign a X.env :: (assignEach as X.env).map (·.2) := by rfl) : Tgs Y X P (a :: as) (t :: ts) := .cons h hs t'
theorem g_tt (B : Bun Y X CX k src) {P : St → St → Prop} (pr : Pr P) {ts : List Tg} {kk : Nat} (h : Tgs Y X P as ts) (hn : (assignEach as X.env).length = as.length := by rfl) (hst : (assignEach as X.env).findIdx? (·.1) = none := by rfl) : PG X (.Tuple as kk pos) (RdG Y P (.t ts)) := pg_t B.O B.hc pr h hn hst
/-! ### statements -/
theorem g_set (B : Bun Y X CX k src) {i : Nat} {x : Str} (hN : X.N.Nodup) (he : PE X e (RdB Y ee)) (hi : X.N[i]? = some x := by rfl) (hx : Loc X.env.scope x := by first | exact .inl rfl | exact .inr rfl) (hf : X.fn x = true ∨ X.env.scope.names.lookup x = some .local := by first | exact .inl rfl | exact .inr rfl)
    (hs : swapsWith e (some (.Name x p1)) pos.line X.env = pure false := by rfl) : PS X (.Assign [.Name x p1] e pos) (RdS Y (.asg (.v i) ee)) := ps_setv B.O hN hi hx hf he hs
theorem g_sett (B : Bun Y X CX k src) {ts : List Tg} (hg : PG X tg (RdG Y PT0 (.t ts))) (he : PE X e (RdB Y ee)) (hs : swapsWithSole [tg] e pos.line X.env = pure false := by rfl) (hw : swappedStores [tg] e X.env = pure none := by rfl) (h1 : (assignEach [tg] X.env).map (·.2) = [assign tg X.env] := by rfl) :
    PS X (.Assign [tg] e pos) (RdS Y (.asg (.t ts) ee)) := ps_sett B.O hg he hs hw h1
theorem g_par2 (B : Bun Y X CX k src) {i j : Nat} {x y : Str} {kt k2 : Nat} {pt2 : Pos} (hN : X.N.Nodup) (ha : Alls Y X [a, b] [ea, eb]) (hi : X.N[i]? = some x := by rfl) (hj : X.N[j]? = some y := by rfl) (hij : i ≠ j := by decide) (hx : X.env.scope.names.lookup x = some .local := by rfl) (hy : X.env.scope.names.lookup y = some .local := by rfl)
    (hw : swappedStores [.Tuple [.Name x px, .Name y py] kt pt] (.Tuple [a, b] k2 pt2) X.env = pure (some [x, y]) := by rfl) (hs : swapsWithSole [.Tuple [.Name x px, .Name y py] kt pt] (.Tuple [a, b] k2 pt2) pos.line X.env = pure false := by rfl) :
    PS X (.Assign [.Tuple [.Name x px, .Name y py] kt pt] (.Tuple [a, b] k2 pt2) pos) (RdS Y (.par [i, j] [ea, eb])) := ps_par2 B.O B.hc hN hi hj hij hx hy ha hw hs
theorem g_setix (B : Bun Y X CX k src) (ho : PE X o (RdP Y eo)) (hi : PE X b (RdB Y eb)) (he : PE X e (RdB Y ee)) (ha : ∀ v, assign (.Subscript o b p1) X.env v = (do
      let ov ← holding [v] (eval o X.env)
      let iv ← holding [v, ov] (eval b X.env)
      standAt p1
      holding [v, ov, iv] (setItem ov iv v)
      release [v, ov, iv] []) := by intro _; rfl)
    (hs : swapsWithSole [.Subscript o b p1] e pos.line X.env = pure false := by rfl) (hw : swappedStores [.Subscript o b p1] e X.env = pure none := by rfl) (h1 : (assignEach [.Subscript o b p1] X.env).map (·.2) = [assign (.Subscript o b p1) X.env] := by rfl) :
    PS X (.Assign [.Subscript o b p1] e pos) (RdS Y (.setix eo eb ee)) := ps_setix B.O ho hi he ha hs hw h1
theorem g_aug (B : Bun Y X CX k src) {op : Operator} {i : Nat} {x : Str} (hN : X.N.Nodup) (he : PE X e (RdB Y ee)) (hi : X.N[i]? = some x := by rfl) (hx : Loc X.env.scope x := by first | exact .inl rfl | exact .inr rfl) (hf : X.fn x = true ∨ X.env.scope.names.lookup x = some .local := by first | exact .inl rfl | exact .inr rfl) :
    PS X (.AugAssign (.Name x p1) op e pos) (RdS Y (.aug i op ee)) := ps_augv B.O hN hi hx hf he
theorem g_augix (B : Bun Y X CX k src) {op : Operator} (ho : PE X o (RdP Y eo)) (hi : PE X b (RdB Y eb)) (he : PE X e (RdB Y ee)) (ha : ∀ ov iv new, augStore b ov iv new = (do holding [new, ov, iv] (setItem ov iv new); release [new, ov, iv] []; pure .next) := by intros; rfl) :
    PS X (.AugAssign (.Subscript o b p1) op e pos) (RdS Y (.augix eo eb op ee)) := ps_augix B.O ho hi he ha
theorem g_append (B : Bun Y X CX k src) (ho : PE X o (RdP Y eo)) (ha : Alls Y X (a :: as) es) (hbase : attributeBase o "append" X.env (eval o X.env) = eval o X.env := by rfl)
    (hfew : ((backTo cp (starEach (a :: as) X.env)).all (fun x => !x.1) && (backToKw cp (keywordEach [] X.env)).all (fun x => x.1.isSome) && decide ((a :: as).length + ([] : List Keyword).length + (if ([] : List Keyword).isEmpty then 0 else 1) < 30)) = true := by rfl)
    (hline : (ap.endLine == cp.line) = true := by rfl) (hsw : swapsWith (.Call (.Attribute o "append" ap) (a :: as) [] cp) none pos.line X.env = pure false := by rfl) : PS X (.Expr (.Call (.Attribute o "append" ap) (a :: as) [] cp) pos) (RdS Y (.mu .append eo es)) := ps_append B.O ho ha hbase hfew hline hsw
theorem g_extend (B : Bun Y X CX k src) (ho : PE X o (RdP Y eo)) (ha : Alls Y X (a :: as) es) (hbase : attributeBase o "extend" X.env (eval o X.env) = eval o X.env := by rfl)
    (hfew : ((backTo cp (starEach (a :: as) X.env)).all (fun x => !x.1) && (backToKw cp (keywordEach [] X.env)).all (fun x => x.1.isSome) && decide ((a :: as).length + ([] : List Keyword).length + (if ([] : List Keyword).isEmpty then 0 else 1) < 30)) = true := by rfl)
    (hline : (ap.endLine == cp.line) = true := by rfl) (hsw : swapsWith (.Call (.Attribute o "extend" ap) (a :: as) [] cp) none pos.line X.env = pure false := by rfl) : PS X (.Expr (.Call (.Attribute o "extend" ap) (a :: as) [] cp) pos) (RdS Y (.mu .extend eo es)) := ps_extend B.O ho ha hbase hfew hline hsw
theorem g_insert (B : Bun Y X CX k src) (ho : PE X o (RdP Y eo)) (ha : Alls Y X (a :: as) es) (hbase : attributeBase o "insert" X.env (eval o X.env) = eval o X.env := by rfl)
    (hfew : ((backTo cp (starEach (a :: as) X.env)).all (fun x => !x.1) && (backToKw cp (keywordEach [] X.env)).all (fun x => x.1.isSome) && decide ((a :: as).length + ([] : List Keyword).length + (if ([] : List Keyword).isEmpty then 0 else 1) < 30)) = true := by rfl)
    (hline : (ap.endLine == cp.line) = true := by rfl) (hsw : swapsWith (.Call (.Attribute o "insert" ap) (a :: as) [] cp) none pos.line X.env = pure false := by rfl) : PS X (.Expr (.Call (.Attribute o "insert" ap) (a :: as) [] cp) pos) (RdS Y (.mu .insert eo es)) := ps_insert B.O ho ha hbase hfew hline hsw
theorem g_reverse (B : Bun Y X CX k src) (ho : PE X o (RdP Y eo)) (hbase : attributeBase o "reverse" X.env (eval o X.env) = eval o X.env := by rfl) (hline : (ap.endLine == cp.line) = true := by rfl) (hsw : swapsWith (.Call (.Attribute o "reverse" ap) [] [] cp) none pos.line X.env = pure false := by rfl) :
    PS X (.Expr (.Call (.Attribute o "reverse" ap) [] [] cp) pos) (RdS Y (.mu .reverse eo [])) := ps_reverse B.O ho hbase hline hsw
theorem g_pop (B : Bun Y X CX k src) (ho : PE X o (RdP Y eo)) (hbase : attributeBase o "pop" X.env (eval o X.env) = eval o X.env := by rfl) (hline : (ap.endLine == cp.line) = true := by rfl) : PE X (.Call (.Attribute o "pop" ap) [] [] cp) (RdB Y (.pop eo [])) := pe_pop B.O ho hbase hline
theorem g_popAt (B : Bun Y X CX k src) (ho : PE X o (RdP Y eo)) (ha : Alls Y X [a] es) (hbase : attributeBase o "pop" X.env (eval o X.env) = eval o X.env := by rfl)
    (hfew : ((backTo cp (starEach [a] X.env)).all (fun x => !x.1) && (backToKw cp (keywordEach [] X.env)).all (fun x => x.1.isSome) && decide ([a].length + ([] : List Keyword).length + (if ([] : List Keyword).isEmpty then 0 else 1) < 30)) = true := by rfl)
    (hline : (ap.endLine == cp.line) = true := by rfl) : PE X (.Call (.Attribute o "pop" ap) [a] [] cp) (RdB Y (.pop eo es)) := pe_popAt B.O ho ha hbase hfew hline
theorem g_ex (B : Bun Y X CX k src) (he : PE X e (RdB Y ee)) (hs : swapsWith e none pos.line X.env = pure false := by rfl) : PS X (.Expr e pos) (RdS Y (.ex ee)) := ps_ex B.O he hs
theorem g_for (B : Bun Y X CX k src) (hp : PassesOwn (model X.prog X.w) X.A X.env X.xe) {DIit : DI.It} {t : Tg} {st : List Stmt} {ss : List S} (hi : PI X tg it (RdI Y DIit)) (hg : ∀ Z R Q, PG X tg (RdG (Y.sub Z R Q) PT0 t)) (hb : ∀ Z R Q, PSs X st (RdSs (Y.sub Z R Q) ss))
    (hs : ∀ x, foldedSetIterable it X.env x = pure x := by intro _; rfl) : PS X (.For tg it st [] pos) (RdS Y (.for t DIit ss)) := ps_fr B.O B.hc hp hi hg hb hs
theorem g_z (B : Bun Y X CX k src) {elts : List Expr} {kk : Nat} {tpos : Pos} {e2 : Expr} {ef : E} (h1 : PE X e (RdB Y ee)) (h2 : PE X e2 (RdB Y ef)) (hg : Gl X "zip" := by rfl) (hs : starEach [e, e2] X.env = (false, eval e X.env) :: starEach [e2] X.env := by rfl) (hs2 : starEach [e2] X.env = (false, eval e2 X.env) :: starEach [] X.env := by rfl) (hpl : (backTo pos (starEach [e2] X.env)).any (·.1) = false := by rfl) :
    PI X (.Tuple elts kk tpos) (.Call (.Name "zip" p) [e, e2] [] pos) (RdI Y (.zip ee ef)) := pi_z B.O hg (g_zipn B) h1 h2 hs hs2 hpl
theorem g_rev (B : Bun Y X CX k src) (he : PE X e (RdB Y ee)) (hg : Gl X "reversed" := by rfl) (hs : starEach [e] X.env = (false, eval e X.env) :: starEach [] X.env := by rfl) : PI X tg (.Call (.Name "reversed" p) [e] [] pos) (RdI Y (.rev ee)) := pi_rev B.O hg (g_revn B) he hs
theorem g_r1 (B : Bun Y X CX k src) (ha : Alls Y X [e] [ee]) (hg : Gl X "range" := by rfl) : PI X tg (.Call (.Name "range" p) [e] [] pos) (RdI Y (.range [ee])) := pi_r1 B.O hg (g_range B) ha
theorem g_r2 (B : Bun Y X CX k src) {e2 : Expr} {ef : E} (ha : Alls Y X [e, e2] [ee, ef]) (hg : Gl X "range" := by rfl) : PI X tg (.Call (.Name "range" p) [e, e2] [] pos) (RdI Y (.range [ee, ef])) := pi_r2 B.O hg (g_range B) ha
theorem g_r3 (B : Bun Y X CX k src) {e2 e3 : Expr} {ef eg : E} (ha : Alls Y X [e, e2, e3] [ee, ef, eg]) (hg : Gl X "range" := by rfl) : PI X tg (.Call (.Name "range" p) [e, e2, e3] [] pos) (RdI Y (.range [ee, ef, eg])) := pi_r3 B.O hg (g_range B) ha
theorem g_tupr (B : Bun Y X CX k src) (ha : Alls Y X (a :: as) es) (hg0 : Gl X "tuple" := by rfl) (hg : Gl X "range" := by rfl) (na : starEach [.Call (.Name "range" p2) (a :: as) [] pos2] X.env = (false, eval (.Call (.Name "range" p2) (a :: as) [] pos2) X.env) :: starEach [] X.env := by rfl) :
    PE X (.Call (.Name "tuple" p) [.Call (.Name "range" p2) (a :: as) [] pos2] [] pos) (RdB Y (.tupI (.range es))) := pe_tupRange B.O B.hc hg0 (B.ng .tuple) hg (g_range B) ha na
theorem g_kcall0 (B : Bun Y X CX k src) {f : Str} {d : Def} {perm : List Nat} {kws : List Keyword} {ks : List E} {ns : List Str} {ps : List Str} (h : AllKs Y X kws ks)
    (hb : ∀ (kV doc pm : Value) (an : Option Addr) (cdv ct : Value) (ws : List Value), ws.length = ks.length → bindArgs (PySem.W.fnOf f f (defArgs (src f)) (defBody (src f)) (defScope (src f)) .none kV doc pm an cdv ct) ⟨[], ns.zip ws⟩ = pure (ps.zip (permL perm ws)))
    (hd : Y.p.defs.lookup f = some d := by rfl) (hl : d.muts.length = d.np := by rfl) (hp : perm.length = d.np := by rfl) (hg : Gl X f := by rfl) (hdb : (f == ("__debug__" : Str)) = false := by decide) (hall : (backToKw pos (keywordEach kws X.env)).all (·.1.isSome) = true := by rfl) (hks : (backToKw pos (keywordEach kws X.env)).filterMap (·.1) = ns := by rfl)
    (hpl : ((backTo pos (starEach [] X.env)).any (·.1) || (backToKw pos (keywordEach kws X.env)).any (·.1.isNone)) = false := by rfl) (hps : ((defArgs (src f)).args.map (·.arg)) = ps := by rfl) :
    PE X (.Call (.Name f p) [] kws pos) (RdB Y (.callk f perm [] ks)) := pe_kcall0 B.O B.D B.hr B.hx hd hl hp hg h hdb hall hks hpl hps hb
theorem g_kcall (B : Bun Y X CX k src) {f : Str} {d : Def} {perm : List Nat} {kws : List Keyword} {ks : List E} {ns : List Str} {ps : List Str} (ha : Alls Y X (a :: as) es) (h : AllKs Y X kws ks)
    (hb : ∀ (kV doc pm : Value) (an : Option Addr) (cdv ct : Value) (us ws : List Value), us.length = es.length → ws.length = ks.length → bindArgs (PySem.W.fnOf f f (defArgs (src f)) (defBody (src f)) (defScope (src f)) .none kV doc pm an cdv ct) ⟨us, ns.zip ws⟩ = pure (ps.zip (permL perm (us ++ ws))))
    (hd : Y.p.defs.lookup f = some d := by rfl) (hl : d.muts.length = d.np := by rfl) (hp : perm.length = d.np := by rfl) (hg : Gl X f := by rfl) (hdb : (f == ("__debug__" : Str)) = false := by decide) (hall : (backToKw pos (keywordEach kws X.env)).all (·.1.isSome) = true := by rfl) (hks : (backToKw pos (keywordEach kws X.env)).filterMap (·.1) = ns := by rfl)
    (hpl : ((backTo pos (starEach (a :: as) X.env)).any (·.1) || (backToKw pos (keywordEach kws X.env)).any (·.1.isNone)) = false := by rfl) (hps : ((defArgs (src f)).args.map (·.arg)) = ps := by rfl) :
    PE X (.Call (.Name f p) (a :: as) kws pos) (RdB Y (.callk f perm es ks)) := pe_kcall B.O B.D B.hr B.hx hd hl hp hg ha h hdb hall hks hpl hps hb
end
end DI
set_option Elab.async false
set_option linter.all false
set_option maxRecDepth 100000
set_option maxHeartbeats 1000000
/-! DIS25: all defs of a program keep their promises, at every level. -/
namespace DI
open PySem PySem.Spec PyProof.Rows L2

/-- a def's text, walked once -/
structure WalkOk (p : Prog) (src : Str → Stmt) (CX : Program → World → CXT) (f : Str) (d : Def) : Prop where
  ex : ∃ (N ps : List Str), FnScope N ps (defScope (src f)) ∧ d.nl = N.length ∧ ps = ((defArgs (src f)).args.map (·.arg)) ∧ ps.length = d.np ∧
    (∀ (kV doc pm : Value) (an : Option Addr) (cdv ct : Value) (us : List Value), us.length = ps.length → bindArgs (PySem.W.fnOf f f (defArgs (src f)) (defBody (src f)) (defScope (src f)) .none kV doc pm an cdv ct) ⟨us, []⟩ = pure (ps.zip us)) ∧
    ∀ (P : Program) (w : World) (K : PySem.W.Frag) (mg : Str → Option Value) (base : Heap) (k : Nat) (cf : Str → List PV → CR) (fu : Nat) (XX : KX) (W : WX) (er : Str → List PV → Value → Option Addr → Hp → Prop) (fa : Addr) (cdv : Value) (A : Around) (outer : List Env) (s : Shared) (H : Hp) (E : XK),
      Bun ⟨XX, p, cf, fu, W, er⟩ (cxOf (CX P w) P w K mg base N f (defScope (src f)) fa cdv A outer s H E) (CX P w) k src →
      PSs (cxOf (CX P w) P w K mg base N f (defScope (src f)) fa cdv A outer s H E) (defBody (src f)) (RdSs ⟨XX, p, cf, fu, W, er⟩ d.body)
theorem lookup_in {α : Type} : ∀ {l : List (Str × α)} {f : Str} {d : α}, l.lookup f = some d → (f, d) ∈ l
  | [], f, d, h => by cases h
  | (a, b) :: l, f, d, h => by
    rw [List.lookup_cons] at h
    by_cases e : (f == a) = true
    · rw [e] at h
      cases h
      have := beq_iff_eq.mp e
      subst this
      exact List.mem_cons_self
    · have e' : (f == a) = false := by simpa using e
      rw [e'] at h
      exact List.mem_cons_of_mem _ (lookup_in h)
/-- what stands behind the top -/
structure Facts (p : Prog) (src : Str → Stmt) (K : PySem.W.Frag) (mg : Str → Option Value) (KB : KX) : Prop where
  fn : ∀ q ∈ p.defs, ∃ a fd, mg q.1 = some (.ref a) ∧ FunD K q.1 q.1 (defArgs (src q.1)) (defBody (src q.1)) (defScope (src q.1)) [] [] a fd
  ng : ∀ f : BI, mg (biName f) = none
  nm : ∀ x ∈ (["range", "zip", "reversed", "enumerate", "isinstance"] : List Str), mg x = none
  gl : ∀ x v, p.globs.lookup x = some v → ∃ w u, mg x = some u ∧ RelV w u ∧ ∀ H, Rp true KB H v w []
abbrev kb (K : PySem.W.Frag) (w : World) (ea : Addr → Str → List PV → Hp → Prop) : KX := ⟨K, w, ea, fun _ => False, fun _ => none, fun _ _ _ G => ∀ b ∈ G, False⟩
def DefP (P : Program) (w : World) (K : PySem.W.Frag) (mg : Str → Option Value) (base : Heap) (CX : CXT) (k : Nat) (KB : KX) (er : Str → List PV → Value → Option Addr → Hp → Prop) (cf : Str → List PV → CR) (src : Str → Stmt) (f : Str) (d : Def) : Prop :=
  ∃ a fd ps, mg f = some (.ref a) ∧ FunD K f f (defArgs (src f)) (defBody (src f)) (defScope (src f)) [] [] a fd ∧ Binds K fd ps [] ∧ FnOk P w K mg base CX k a fd ps (spI KB er d (cf f)) ∧ ps = ((defArgs (src f)).args.map (·.arg))
theorem all_ok {p : Prog} {fu : Nat} {src : Str → Stmt} {CX : Program → World → CXT} {P : Program} {w : World} {K : PySem.W.Frag} {mg : Str → Option Value} {base : Heap} {ea : Addr → Str → List PV → Hp → Prop} {er : Str → List PV → Value → Option Addr → Hp → Prop}
    (okX : (kb K w ea).Ok) (hw : ∀ q ∈ p.defs, WalkOk p src CX q.1 q.2) (hF : Facts p src K mg (kb K w ea))
    (hx : ∀ (N : List Str) (q : Str) (sc : Scope) (fa : Addr) (cdv : Value) (A : Around) (outer : List Env) (s : Shared) (H : Hp) (E : XK) (σ : St), PassesAt (CX P w) (cxOf (CX P w) P w K mg base N q sc fa cdv A outer s H E) σ (WE (fun cls d _ H => E cls d H) σ))
    (h0 : ∀ (X' : Cx) (σ : St), PassesAt (CX P w) X' σ (WE (fun _ _ _ _ => False) σ)) :
    ∀ (k : Nat) (f : Str) (d : Def), p.defs.lookup f = some d → DefP P w K mg base (CX P w) k (kb K w ea) er (callI p fu k) src f d := by
  intro k
  induction k with
  | zero =>
    intro f d hd
    have hm := lookup_in hd
    obtain ⟨a, fd, g, F⟩ := hF.fn (f, d) hm
    obtain ⟨N, ps, sc, hnl, hps, hnp, hb, _⟩ := (hw (f, d) hm).ex
    refine ⟨a, fd, ps, g, F, F.bindsN hb, ⟨fun vs H Q E h => ?_, fun A outer s H args us vs Q E hr e0 hbd hv h => ?_⟩, hps⟩
    · obtain ⟨Z, vs', fp, h1, _⟩ := h
      rw [h1, hnp]
    · obtain ⟨Z, vs', fp, _, _, _, _, h⟩ := h
      exact h.elim
  | succ k ih =>
    intro f d hd
    have hm := lookup_in hd
    obtain ⟨a, fd, g, F⟩ := hF.fn (f, d) hm
    obtain ⟨N, ps, sc, hnl, hps, hnp, hb, wk⟩ := (hw (f, d) hm).ex
    refine ⟨a, fd, ps, g, F, F.bindsN hb, ?_, hps⟩
    have ec : callI p fu (k + 1) f = fun vs => if vs.length = d.np ∧ d.muts.length = d.np ∧ d.np ≤ d.nl then callEnd d (exSs p (callI p fu k) fu d.body (startE d vs)) else .bad := by
      funext vs
      show (match p.defs.lookup f with | none => CR.bad | some d => if vs.length = d.np ∧ d.muts.length = d.np ∧ d.np ≤ d.nl then callEnd d (exSs p (callI p fu k) fu d.body (startE d vs)) else .bad) = _
      rw [hd]
    rw [ec]
    refine fn_I F sc hnl hnp fun cdv A outer s H E Z R hr => ?_
    refine wk P w K mg base k (callI p fu k) fu _ _ er a cdv A outer s H E ⟨⟨okX, rfl, rfl, ?_⟩, ?_, fun f' d' h' => ⟨ih f' d' h'⟩, hr, fun σ => hx N f (defScope (src f)) a cdv A outer s H E σ, h0, hF.ng, hF.nm, hF.gl⟩
    · show (A.deeper _).units + 200 < cLine
      have := hr.un
      omega
    · rfl
end DI
set_option Elab.async false
set_option linter.all false
set_option maxRecDepth 100000
set_option maxHeartbeats 1000000
/-! DIS26: from a law's value in the interpreter to what the head wants of its def. -/
namespace DI
open PySem PySem.Spec PyProof.Rows L2

abbrev ea0 : Addr → Str → List PV → Hp → Prop := fun _ _ _ _ => False
abbrev er0 : Str → List PV → Value → Option Addr → Hp → Prop := fun _ _ _ _ _ => False
theorem rp_ints {m : Bool} {X : KX} {H : Hp} : ∀ ns : List Int, RpL m X H (ns.map PV.int) (ns.map V.int) []
  | [] => RpL.nil
  | n :: ns => by
    have := RpL.cons (m := m) (X := X) (H := H) (rp_intI (i := n)) (rp_ints ns)
    exact this
theorem sq_lst {K : PySem.W.Frag} {H : Hp} {a : Addr} {xs : List V} (h : SqL K H a xs) : ∃ G, LstR false K H a xs [] G ∧ ∀ b ∈ G, ∃ o, H b = some o := by
  rcases h with (h | ⟨o, h⟩) | h
  · exact ⟨[a], .inl ⟨h, rfl⟩, fun b hb => by rw [List.mem_singleton.mp hb]; exact ⟨_, h⟩⟩
  · exact ⟨[a], .inr (.inl ⟨rfl, rfl, o, h⟩), fun b hb => by rw [List.mem_singleton.mp hb]; exact ⟨_, h⟩⟩
  · exact ⟨[], .inr (.inr ⟨rfl, rfl, h⟩), fun b hb => (by cases hb)⟩
theorem funD_inj {K : PySem.W.Frag} {x qual : Str} {params : Arguments} {body : List Stmt} {scope : Scope} {f : Addr} {fd fd' : FuncData} (h : FunD K x qual params body scope [] [] f fd) (h' : FunD K x qual params body scope [] [] f fd') : fd = fd' := by
  obtain ⟨oc, od, dV, kV, doc, pm, an, cdv, ct, osl, e, lk, _⟩ := h.ex
  obtain ⟨oc', od', dV', kV', doc', pm', an', cdv', ct', osl', e', lk', _⟩ := h'.ex
  rw [lk] at lk'
  have := Option.some.inj lk'
  injection this with _ _ h3 _
  injection h3
theorem pass_cx0 {X : Cx} {σ : St} {E : XK} : PassesAt CX0 X σ E := fun _ _ _ _ _ _ h => h.elim
theorem top_ok {p : Prog} {fu k : Nat} {src : Str → Stmt} {P : Program} {w : World} {K : PySem.W.Frag} {mg : Str → Option Value} {fa : Addr} {d : Def} {n : Nat} (hw : ∀ q ∈ p.defs, WalkOk p src (fun _ _ => CX0) q.1 q.2) (hF : Facts p src K mg (kb K w ea0))
    (hmg : mg ("law" : Str) = some (.ref fa)) (hd : p.defs.lookup ("law" : Str) = some d) (hargs : (defArgs (src "law")).args.map (·.arg) = [("script" : Str)]) (hm : d.muts = [false]) (hnp : d.np = 1)
    (pure_ : ∀ ns : List Int, ns.length ≤ n → ∃ os, callI p fu k "law" [.lst (ns.map .int)] = .ok (.bl true) os)
    (hb : ∀ (kV doc pm : Value) (an : Option Addr) (cdv ct : Value) (us : List Value), us.length = [("script" : Str)].length → bindArgs (PySem.W.fnOf ("law" : Str) ("law" : Str) (defArgs (src "law")) (defBody (src "law")) (defScope (src "law")) .none kV doc pm an cdv ct) ⟨us, []⟩ = pure ([("script" : Str)].zip us)) :
    ∃ (fd : FuncData) (sp : Sp), (∀ (s : Shared) (u : Value), BindsTo s fd ⟨[u], []⟩ [(("script" : Str), u)]) ∧ (∀ (H : Hp) (a : Addr) (ns : List Int), ns.length ≤ n → SqL K H a (ns.map V.int) → sp [.ref a] H (fun v _ => v = .bl true) fun _ _ _ => False) ∧
      ∀ base : Heap, FnOk P w K mg base CX0 k fa fd [("script" : Str)] sp := by
  obtain ⟨a, fd, ga, F⟩ := hF.fn (("law" : Str), d) (lookup_in hd)
  have ea : a = fa := by
    rw [hmg] at ga
    have := Option.some.inj ga
    injection this with h
    exact h.symm
  subst ea
  refine ⟨fd, spI (kb K w ea0) er0 d (callI p fu k "law"), fun s u => FunD.bindsA (ps := [("script" : Str)]) F hb s [u] rfl, fun H a' ns hl hS => ?_, fun base => ?_⟩
  · obtain ⟨G, hLs, tr⟩ := sq_lst hS
    obtain ⟨os, e⟩ := pure_ ns hl
    have rp : Rp false (kb K w ea0) H (.lst (ns.map .int)) (.ref a') G := by
      unfold Rp
      exact ⟨a', _, [], rfl, hLs, rp_ints ns⟩
    refine ⟨fun b => b ∈ G, [.lst (ns.map .int)], fun _ => [], by rw [hnp]; rfl, by rw [hnp]; rfl, by rw [hm, hnp]; rfl, ?_, ?_⟩
    · rw [hm]
      refine ⟨rfl, fun i v h => ?_, fun _ _ => rfl, fun i k v h => ?_, fun _ _ _ _ h => h, fun _ _ _ h => (by cases h), fun _ => List.nodup_nil, fun _ _ h => (by cases h), tr, fun i w h => ?_⟩
      · cases i with
        | zero => cases h
        | succ i => simp [getM, initE] at h
      · cases i with
        | zero =>
          simp [initE] at h
          obtain ⟨rfl, rfl⟩ := h
          exact ⟨.ref a', G, rfl, Rp.sub.mp rp, fun b hb => hb⟩
        | succ i => simp [initE] at h
      · have h : (if ([false] : List Bool)[i]? = some true then ([V.ref a'] : List V)[i]? else none) = some w := h
        cases i with
        | zero => cases h
        | succ i => simp at h
    · rw [e]
      intro w' F' H' fo _ _ _ vo
      exact rp_bl' vo.rp
  · obtain ⟨a2, fd2, ps, g2, F2, _, G, eps⟩ := all_ok (p := p) (fu := fu) (src := src) (CX := fun _ _ => CX0) (P := P) (w := w) (K := K) (mg := mg) (base := base) (ea := ea0) (er := er0) (fun _ _ _ _ _ h _ => h.elim) hw hF (fun _ _ _ _ _ _ _ _ _ _ _ => pass_cx0) (fun _ _ => pass_cx0) k "law" d hd
    have ea : a2 = a := by
      rw [hmg] at g2
      have := Option.some.inj g2
      injection this with h
      exact h.symm
    subst ea
    have := funD_inj F F2
    subst this
    rw [eps, hargs] at G
    exact G
end DI
set_option Elab.async false
set_option linter.all false
set_option maxRecDepth 100000
set_option maxHeartbeats 1000000
/-! DIS27: slots forgotten. -/
namespace DI
open PySem PySem.Spec PyProof.Rows L2
section
variable {Y : Cz} {X : Cx} {σ : St} {env : PEnv} {fp : Nat → List Addr} {H : Hp}
theorem getM_setun {env : PEnv} {i j : Nat} {v : PV} (h : getM (env.set i .un) j = some v) : j ≠ i ∧ getM env j = some v := by
  unfold getM at h ⊢
  by_cases e : j = i
  · subst e
    rw [List.getElem?_set] at h
    simp only [if_pos] at h
    by_cases q : j < env.length
    · rw [if_pos q] at h; cases h
    · rw [if_neg q] at h; cases h
  · rw [List.getElem?_set_ne (fun q => e q.symm)] at h
    exact ⟨e, h⟩
theorem Sim.forget {K : KX} (S : Sim K env σ H fp) {i : Nat} (hs : ∃ v, env[i]? = some (.ow v) ∨ env[i]? = some (.ro false v)) : Sim K (env.set i .un) σ H (fun j => if j = i then [] else fp j) := by
  obtain ⟨v0, hs⟩ := hs
  have hf : ∀ s, env[i]? = some s → s.fix = false := by
    intro s h
    rcases hs with e | e <;> (rw [e] at h; cases h; rfl)
  have hm : ∀ j b, b ∈ (if j = i then [] else fp j) → j ≠ i ∧ b ∈ fp j := fun j b hb => by
    by_cases e : j = i
    · rw [if_pos e] at hb; cases hb
    · rw [if_neg e] at hb; exact ⟨e, hb⟩
  refine ⟨by rw [List.length_set]; exact S.len, fun j v h => ?_, fun j h => ?_, fun j k v h => ?_, S.qz, fun j k b h1 h2 => S.dis j k b (hm j b h1).2 (hm k b h2).2, fun j => ?_, fun j b hb => S.zd j b (hm j b hb).2, S.zt, fun j w h => ?_⟩
  · obtain ⟨e, h⟩ := getM_setun h
    rw [if_neg e]
    exact S.own j v h
  · by_cases e : j = i
    · rw [if_pos e]
    · rw [if_neg e]
      refine S.emp j ?_
      unfold getM at h ⊢
      rwa [List.getElem?_set_ne (fun q => e q.symm)] at h
  · by_cases e : j = i
    · subst e
      rw [List.getElem?_set] at h
      simp only [if_pos] at h
      split at h <;> cases h
    · rw [List.getElem?_set_ne (fun q => e q.symm)] at h
      exact S.ro j k v h
  · show (if j = i then [] else fp j).Nodup
    by_cases e : j = i
    · rw [if_pos e]; exact List.nodup_nil
    · rw [if_neg e]; exact S.nd j
  · obtain ⟨h1, s, h2, h3⟩ := S.fx j w h
    refine ⟨h1, s, ?_, h3⟩
    have e : j ≠ i := fun e => by
      subst e
      rw [hf s h2] at h3; cases h3
    rw [List.getElem?_set_ne (fun q => e q.symm)]
    exact h2
theorem Sim.forgets {K : KX} : ∀ (ws : List Nat) {env : PEnv} {fp : Nat → List Addr}, Sim K env σ H fp → ∃ fp', Sim K (wipeO env ws) σ H fp' ∧ ∀ j b, b ∈ fp' j → b ∈ fp j
  | [], env, fp, S => ⟨fp, S, fun _ _ h => h⟩
  | i :: is, env, fp, S => by
    have go : (∃ v, env[i]? = some (.ow v) ∨ env[i]? = some (.ro false v)) → ∃ fp', Sim K (wipeO (env.set i .un) is) σ H fp' ∧ ∀ j b, b ∈ fp' j → b ∈ fp j := fun h => by
      obtain ⟨fp', S', m⟩ := Sim.forgets is (S.forget h)
      refine ⟨fp', S', fun j b hb => ?_⟩
      have := m j b hb
      by_cases e : j = i
      · simp only [if_pos e] at this; cases this
      · simpa only [if_neg e] using this
    have st : ∃ fp', Sim K (wipeO env is) σ H fp' ∧ ∀ j b, b ∈ fp' j → b ∈ fp j := Sim.forgets is S
    unfold wipeO
    split
    · rename_i v e; exact go ⟨v, .inl e⟩
    · rename_i v e; exact go ⟨v, .inr e⟩
    · exact st
theorem pss_w {rest : List Stmt} {ss : List S} (ws : List Nat) (h : PSs X rest (RdSs Y ss)) : PSs X rest (RdSs Y (.wipe ws :: ss)) := by
  refine PSs.mono h fun D σ H ⟨env, fp, S, h⟩ => ?_
  have e : exSs Y.p Y.cf Y.fu (.wipe ws :: ss) env = exSs Y.p Y.cf Y.fu ss (wipeO env ws) := by
    rw [exSs]; unfold exS; rfl
  rw [e] at h
  obtain ⟨fp', S', m⟩ := Sim.forgets ws S
  exact ⟨_, fp', S', h.adv ⟨fun b o h _ => h, fun i b hb => .inl ⟨i, m i b hb⟩⟩⟩
theorem getM_setow {env : PEnv} {i j : Nat} {u v : PV} (h : getM (env.set i (.ow u)) j = some v) : (j = i ∧ v = u) ∨ (j ≠ i ∧ getM env j = some v) := by
  unfold getM at h ⊢
  by_cases e : j = i
  · subst e
    rw [List.getElem?_set] at h
    simp only [if_pos] at h
    by_cases q : j < env.length
    · rw [if_pos q] at h; cases h; exact .inl ⟨rfl, rfl⟩
    · rw [if_neg q] at h; cases h
  · rw [List.getElem?_set_ne (fun q => e q.symm)] at h
    exact .inr ⟨e, h⟩
theorem Sim.take {K : KX} (S : Sim K env σ H fp) {i : Nat} {u : PV} (hs : env[i]? = some (.ro false u)) (hu : u.imm = true) : Sim K (env.set i (.ow u)) σ H fp := by
  have hf : ∀ s, env[i]? = some s → s.fix = false := by
    intro s h
    rw [hs] at h; cases h; rfl
  have h0 : fp i = [] := S.emp i (by unfold getM; rw [hs])
  obtain ⟨w, G, e1, r1, _⟩ := S.ro i false u hs
  refine ⟨by rw [List.length_set]; exact S.len, fun j v h => ?_, fun j h => ?_, fun j k v h => ?_, S.qz, S.dis, S.nd, S.zd, S.zt, fun j w h => ?_⟩
  · rcases getM_setow h with ⟨rfl, rfl⟩ | ⟨e, h⟩
    · exact ⟨w, e1, by rw [h0]; exact (r1.imm (m' := true) hu).2⟩
    · exact S.own j v h
  · by_cases e : j = i
    · rw [e]; exact h0
    · refine S.emp j ?_
      unfold getM at h ⊢
      rwa [List.getElem?_set_ne (fun q => e q.symm)] at h
  · by_cases e : j = i
    · subst e
      rw [List.getElem?_set] at h
      simp only [if_pos] at h
      split at h <;> cases h
    · rw [List.getElem?_set_ne (fun q => e q.symm)] at h
      exact S.ro j k v h
  · obtain ⟨h1, s, h2, h3⟩ := S.fx j w h
    refine ⟨h1, s, ?_, h3⟩
    have e : j ≠ i := fun e => by
      subst e
      rw [hf s h2] at h3; cases h3
    rw [List.getElem?_set_ne (fun q => e q.symm)]
    exact h2
theorem Sim.takes {K : KX} : ∀ (ws : List Nat) {env : PEnv}, Sim K env σ H fp → Sim K (ownO env ws) σ H fp
  | [], env, S => S
  | i :: is, env, S => by
    have st : Sim K (ownO env is) σ H fp := Sim.takes is S
    unfold ownO
    split
    · rename_i v e
      split
      · rename_i hv; exact Sim.takes is (S.take e hv)
      · exact st
    · exact st
theorem pss_o {rest : List Stmt} {ss : List S} (ws : List Nat) (h : PSs X rest (RdSs Y ss)) : PSs X rest (RdSs Y (.own ws :: ss)) := by
  refine PSs.mono h fun D σ H ⟨env, fp, S, h⟩ => ?_
  have e : exSs Y.p Y.cf Y.fu (.own ws :: ss) env = exSs Y.p Y.cf Y.fu ss (ownO env ws) := by
    rw [exSs]; unfold exS; rfl
  rw [e] at h
  exact ⟨_, fp, Sim.takes ws S, h⟩
end
end DI
set_option Elab.async false
set_option linter.all false
set_option maxRecDepth 100000
set_option maxHeartbeats 1000000
/-! DIS28: a try whose clauses may or may not name the exception. -/
namespace DI
open PySem PySem.Spec PyProof.Rows L2
/-- a suite's ends, the exception's name gone behind it -/
def endC (o : Option Nat) (D : Ends) : Ends :=
  match o with
  | none => D
  | some i => { nx := fun σ H => D.nx (σ.set i none) H, rt := D.rt, bk := fun σ H => D.bk (σ.set i none) H, ct := fun σ H => D.ct (σ.set i none) H }
/-- the slots that a suite starts with -/
def sltC (o : Option Nat) (a : Addr) (σ : St) : St :=
  match o with
  | none => σ
  | some i => σ.set i (some (.ref a))
abbrev SuT : Type := Addr → Value → Option Addr → TS
/-- what the clauses want of an exception of the body -/
def wCl (K : PySem.W.Frag) (Wo : WX) (D : Ends) : List (Value × Option Nat × SuT) → WX
  | [] => Wo
  | q :: r => fun cls d σ H => ∃ b, PySem.W.exmOne K cls q.1 = some b ∧ (b = true → ∀ a, H a = none → q.2.2 a cls d (endC q.2.1 D) (sltC q.2.1 a σ) H) ∧ (b = false → wCl K Wo D r cls d σ H)
/-- a clause and what is known of it -/
inductive ClOk (X : Cx) : ExceptHandler → Value × Option Nat × SuT → Prop
  | un {x : Str} {c : Value} {ts : SuT} {b0 : Stmt} {su : List Stmt} {np hp : Pos} (hc : Names X x c)
      (hs : ∀ (a : Addr) (oe : Obj) (cls : Value) (d : Option Addr) (pn : List (Addr × Obj)), Zc cls d oe → (∃ vs, oe.data = .fields vs) → PSs (X.suite a ((a, oe) :: pn)) (b0 :: su) (ts a cls d)) :
      ClOk X (.ExceptHandler (some (.Name x np)) none (b0 :: su) hp) (c, none, ts)
  | nm {x n : Str} {i : Nat} {c : Value} {ts : SuT} {b0 : Stmt} {su : List Stmt} {np hp : Pos} (hi : X.N[i]? = some n) (hl : X.env.kindOf n = some .local) (hc : Names X x c)
      (hs : ∀ (a : Addr) (oe : Obj) (cls : Value) (d : Option Addr) (pn : List (Addr × Obj)), Zc cls d oe → (∃ vs, oe.data = .fields vs) → PSs (X.suite a ((a, oe) :: pn)) (b0 :: su) (ts a cls d)) :
      ClOk X (.ExceptHandler (some (.Name x np)) (some n) (b0 :: su) hp) (c, some i, ts)
inductive ClsOk (X : Cx) : List ExceptHandler → List (Value × Option Nat × SuT) → Prop
  | nil : ClsOk X [] []
  | cons {h : ExceptHandler} {q : Value × Option Nat × SuT} {hs : List ExceptHandler} {l : List (Value × Option Nat × SuT)} (c : ClOk X h q) (r : ClsOk X hs l) : ClsOk X (h :: hs) (q :: l)
section
variable {X : Cx} {B : Heap} {a : Addr} {sI s' : Shared} {h3 : Heap} {pins : List (Addr × Obj)} {σ : St} {H : Hp} {cls : Value} {d : Option Addr} {D : Ends} {Wo : WX}
/-- an exception that has come down in X -/
structure Down (X : Cx) (B : Heap) (a : Addr) (sI s' : Shared) (h3 : Heap) (pins : List (Addr × Obj)) (σ : St) (H : Hp) (cls : Value) (d : Option Addr) : Prop where
  ok : X.Ok
  hs : X.stack = X.env :: X.outer
  hf : X.env.frame = some X.env.locals
  J : Inv X pins σ H sI
  nb : ∀ b o, sI.heap.get? b = some o → b ∉ frs X.stack → B.get? b = some o
  up : sI.heap.UpToSlots h3
  fl : HandSPX.FlyingZ B (X.env :: X.outer) a (Zc cls d) h3
  na : H a = none
  os : s'.os = sI.os
  ag : AllBare s'.gens
theorem Down.inv (w : Down X B a sI s' h3 pins σ H cls d) {h4 : Heap} (f4 : HandSPX.FlyingZ B (X.env :: X.outer) a (Zc cls d) h4) (u4 : sI.heap.UpToSlots h4) : Inv X pins σ H { s' with heap := h4 } :=
  w.J.landed w.nb f4.1 u4 w.os w.ag
theorem Down.su (w : Down X B a sI s' h3 pins σ H cls d) {h4 : Heap} (f4 : HandSPX.FlyingZ B (X.env :: X.outer) a (Zc cls d) h4) (u4 : sI.heap.UpToSlots h4) : ∃ oe vs, h4.get? a = some oe ∧ Zc cls d oe ∧ oe.data = .fields vs ∧
    Inv (X.suite a ((a, oe) :: (X.pn ++ pins))) [] σ H { s' with heap := h4 } := by
  obtain ⟨oe, vs, e1, e2, e3⟩ := f4.there
  have off : a ∉ frs (X.env :: X.outer) := fun hm => by
    obtain ⟨_, o, q1, q2⟩ := f4.2.2.1.mem hm
    rw [e1] at q1; cases q1; exact q2 _ e3
  have o1 : a ≠ X.env.locals := fun z => off (List.mem_filterMap.mpr ⟨X.env, List.mem_cons_self, by rw [w.hf, z]⟩)
  have o2 : a ∉ X.fs := fun hm => by
    obtain ⟨q, hq, z⟩ := List.mem_filterMap.mp hm
    exact off (List.mem_filterMap.mpr ⟨q, List.mem_cons_of_mem _ hq, z⟩)
  exact ⟨oe, vs, e1, e2, e3, (w.inv f4 u4).suite e1 e3 w.na o1 o2⟩
/-- no clause takes it -/
theorem Down.past (w : Down X B a sI s' h3 pins σ H cls d) (tk : Takes X Wo) (hw : Wo cls d σ H) : wpAny (model X.prog X.w) X.A (handleBy (.ref a) X.env []) (SP X pins D) X.xe { s' with heap := h3 } := by
  refine wpAny_handleBy_nil ?_
  obtain ⟨_, _, _, oe, vs, T, _, _, g1, _, g2, g3, _⟩ := id w.fl
  unfold PySem.passOn
  refine wpAny_bind (wpAny_field g1 g2 g3 ?_)
  rw [if_neg (by simp : ¬ ((Value.ref T == Value.none) = true))]
  have go : wpAny (model X.prog X.w) X.A (setFlight (.ref a) X.env.frame) (fun _ q => wpAny (model X.prog X.w) X.A (throw (.ref a) : Sem Flow) (SP X pins D) X.xe q) X.xe { s' with heap := h3 } := by
    rw [w.hf]
    exact HandSPX.setFlight_upZ w.fl fun h4 m4 u4 => wpAny_throw (tk _ _ ⟨a, B, sI, pins, σ, H, cls, d, rfl, w.J, w.nb, w.up.trans u4, .inr (.inr (by rw [w.hs]; exact m4)), w.na, w.os, w.ag, hw⟩)
  first
    | exact wpAny_bind (wpAny_pure (wpAny_bind go))
    | exact wpAny_bind go
/-- the class in a clause is looked up -/
theorem Down.asked (w : Down X B a sI s' h3 pins σ H cls d) {x : Str} {c : Value} {np : Pos} {b : Bool} {Q : Bool → Shared → Prop} (hc : Names X x c) (he : PySem.W.exmOne X.K cls c = some b) (hq : Q b { s' with heap := h3 }) :
    ∃ (r : ∀ {R : Value → Shared → Prop} {E : Value → Shared → Prop}, R c { s' with heap := h3 } → wpAny (model X.prog X.w) (X.A.mark (some (.ref a))) (eval (.Name x np) X.env) R E { s' with heap := h3 }), True := by
  obtain ⟨oe, vs, e1, e2, e3, I⟩ := w.su w.fl w.up
  refine ⟨fun {R E} q => ?_, trivial⟩
  obtain ⟨g1, g2, g3 | ⟨g3, g4, g5⟩⟩ := hc
  · exact ld_glob I g1 g3 q g2
  · exact ld_blt I g1 g3 g4 q g5 g2
theorem Down.looks (w : Down X B a sI s' h3 pins σ H cls d) {c : Value} {b : Bool} (he : PySem.W.exmOne X.K cls c = some b) : ∃ oe : Obj, h3.get? a = some oe ∧ oe.cls = cls := by
  obtain ⟨oe, vs, e1, e2, e3, I⟩ := w.su w.fl w.up
  exact ⟨oe, e1, e2.1⟩
theorem Down.go (w : Down X B a sI s' h3 pins σ H cls d) (hN : X.N.Nodup) (tk : Takes X Wo) : ∀ {hs : List ExceptHandler} {l : List (Value × Option Nat × SuT)}, ClsOk X hs l → wCl X.K Wo D l cls d σ H →
    wpAny (model X.prog X.w) X.A (handleBy (.ref a) X.env hs) (SP X pins D) X.xe { s' with heap := h3 } := by
  intro hs l hk
  induction hk with
  | nil => exact fun hw => w.past tk hw
  | @cons h q hs l c r ih =>
    rintro ⟨b, eb, yes, no⟩
    obtain ⟨oe3, t1, t2⟩ := w.looks eb
    have ty : PySem.W.Looks (model X.prog X.w) h3 (typeOf (.ref a)) cls := fun _ _ _ _ k z => wpAny_typeOf_ref (k _ _ t1) (by rw [t2]; exact z)
    have lm := PySem.W.exm_one (M := model X.prog X.w) (w.inv w.fl w.up).kIn ty eb
    cases c with
    | @un x c ts b0 su np hp hc hsu =>
      obtain ⟨look, _⟩ := w.asked (np := np) (Q := fun _ _ => True) hc eb trivial
      refine wpAny_handleBy_cons (codeAny_handlers_test (look (lm.here ?_))) (by intro q; cases q)
      cases b with
      | false => exact ih (no rfl)
      | true =>
        refine codeAny_handlers_suite (HandSPX.lands_againZ w.fl fun h4 f4 u4 => ?_)
        obtain ⟨oe, vs, e1, e2, e3, I⟩ := w.su f4 (w.up.trans u4)
        refine wpAny_mono ((hsu a oe cls d (X.pn ++ pins) e2 ⟨_, e3⟩).run [] _ _ H _ I (yes rfl a w.na)) (fun f s6 z => ?_) (fun _ _ z => z.elim)
        cases f with
        | next => obtain ⟨_, _, I6, q6⟩ := z; exact ⟨_, _, I6.unsuite w.ok, q6⟩
        | brk => obtain ⟨_, _, I6, q6⟩ := z; exact ⟨_, _, I6.unsuite w.ok, q6⟩
        | cont => obtain ⟨_, _, I6, q6⟩ := z; exact ⟨_, _, I6.unsuite w.ok, q6⟩
        | ret u => obtain ⟨_, _, _, I6, r6, q6⟩ := z; exact ⟨_, _, _, I6.unsuite w.ok, r6, q6⟩
    | @nm x n i c ts b0 su np hp hi hl hc hsu =>
      obtain ⟨look, _⟩ := w.asked (np := np) (Q := fun _ _ => True) hc eb trivial
      refine wpAny_handleBy_cons (codeAny_handlers_test (look (lm.here ?_))) (by intro q; cases q)
      cases b with
      | false => exact ih (no rfl)
      | true =>
        refine codeAny_handlers_suite_as (HandSPX.lands_againZ w.fl fun h4 f4 u4 => ?_)
        obtain ⟨oe, vs, e1, e2, e3, I⟩ := w.su f4 (w.up.trans u4)
        refine store_ok (X := X.suite a ((a, oe) :: (X.pn ++ pins))) (v := .ref a) I hN hi (.inl hl) rfl (fun s5 I5 => ?_) (.inr hl)
        refine wpAny_mono ((hsu a oe cls d (X.pn ++ pins) e2 ⟨_, e3⟩).run [] s5 _ H _ I5 (yes rfl a w.na)) (fun f s6 z => ?_) (fun _ _ z => z.elim)
        have gone : ∀ {σ6 : St} {H6 : Hp} {Q : Shared → Prop}, Inv (X.suite a ((a, oe) :: (X.pn ++ pins))) [] σ6 H6 s6 → (∀ s7, Inv X pins (σ6.set i none) H6 s7 → Q s7) →
            wpAny (model X.prog X.w) X.A (do bindName X.env n .none; unbindBehindTheSuite X.env n hp) (fun _ s7 => Q s7) X.xe s6 := fun {_ _ _} I6 hq => gone_ok (I6.unsuite w.ok) hN hi hl hq
        cases f with
        | next => obtain ⟨_, _, I6, q6⟩ := z; exact gone I6 fun _ J7 => ⟨_, _, J7, q6⟩
        | brk => obtain ⟨_, _, I6, q6⟩ := z; exact gone I6 fun _ J7 => ⟨_, _, J7, q6⟩
        | cont => obtain ⟨_, _, I6, q6⟩ := z; exact gone I6 fun _ J7 => ⟨_, _, J7, q6⟩
        | ret u => obtain ⟨_, _, _, I6, r6, q6⟩ := z; exact gone I6 fun _ J7 => ⟨_, _, _, J7, r6, q6⟩
end
theorem ps_tryG {X : Cx} {body : List Stmt} {h0 : ExceptHandler} {hds : List ExceptHandler} {l : List (Value × Option Nat × SuT)} {pos : Pos} {tb : WX → TS} {Wo : WX} (hs : X.stack = X.env :: X.outer) (hf : X.env.frame = some X.env.locals) (hN : X.N.Nodup) (tk : Takes X Wo)
    (hb : ∀ (W : WX) (pn : List (Addr × Obj)) (xe : Value → Shared → Prop), Takes (X.tr pn xe) W → PassesOwn (model X.prog X.w) X.A X.env xe → PSs (X.tr pn xe) body (tb W)) (hh : ClsOk X (h0 :: hds) l) :
    PS X (.Try body (h0 :: hds) [] [] pos) (fun D σ H => tb (wCl X.K Wo D l) D σ H) := by
  refine ⟨fun pins s σ H D I h => ?_⟩
  have fr : X.A.frames = some (X.env :: X.outer) := by rw [I.ok.frames, hs]
  have catch_ : ∀ xe u s', XE (X.tr (X.pn ++ pins) xe) (wCl X.K Wo D l) u s' → wpAny (model X.prog X.w) X.A (noteFrame u X.env) (fun _ s2 => wpAny (model X.prog X.w) X.A (setFlight u none) (fun _ s3 => wpAny (model X.prog X.w) X.A (handleBy u X.env (h0 :: hds)) (SP X pins D) X.xe s3) X.xe s2) X.xe s' := by
    rintro xe u s' ⟨a, B, sI, pins', σ', H', cls, d, rfl, J', nb, up, sky, na, os, ag, w⟩
    refine Sky.land Zc.steady fr hf (by rw [← hs]; exact sky) fun h3 f3 u3 => ?_
    exact Down.go ⟨I.ok, hs, hf, J'.ofTry I.ok, nb, up.trans u3, f3, na, os, ag⟩ hN tk hh w
  refine wpAny_Try_except (wpAny_mono ((hb (wCl X.K Wo D l) (X.pn ++ pins) _ (fun u s' x => catch_ _ u s' x) PassesOwn.looking).run [] s σ H D (I.toTry _) h) (fun f s1 z => ?_) (fun e s1 he => he))
  cases f with
  | next => obtain ⟨_, _, J, q⟩ := z; exact wpAny_execs_nil ⟨_, _, J.ofTry I.ok, q⟩
  | brk => obtain ⟨_, _, J, q⟩ := z; exact ⟨_, _, J.ofTry I.ok, q⟩
  | cont => obtain ⟨_, _, J, q⟩ := z; exact ⟨_, _, J.ofTry I.ok, q⟩
  | ret u => obtain ⟨_, _, _, J, r, q⟩ := z; exact ⟨_, _, _, J.ofTry I.ok, r, q⟩
end DI
set_option Elab.async false
set_option linter.all false
set_option maxRecDepth 100000
set_option maxHeartbeats 1000000
/-! DIS29: exceptions of the program's own classes: made, raised, caught, looked into. -/
namespace DI
open PySem PySem.Spec PyProof.Rows L2
/-! ### what cannot be changed lies the same way in each context -/
mutual
theorem Rp.imm2 {m m' : Bool} {X X' : KX} {H : Hp} (hK : X.K = X'.K) : ∀ {v : PV} {w : V} {F : List Addr}, Rp m X H v w F → v.imm = true → Rp m' X' H v w []
  | .non, w, F, h, _ => by unfold Rp at h ⊢; exact ⟨h.1, rfl⟩
  | .bl _, w, F, h, _ => by unfold Rp at h ⊢; exact ⟨h.1, rfl⟩
  | .int _, w, F, h, _ => by unfold Rp at h ⊢; exact ⟨h.1, rfl⟩
  | .str _, w, F, h, _ => by unfold Rp at h ⊢; exact ⟨h.1, rfl⟩
  | .tup vs, w, F, h, i => by
    unfold Rp at h ⊢
    obtain ⟨a, ws, e, hs, r⟩ := h
    exact ⟨a, ws, e, by rw [← hK]; exact hs, RpL.imm2 hK r (by simpa [PV.imm] using i)⟩
  | .lst _, w, F, h, i => by simp [PV.imm] at i
  | .set _, w, F, h, i => by simp [PV.imm] at i
  | .dct _ _, w, F, h, i => by simp [PV.imm] at i
  | .err _ _, w, F, h, i => by simp [PV.imm] at i
  | .fls vs, w, F, h, i => by
    unfold Rp at h ⊢
    obtain ⟨a, ws, e, hs, r⟩ := h
    exact ⟨a, ws, e, hs, RpL.imm2 hK r (by simpa [PV.imm] using i)⟩
theorem RpL.imm2 {m m' : Bool} {X X' : KX} {H : Hp} (hK : X.K = X'.K) : ∀ {vs : List PV} {ws : List V} {F : List Addr}, RpL m X H vs ws F → immL vs = true → RpL m' X' H vs ws []
  | [], ws, F, h, _ => by unfold RpL at h ⊢; exact ⟨h.1, rfl⟩
  | v :: vs, ws, F, h, i => by
    unfold RpL at h ⊢
    obtain ⟨w, ws', F1, F2, e, eF, r1, r2⟩ := h
    simp only [immL, Bool.and_eq_true] at i
    exact ⟨w, ws', [], [], e, rfl, Rp.imm2 hK r1 i.1, RpL.imm2 hK r2 i.2⟩
end
mutual
theorem Rp.ea2 {m : Bool} {X X' : KX} {H : Hp} (hK : X.K = X'.K) (hw : X.w = X'.w) (he : ∀ a c fs, X.ea a c fs H → X'.ea a c fs H) : ∀ {v : PV} {w : V} {F : List Addr}, Rp m X H v w F → Rp m X' H v w F
  | .non, w, F, h => by unfold Rp at h ⊢; exact h
  | .bl _, w, F, h => by unfold Rp at h ⊢; exact h
  | .int _, w, F, h => by unfold Rp at h ⊢; exact h
  | .str _, w, F, h => by unfold Rp at h ⊢; exact h
  | .tup vs, w, F, h => by
    unfold Rp at h ⊢
    obtain ⟨a, ws, e, hs, r⟩ := h
    exact ⟨a, ws, e, by rw [← hK]; exact hs, RpL.ea2 hK hw he r⟩
  | .lst vs, w, F, h => by
    unfold Rp at h ⊢
    obtain ⟨a, ws, G, e, hs, r⟩ := h
    exact ⟨a, ws, G, e, by rw [← hK]; exact hs, RpL.ea2 hK hw he r⟩
  | .set vs, w, F, h => by unfold Rp at h ⊢; rw [← hw]; exact h
  | .dct ks vs, w, F, h => by
    unfold Rp at h ⊢
    obtain ⟨a, kvs, G, e, hs, ek, eF, r⟩ := h
    exact ⟨a, kvs, G, e, hs, ek, eF, RpL.ea2 hK hw he r⟩
  | .err c fs, w, F, h => by
    unfold Rp at h ⊢
    obtain ⟨e, a, ew, q⟩ := h
    exact ⟨e, a, ew, he a c fs q⟩
  | .fls vs, w, F, h => by
    unfold Rp at h ⊢
    obtain ⟨a, ws, e, hs, r⟩ := h
    exact ⟨a, ws, e, hs, RpL.ea2 hK hw he r⟩
theorem RpL.ea2 {m : Bool} {X X' : KX} {H : Hp} (hK : X.K = X'.K) (hw : X.w = X'.w) (he : ∀ a c fs, X.ea a c fs H → X'.ea a c fs H) : ∀ {vs : List PV} {ws : List V} {F : List Addr}, RpL m X H vs ws F → RpL m X' H vs ws F
  | [], ws, F, h => by unfold RpL at h ⊢; exact h
  | v :: vs, ws, F, h => by
    unfold RpL at h ⊢
    obtain ⟨w, ws', F1, F2, e, eF, r1, r2⟩ := h
    exact ⟨w, ws', F1, F2, e, eF, Rp.ea2 hK hw he r1, RpL.ea2 hK hw he r2⟩
end
/-! ### an exception and its fields -/
def fldsOf (p : Prog) (c : Str) : List Str := match p.cls.lookup c with
  | some (_, fl) => fl
  | none => []
/-- its fields as they lie: the last one ahead -/
def flV (fl : List Str) (ws : List V) : List (Str × V) := (fl.zip ws).reverse
/-- no context's own things -/
abbrev kf (K : PySem.W.Frag) (w : World) : KX := ⟨K, w, fun _ _ _ _ => True, fun _ => False, fun _ => none, fun _ _ _ _ => False⟩
/-- the exception's dict at dd -/
def DatX (K : PySem.W.Frag) (w : World) (p : Prog) (c : Str) (fs : List PV) (ws : List V) (dd : Addr) (H : Hp) : Prop :=
  (p.cls.lookup c).isSome = true ∧ immL fs = true ∧ ws.length = (fldsOf p c).length ∧ H dd = some (.xd (flV (fldsOf p c) ws)) ∧ RpL false (kf K w) H fs ws []
theorem DatX.fix {K : PySem.W.Frag} {w : World} {p : Prog} {c : Str} {fs : List PV} {ws : List V} {dd : Addr} {H H' : Hp} (h : DatX K w p c fs ws dd H) (k : Fix H H') : DatX K w p c fs ws dd H' :=
  ⟨h.1, h.2.1, h.2.2.1, k.keep _ _ h.2.2.2.1 rfl, h.2.2.2.2.fix (fun _ _ _ _ _ _ _ => trivial) k fun _ hb => by cases hb⟩
/-- what is in the air -/
def erX (K : PySem.W.Frag) (w : World) (mg : Str → Option Value) (p : Prog) : Str → List PV → Value → Option Addr → Hp → Prop := fun c fs cls d H =>
  ∃ (C dd : Addr) (ws : List V), mg c = some (.ref C) ∧ cls = .ref C ∧ d = some dd ∧ DatX K w p c fs ws dd H
/-! ### __init__ -/
def spX (K : PySem.W.Frag) (fl : List Str) : Sp := fun vs H Q _ => ∃ (a C : Addr) (ws : List V), vs = .ref a :: ws ∧ ws.length = fl.length ∧ OexC K C ∧ (∀ f ∈ fl, PySem.W.findIn K (.ref C) f = some none) ∧ H a = some (exo a C none) ∧
  ∀ (d : Addr) (H2 : Hp), H d = none → d ≠ a → H2 a = some (exo a C (some d)) → H2 d = some (exd d (flV fl ws)) → (∀ b, b ≠ a → b ≠ d → H2 b = H b) → Q .non H2
theorem in1 {K : PySem.W.Frag} {f : Str} {vs : List V} {H : Hp} {Q : VK} {E : XK} {N : List Str} (hN : N.length = 2) (h : spX K [f] vs H Q E) : tOst K f (tVar 0) (tVar 1) { nx := fun _ H' => Q .non H', rt := Q } (start N vs) H := by
  obtain ⟨a, C, ws, rfl, hl, T, hf, ha, hq⟩ := h
  match ws, hl with
  | [w1], _ =>
    refine ⟨w1, rfl, .ref a, rfl, a, C, rfl, T, hf f List.mem_cons_self, .inl ⟨ha, fun dx h0 hne => hq dx _ h0 hne upd_same ?_ fun b h1 h2 => ?_⟩⟩
    · rw [upd_ne hne, upd_same]; rfl
    · rw [upd_ne h1, upd_ne h2]
theorem in2 {K : PySem.W.Frag} {f g : Str} {vs : List V} {H : Hp} {Q : VK} {E : XK} {N : List Str} (hN : N.length = 3) (h : spX K [f, g] vs H Q E) :
    tSeq (tOst K f (tVar 0) (tVar 1)) (tOst K g (tVar 0) (tVar 2)) { nx := fun _ H' => Q .non H', rt := Q } (start N vs) H := by
  obtain ⟨a, C, ws, rfl, hl, T, hf, ha, hq⟩ := h
  match ws, hl with
  | [w1, w2], _ =>
    refine ⟨w1, rfl, .ref a, rfl, a, C, rfl, T, hf f List.mem_cons_self, .inl ⟨ha, fun dx h0 hne => ?_⟩⟩
    refine ⟨w2, rfl, .ref a, rfl, a, C, rfl, T, hf g (List.mem_cons_of_mem _ List.mem_cons_self), .inr ⟨dx, [(f, w1)], upd_same, ?_, by simp, ?_⟩⟩
    · rw [upd_ne hne, upd_same]
    · refine hq dx _ h0 hne ?_ ?_ fun b h1 h2 => ?_
      · rw [upd_ne hne.symm, upd_same]
      · rw [upd_same]; rfl
      · rw [upd_ne h2, upd_ne h1, upd_ne h2]
theorem evO_len {p : Prog} {cf : Str → List PV → CR} : ∀ {es : List E} {env env' : PEnv} {vs : List PV}, evO p cf es env = .ok vs env' → vs.length = es.length
  | [], env, env', vs, h => by unfold evO at h; cases h; rfl
  | e :: es, env, env', vs, h => by
    unfold evO at h
    cases h1 : evB p cf e env with
    | bad => rw [h1] at h; cases h
    | exc => rw [h1] at h; cases h
    | ok r e1 =>
      rw [h1] at h
      have h : ((ownE e r e1).bind fun v env => (evO p cf es env).bind fun vs env => .ok (v :: vs) env) = .ok vs env' := h
      cases h2 : ownE e r e1 with
      | bad => rw [h2] at h; cases h
      | exc => rw [h2] at h; cases h
      | ok v e2 =>
        rw [h2] at h
        have h : ((evO p cf es e2).bind fun vs env => .ok (v :: vs) env) = .ok vs env' := h
        cases h3 : evO p cf es e2 with
        | bad => rw [h3] at h; cases h
        | exc => rw [h3] at h; cases h
        | ok us e3 =>
          rw [h3] at h
          cases h
          rw [List.length_cons, List.length_cons, evO_len h3]
/-- a class's __init__, walked -/
structure InitOk (c : Str) (fl : List Str) (st : Stmt) : Prop where
  run : ∀ (P : Program) (w : World) (K : PySem.W.Frag) (mg : Str → Option Value) (base : Heap) (CX : CXT) (k : Nat) (fI : Addr) (fd : FuncData),
    FunD K "__init__" (c ++ ".__init__") (defArgs st) (defBody st) (defScope st) [] [] fI fd → FnOk P w K mg base CX (k + 1) fI fd ("self" :: fl) (spX K fl) ∧ Binds K fd ("self" :: fl) []
/-- what must be known of a class that is raised -/
structure MkF (P : Program) (w : World) (K : PySem.W.Frag) (mg : Str → Option Value) (base : Heap) (CX : CXT) (p : Prog) (c : Str) (C : Addr) : Prop where
  gC : mg c = some (.ref C)
  oex : OexC K C
  nof : ∀ f ∈ fldsOf p c, PySem.W.findIn K (.ref C) f = some none
  ini : ∃ fI fd, PySem.W.findIn K (.ref C) "__init__" = some (some (.ref fI)) ∧ PySem.W.typeIn K (.ref fI) = some (.type "function") ∧ (∀ k, FnOk P w K mg base CX (k + 1) fI fd ("self" :: fldsOf p c) (spX K (fldsOf p c))) ∧ Binds K fd ("self" :: fldsOf p c) []
  fln : (fldsOf p c).length ≤ 900
section
variable {Y : Cz} {X : Cx} {CX : CXT} {k : Nat} {e : Expr} {es : List Expr} {ks : List E} {p pos pos2 : Pos}
theorem ps_rs (O : Ok0 Y X) (hc : X.calm = true) (tk : Takes X Y.W) (her : Y.er = erX X.K X.w X.mg Y.p) {c : Str} {C : Addr} (M : MkF X.prog X.w X.K X.mg X.base CX Y.p c C) (hr : Room (k + 2) X.A) (hx : Passes CX X (fun _ _ _ => False)) (hg : Gl X c) (hd : (c == ("__debug__" : Str)) = false) (hlen : ks.length = (fldsOf Y.p c).length)
    (ha : Alls Y X (e :: es) ks) (h1 : starEach (e :: es) X.env = (false, eval e X.env) :: starEach es X.env := by rfl) : PS X (.Raise (some (.Call (.Name c p) (e :: es) [] pos)) none pos2) (RdS Y (.raise c ks)) := by
  obtain ⟨fI, fd, i1, i2, i3, i4⟩ := M.ini
  have hpl : (backTo pos (starEach es X.env)).any (·.1) = false := by
    cases ha with
    | cons _ _ t => exact t.plain
  have mk : PMk X (.Call (.Name c p) (e :: es) [] pos) (tMkO C (spX X.K (fldsOf Y.p c)) [] (RdO Y ks)) :=
    pmk_oex M.oex i1 i2 (i3 k) hr i4 .nil hx hg M.gC (pa_O O ha) hd h1 hpl
  refine PS.mono (ps_raise hc tk mk) fun D σ H ⟨env, fp, S, h⟩ => ?_
  unfold exS at h
  refine ⟨env, fp, S, ?_⟩
  cases ev : evO Y.p Y.cf ks env with
  | bad => rw [ev] at h; exact h.elim
  | exc c' fs' e' => rw [ev] at h; exact fun cls d H' fp' S t e => h σ cls d H' fp' S t e
  | ok vs env1 =>
  rw [ev] at h
  intro ws H1 fp1 P
  have h : HoldS Y fp H (if (knows Y.p c && immL vs) = true then SR.exc c vs env1 else SR.bad) D := h
  obtain ⟨hk, hr⟩ := h.ite
  obtain ⟨F, v⟩ := P.vo
  have ew := v.rp.length
  have es' := evO_len ev
  have hl : ws.length = (fldsOf Y.p c).length := by omega
  refine ⟨by have := M.fln; omega, fun a na => ⟨a, C, ws, by simp, hl, M.oex, M.nof, upd_same, fun d H2 hd hne h2a h2d rest => ⟨rfl, d, _, h2a, h2d, ?_, ?_⟩⟩⟩
  · rwa [upd_ne hne] at hd
  · have hd1 : H1 d = none := by rwa [upd_ne hne] at hd
    have eq : upd (del H2 a) d (.xd (flV (fldsOf Y.p c) ws)) = upd H1 d (.xd (flV (fldsOf Y.p c) ws)) := by
      funext b
      by_cases hb : b = d
      · rw [hb, upd_same, upd_same]
      · rw [upd_ne hb, upd_ne hb]
        by_cases ha' : b = a
        · rw [ha', na]; exact del_same
        · rw [del_ne ha', rest b ha' hb, upd_ne ha']
    rw [eq]
    have sm := same_upd (o := .xd (flV (fldsOf Y.p c) ws)) hd1
    have hr : ∀ σ' cls d H' fp', Sim Y.X env1 σ' H' fp' → Stp fp H fp' H' → Y.er c vs cls d H' → Y.W cls d σ' H' := hr
    refine hr σ _ _ _ fp1 (P.sim.same O.ok sm) (P.stp.trans (Stp.same sm)) ?_
    rw [her]
    refine ⟨C, d, ws, M.gC, rfl, rfl, ?_, and_r hk, hl, upd_same, ?_⟩
    · have := and_l hk
      unfold knows at this
      exact this
    · exact (RpL.imm2 (m' := false) (X' := kf X.K X.w) O.K v.rp (and_r hk)).fix (fun _ _ _ _ _ _ _ => trivial) (Fix.same sm) fun _ hb => by cases hb
end
end DI
set_option Elab.async false
set_option linter.all false
set_option maxRecDepth 100000
set_option maxHeartbeats 1000000
/-! DIS30: try and its suites. -/
namespace DI
open PySem PySem.Spec PyProof.Rows L2
/-- the context of a suite that names its exception: it stands in slot i, at a -/
def suX (X : KX) (p : Prog) (i : Nat) (a : Addr) (c : Str) (fs : List PV) (ws : List V) (dd : Addr) : KX :=
  ⟨X.K, X.w, fun a' _ _ H => a' = a → DatX X.K X.w p c fs ws dd H, X.Z, X.R, fun j v w G => if j = i then v = .err c fs ∧ w = .ref a ∧ G = [] else X.Q j v w G⟩
theorem suX_ok {X : KX} {p : Prog} {i : Nat} {a : Addr} {c : Str} {fs : List PV} {ws : List V} {dd : Addr} : (suX X p i a c fs ws dd).Ok := fun a' _ _ H H' h k e => (h e).fix k
section
variable {X : KX} {p : Prog} {i : Nat} {a : Addr} {c : Str} {fs : List PV} {ws : List V} {dd : Addr} {env : PEnv} {σ : St} {H : Hp} {fp : Nat → List Addr}
theorem getM_set_ro {env : PEnv} {i j : Nat} {v : PV} : getM (env.set i (.ro true v)) j = if j = i then none else getM env j := by
  unfold getM
  by_cases e : j = i
  · subst e
    rw [if_pos rfl]
    by_cases h : j < env.length
    · rw [List.getElem?_set_self h]
    · rw [List.getElem?_eq_none (by simpa using h)]
  · rw [if_neg e, List.getElem?_set_ne (Ne.symm e)]
theorem lt_of_get {α : Type} {l : List α} {i : Nat} {x : α} (h : l[i]? = some x) : i < l.length := by
  rcases Nat.lt_or_ge i l.length with z | z
  · exact z
  · rw [List.getElem?_eq_none z] at h; cases h
theorem Sim.enter (S : Sim X env σ H fp) {s : Slot} (hs : env[i]? = some s) (hf : s.fix = false) (hD : DatX X.K X.w p c fs ws dd H) : Sim (suX X p i a c fs ws dd) (env.set i (.ro true (.err c fs))) (σ.set i (some (.ref a))) H (cl fp i) := by
  have hl : i < σ.length := by rw [S.len]; exact lt_of_get hs
  have tr : ∀ {m : Bool} {v : PV} {w : V} {F : List Addr}, Rp m X H v w F → Rp m (suX X p i a c fs ws dd) H v w F := fun r => Rp.ea2 (X := X) (X' := suX X p i a c fs ws dd) rfl rfl (fun _ _ _ _ _ => hD) r
  refine ⟨by rw [List.length_set, List.length_set]; exact S.len, fun j v h => ?_, fun j h => ?_, fun j k v h => ?_, fun j v w G h => ?_, fun j k b h1 h2 => S.dis j k b (cl_sub h1).2 (cl_sub h2).2, fun j => ?_, fun j b hb => S.zd j b (cl_sub hb).2, S.zt, fun j w h => ?_⟩
  · rw [getM_set_ro] at h
    by_cases e : j = i
    · rw [if_pos e] at h; cases h
    · rw [if_neg e] at h
      obtain ⟨w, e1, r⟩ := S.own j v h
      refine ⟨w, by rw [List.getElem?_set_ne (Ne.symm e)]; exact e1, ?_⟩
      unfold cl
      rw [if_neg e]
      exact tr r
  · rw [getM_set_ro] at h
    unfold cl
    by_cases e : j = i
    · rw [if_pos e]
    · rw [if_neg e] at h ⊢
      exact S.emp j h
  · by_cases e : j = i
    · subst e
      rw [List.getElem?_set_self (lt_of_get hs)] at h
      cases h
      refine ⟨.ref a, [], List.getElem?_set_self hl, ?_, ?_⟩
      · unfold Rp; exact ⟨rfl, a, rfl, fun _ => hD⟩
      · show (if j = j then _ else _)
        rw [if_pos rfl]
        exact ⟨rfl, rfl, rfl⟩
    · rw [List.getElem?_set_ne (Ne.symm e)] at h
      obtain ⟨w, G, e1, r, d⟩ := S.ro j k v h
      refine ⟨w, G, by rw [List.getElem?_set_ne (Ne.symm e)]; exact e1, tr r, ?_⟩
      show (if j = i then _ else _)
      rw [if_neg e]
      exact d
  · have h : (if j = i then v = .err c fs ∧ w = .ref a ∧ G = [] else X.Q j v w G) := h
    by_cases e : j = i
    · rw [if_pos e] at h
      rw [h.2.2]
      exact fun b hb => by cases hb
    · rw [if_neg e] at h
      exact S.qz j v w G h
  · unfold cl
    by_cases e : j = i
    · rw [if_pos e]; exact List.nodup_nil
    · rw [if_neg e]; exact S.nd j
  · obtain ⟨e1, s', e2, e3⟩ := S.fx j w h
    have e : j ≠ i := fun e => by
      subst e
      rw [hs] at e2; cases e2; rw [hf] at e3; cases e3
    exact ⟨by rw [List.getElem?_set_ne (Ne.symm e)]; exact e1, s', by rw [List.getElem?_set_ne (Ne.symm e)]; exact e2, e3⟩
theorem Sim.leave (hT : ∀ a c fs H, X.ea a c fs H) (hR : X.R i = none) (hq : ∀ j v w G, X.Q j v w G → ∀ b ∈ G, X.Z b) (S : Sim (suX X p i a c fs ws dd) env σ H fp) : Sim X (env.set i .un) (σ.set i none) H (cl fp i) := by
  have tr : ∀ {m : Bool} {v : PV} {w : V} {F : List Addr}, Rp m (suX X p i a c fs ws dd) H v w F → Rp m X H v w F := fun r => Rp.ea2 (X := suX X p i a c fs ws dd) (X' := X) rfl rfl (fun _ _ _ _ => hT _ _ _ _) r
  refine ⟨by rw [List.length_set, List.length_set]; exact S.len, fun j v h => ?_, fun j h => ?_, fun j k v h => ?_, fun j v w G h => ?_, fun j k b h1 h2 => S.dis j k b (cl_sub h1).2 (cl_sub h2).2, fun j => ?_, fun j b hb => S.zd j b (cl_sub hb).2, S.zt, fun j w h => ?_⟩
  · rw [getM_set_un] at h
    by_cases e : j = i
    · rw [if_pos e] at h; cases h
    · rw [if_neg e] at h
      obtain ⟨w, e1, r⟩ := S.own j v h
      refine ⟨w, by rw [List.getElem?_set_ne (Ne.symm e)]; exact e1, ?_⟩
      unfold cl
      rw [if_neg e]
      exact tr r
  · rw [getM_set_un] at h
    unfold cl
    by_cases e : j = i
    · rw [if_pos e]
    · rw [if_neg e] at h ⊢
      exact S.emp j h
  · by_cases e : j = i
    · subst e
      by_cases hl : j < env.length
      · rw [List.getElem?_set_self hl] at h; cases h
      · rw [List.getElem?_eq_none (by simpa using hl)] at h; cases h
    · rw [List.getElem?_set_ne (Ne.symm e)] at h
      obtain ⟨w, G, e1, r, d⟩ := S.ro j k v h
      refine ⟨w, G, by rw [List.getElem?_set_ne (Ne.symm e)]; exact e1, tr r, ?_⟩
      have d : (if j = i then v = .err c fs ∧ w = .ref a ∧ G = [] else X.Q j v w G) := d
      rw [if_neg e] at d
      exact d
  · exact hq j v w G h
  · unfold cl
    by_cases e : j = i
    · rw [if_pos e]; exact List.nodup_nil
    · rw [if_neg e]; exact S.nd j
  · have e : j ≠ i := fun e => by
      subst e
      rw [hR] at h; cases h
    obtain ⟨e1, s', e2, e3⟩ := S.fx j w h
    exact ⟨by rw [List.getElem?_set_ne (Ne.symm e)]; exact e1, s', by rw [List.getElem?_set_ne (Ne.symm e)]; exact e2, e3⟩
end
/-! ### the clauses -/
section
variable {Y : Cz} {X : Cx}
/-- no exception leaves a suite -/
abbrev Cz.no (Y : Cz) : Cz := ⟨Y.X, Y.p, Y.cf, Y.fu, fun _ _ _ _ => False, Y.er⟩
abbrev Cz.su (Y : Cz) (i : Nat) (a : Addr) (c : Str) (fs : List PV) (ws : List V) (dd : Addr) : Cz := ⟨suX Y.X Y.p i a c fs ws dd, Y.p, Y.cf, Y.fu, fun _ _ _ _ => False, Y.er⟩
abbrev Cz.tr (Y : Cz) (W : WX) : Cz := ⟨Y.X, Y.p, Y.cf, Y.fu, W, Y.er⟩
/-- what a suite wants -/
def suW (Y : Cz) (mg : Str → Option Value) (o : Option Nat) (ss : List S) : SuT :=
  match o with
  | none => fun _ _ _ => RdSs Y.no ss
  | some i => fun a cls d D σ H => ∃ (c : Str) (fs : List PV) (ws : List V) (C dd : Addr), mg c = some (.ref C) ∧ cls = .ref C ∧ d = some dd ∧ DatX Y.X.K Y.X.w Y.p c fs ws dd H ∧ RdSs (Y.su i a c fs ws dd) ss D σ H
/-- the clauses of the own text, and what is known of the classes they name -/
inductive HdOk (Y : Cz) (X : Cx) : List (List Str × Option Nat × List S) → List (Value × Option Nat × SuT) → Prop
  | nil : HdOk Y X [] []
  | cons {x : Str} {c : Value} {o : Option Nat} {ss : List S} {hs : List (List Str × Option Nat × List S)} {l : List (Value × Option Nat × SuT)}
      (hex : ∀ (y : Str) (C : Addr), (Y.p.cls.lookup y).isSome = true → X.mg y = some (.ref C) → PySem.W.exmOne X.K (.ref C) c = some (isUnder Y.p y [x])) (r : HdOk Y X hs l) : HdOk Y X (([x], o, ss) :: hs) ((c, o, suW Y X.mg o ss) :: l)
theorem hd_ok (O : Ok0 Y X) (hT : ∀ a c fs H, Y.X.ea a c fs H) (her : Y.er = erX X.K X.w X.mg Y.p) {D : Ends} {fp0 : Nat → List Addr} {H0 : Hp} {c : Str} {fs : List PV} {env : PEnv} : ∀ {hs : List (List Str × Option Nat × List S)} {l : List (Value × Option Nat × SuT)}, HdOk Y X hs l →
    HoldS Y fp0 H0 (exHs Y.p Y.cf Y.fu hs c fs env) D → ∀ (σ : St) (cls : Value) (d : Option Addr) (H : Hp) (fp : Nat → List Addr), Sim Y.X env σ H fp → Stp fp0 H0 fp H → Y.er c fs cls d H → wCl X.K Y.W D l cls d σ H := by
  intro hs l hk
  induction hk with
  | nil =>
    intro h σ cls d H fp S t e
    unfold exHs at h
    exact h σ cls d H fp S t e
  | @cons x cv o ss hs l hex r ih =>
    intro h σ cls d H fp S t e
    have e0 := e
    rw [her] at e
    obtain ⟨C, dd, ws, g1, g2, g3, g4⟩ := e
    subst g2 g3
    have hx := hex c C g4.1 g1
    unfold exHs at h
    refine ⟨_, hx, fun hb a na => ?_, fun hb => ?_⟩
    rotate_left
    · rw [hb, if_neg (by decide)] at h
      exact ih h σ _ _ H fp S t e0
    rw [hb, if_pos rfl] at h
    cases o with
    | none =>
      refine ⟨env, fp, S, ?_⟩
      show HoldS Y.no fp H (exSs Y.p Y.cf Y.fu ss env) D
      have h : HoldS Y fp0 H0 (match exSs Y.p Y.cf Y.fu ss env with | .exc _ _ _ => .bad | r => r) D := h
      revert h
      cases exSs Y.p Y.cf Y.fu ss env with
      | nx env => exact fun h σ' H' fp' S' t' => h σ' H' fp' S' (t.trans t')
      | brk env => exact fun h σ' H' fp' S' t' => h σ' H' fp' S' (t.trans t')
      | cnt env => exact fun h σ' H' fp' S' t' => h σ' H' fp' S' (t.trans t')
      | ret v env => exact fun h w F σ' H' fp' S' t' vo => h w F σ' H' fp' S' (t.trans t') (vo.adv t)
      | exc c fs env => exact fun h => h.elim
      | bad => exact fun h => h.elim
    | some i =>
      have h : HoldS Y fp0 H0 (match env[i]? with
          | some (.rf _) => .bad
          | some (.ro true _) => .bad
          | some _ => match exSs Y.p Y.cf Y.fu ss (env.set i (.ro true (.err c fs))) with
            | .nx env => .nx (env.set i .un)
            | .brk env => .brk (env.set i .un)
            | .cnt env => .cnt (env.set i .un)
            | .ret v env => .ret v (env.set i .un)
            | _ => .bad
          | none => .bad) D := h
      have fin : ∀ s, env[i]? = some s → s.fix = false → HoldS Y fp0 H0 (match exSs Y.p Y.cf Y.fu ss (env.set i (.ro true (.err c fs))) with
            | .nx env => .nx (env.set i .un)
            | .brk env => .brk (env.set i .un)
            | .cnt env => .cnt (env.set i .un)
            | .ret v env => .ret v (env.set i .un)
            | _ => .bad) D → suW Y X.mg (some i) ss a (.ref C) (some dd) (endC (some i) D) (sltC (some i) a σ) H := by
        intro s hs hf h
        have hRi : Y.X.R i = none := by
          cases hR : Y.X.R i with
          | none => rfl
          | some w =>
            obtain ⟨_, s', z2, z3⟩ := S.fx i w hR
            rw [hs] at z2; cases z2; rw [hf] at z3; cases z3
        have g4' : DatX Y.X.K Y.X.w Y.p c fs ws dd H := by rw [O.K, O.w]; exact g4
        refine ⟨c, fs, ws, C, dd, g1, rfl, rfl, g4', env.set i (.ro true (.err c fs)), cl fp i, S.enter hs hf g4', ?_⟩
        have t2 : ∀ {fp' : Nat → List Addr} {H' : Hp}, Stp (cl fp i) H fp' H' → Stp fp0 H0 (cl fp' i) H' := fun {fp' H'} q => by
          refine t.trans ⟨fun b o hb hn => q.frm b o hb fun j hj => hn j (cl_sub hj).2, fun j b hb => ?_⟩
          rcases q.new j b (cl_sub hb).2 with ⟨k, hk⟩ | z
          · exact .inl ⟨k, (cl_sub hk).2⟩
          · exact .inr z
        show HoldS (Y.su i a c fs ws dd) (cl fp i) H (exSs Y.p Y.cf Y.fu ss _) _
        revert h
        cases exSs Y.p Y.cf Y.fu ss (env.set i (.ro true (.err c fs))) with
        | nx env => exact fun h σ' H' fp' S' t' => h (σ'.set i none) H' (cl fp' i) (S'.leave hT hRi S.qz) (t2 t')
        | brk env => exact fun h σ' H' fp' S' t' => h (σ'.set i none) H' (cl fp' i) (S'.leave hT hRi S.qz) (t2 t')
        | cnt env => exact fun h σ' H' fp' S' t' => h (σ'.set i none) H' (cl fp' i) (S'.leave hT hRi S.qz) (t2 t')
        | ret v env =>
          intro h w F σ' H' fp' S' t' vo
          refine h w F (σ'.set i none) H' (cl fp' i) (S'.leave hT hRi S.qz) (t2 t') ⟨?_, vo.nd, fun b hb j hj => vo.dis b hb j (cl_sub hj).2, fun b hb => ?_, vo.z⟩
          · exact Rp.ea2 (X := suX Y.X Y.p i a c fs ws dd) (X' := Y.X) rfl rfl (fun _ _ _ _ => hT _ _ _ _) vo.rp
          · refine t.fresh ?_
            rcases vo.new b hb with ⟨k, hk⟩ | z
            · exact .inl ⟨k, (cl_sub hk).2⟩
            · exact .inr z
        | exc c fs env => exact fun h => h.elim
        | bad => exact fun h => h.elim
      cases hs' : env[i]? with
      | none => rw [hs'] at h; exact h.elim
      | some s =>
        rw [hs'] at h
        cases s with
        | un => exact fin _ hs' rfl h
        | ow v => exact fin _ hs' rfl h
        | rf v => exact h.elim
        | ro k v =>
          cases k with
          | true => exact h.elim
          | false => exact fin _ hs' rfl h
theorem ps_tr (O : Ok0 Y X) (hs : X.stack = X.env :: X.outer) (hf : X.env.frame = some X.env.locals) (hN : X.N.Nodup) (tk : Takes X Y.W) (hT : ∀ a c fs H, Y.X.ea a c fs H) (her : Y.er = erX X.K X.w X.mg Y.p) {body : List Stmt} {h0 : ExceptHandler} {hds : List ExceptHandler} {bs : List S} {hs' : List (List Str × Option Nat × List S)} {l : List (Value × Option Nat × SuT)} {pos : Pos}
    (hb : ∀ (W : WX) (pn : List (Addr × Obj)) (xe : Value → Shared → Prop), Takes (X.tr pn xe) W → PassesOwn (model X.prog X.w) X.A X.env xe → PSs (X.tr pn xe) body (RdSs (Y.tr W) bs)) (hh : ClsOk X (h0 :: hds) l) (hk : HdOk Y X hs' l) :
    PS X (.Try body (h0 :: hds) [] [] pos) (RdS Y (.try bs hs')) := by
  refine PS.mono (ps_tryG (tb := fun W => RdSs (Y.tr W) bs) hs hf hN tk hb hh) fun D σ H ⟨env, fp, S, h⟩ => ?_
  unfold exS at h
  refine ⟨env, fp, S, ?_⟩
  show HoldS (Y.tr (wCl X.K Y.W D l)) fp H (exSs Y.p Y.cf Y.fu bs env) D
  revert h
  cases exSs Y.p Y.cf Y.fu bs env with
  | nx env => exact fun h => h
  | brk env => exact fun h => h
  | cnt env => exact fun h => h
  | ret v env => exact fun h => h
  | exc c fs e => exact fun h σ' cls d H' fp' S' t' er => hd_ok O hT her hk h σ' cls d H' fp' S' t' er
  | bad => exact fun h => h
end
end DI
set_option Elab.async false
set_option linter.all false
set_option maxRecDepth 100000
set_option maxHeartbeats 1000000
/-! DIS31: what is read of an exception at hand. -/
namespace DI
open PySem PySem.Spec PyProof.Rows L2
/-- what must be known of the classes -/
structure ClF (K : PySem.W.Frag) (mg : Str → Option Value) (p : Prog) : Prop where
  ex : ∀ (y : Str) (C : Addr), (p.cls.lookup y).isSome = true → mg y = some (.ref C) → XfC K C ∧ (∀ f ∈ fldsOf p y, PySem.W.findIn K (.ref C) f = some none) ∧ (PySem.W.clsIn K C).isSome = true ∧
    PySem.W.findIn K (.ref C) "__class__" = some (some (.builtin "object.__class__")) ∧ PySem.W.mroIn K C (.type "object") = some true ∧ (fldsOf p y).Nodup ∧
    ∀ (z : Str) (D : Addr), (p.cls.lookup z).isSome = true → mg z = some (.ref D) → PySem.W.kitOne K (.ref C) (.ref D) = some (isUnder p y [z]) ∧ PySem.W.exmOne K (.ref C) (.ref D) = some (isUnder p y [z])
  hn : PySem.W.specialIn K (.builtin "object.__class__") "__get__" = some (some (.builtin "getset_descriptor.__get__"))
  ht : PySem.W.takesIn K (.builtin "object.__class__") = some true
  ve : ∀ (y : Str) (C : Addr), (p.cls.lookup y).isSome = true → mg y = some (.ref C) → PySem.W.kitOne K (.ref C) (.type "ValueError") = some (isUnder p y [("ValueError" : Str)])
theorem zip_look {m : Bool} {X : KX} {H : Hp} : ∀ {fl : List Str} {fs : List PV} {ws : List V} {f : Str} {v : PV}, RpL m X H fs ws [] → (fl.zip fs).lookup f = some v → ∃ w, (fl.zip ws).lookup f = some w ∧ Rp m X H v w [] ∧ f ∈ fl
  | [], fs, ws, f, v, r, h => by simp at h
  | g :: fl, [], ws, f, v, r, h => by simp at h
  | g :: fl, u :: fs, ws, f, v, r, h => by
    unfold RpL at r
    obtain ⟨w, ws', F1, F2, rfl, eF, r1, r2⟩ := r
    have z : F1 = [] ∧ F2 = [] := List.append_eq_nil_iff.mp eF.symm
    obtain ⟨rfl, rfl⟩ := z
    rw [List.zip_cons_cons, List.lookup_cons] at h ⊢
    by_cases e : (f == g) = true
    · rw [e] at h ⊢
      cases h
      exact ⟨w, rfl, r1, by rw [beq_iff_eq.mp e]; exact List.mem_cons_self⟩
    · have e' : (f == g) = false := by simpa using e
      rw [e'] at h ⊢
      obtain ⟨w', h1, h2, h3⟩ := zip_look r2 h
      exact ⟨w', h1, h2, List.mem_cons_of_mem _ h3⟩
theorem look_app {α : Type} {f : Str} : ∀ {l m : List (Str × α)} {x : α}, l.lookup f = some x → (l ++ m).lookup f = some x
  | (g, y) :: l, m, x, h => by
    rw [List.cons_append, List.lookup_cons]
    rw [List.lookup_cons] at h
    by_cases e : (f == g) = true
    · rw [e] at h ⊢; exact h
    · have e' : (f == g) = false := by simpa using e
      rw [e'] at h ⊢; exact look_app h
theorem look_none {α : Type} {f : Str} : ∀ {l m : List (Str × α)}, (∀ q ∈ l, q.1 ≠ f) → (l ++ m).lookup f = m.lookup f
  | [], m, h => rfl
  | (g, y) :: l, m, h => by
    rw [List.cons_append, List.lookup_cons]
    have e' : (f == g) = false := by
      have := h (g, y) List.mem_cons_self
      simpa using fun e => this e.symm
    rw [e']
    exact look_none fun q hq => h q (List.mem_cons_of_mem _ hq)
theorem rev_look {f : Str} : ∀ {fl : List Str} {ws : List V} {w : V}, fl.Nodup → (fl.zip ws).lookup f = some w → (fl.zip ws).reverse.lookup f = some w
  | [], ws, w, _, h => by simp at h
  | g :: fl, [], w, _, h => by simp at h
  | g :: fl, u :: ws, w, nd, h => by
    rw [List.nodup_cons] at nd
    rw [List.zip_cons_cons, List.reverse_cons]
    rw [List.zip_cons_cons, List.lookup_cons] at h
    by_cases e : (f == g) = true
    · rw [e] at h
      cases h
      have eg := beq_iff_eq.mp e
      subst eg
      rw [look_none fun q hq e => nd.1 ?_]
      · simp [List.lookup_cons]
      · rw [← e]; exact (List.of_mem_zip (List.mem_reverse.mp hq)).1
    · have e' : (f == g) = false := by simpa using e
      rw [e'] at h
      exact look_app (rev_look nd.2 h)
section
variable {Y : Cz} {X : Cx} {i : Nat} {a : Addr} {c : Str} {fs : List PV} {ws : List V} {dd C : Addr} {oe : Obj} {pn : List (Addr × Obj)} {n : Str} {p1 p2 p3 pos : Pos}
theorem su_at {env : PEnv} {σ : St} {H : Hp} {fp : Nat → List Addr} (S : Sim (suX Y.X Y.p i a c fs ws dd) env σ H fp) {c' : Str} {fs' : List PV} (he : env[i]? = some (.ro true (.err c' fs'))) : c' = c ∧ fs' = fs ∧ σ[i]? = some (some (.ref a)) ∧ DatX Y.X.K Y.X.w Y.p c fs ws dd H := by
  obtain ⟨w, G, e1, r, q⟩ := S.ro i true _ he
  have q : (if i = i then PV.err c' fs' = .err c fs ∧ w = .ref a ∧ G = [] else Y.X.Q i (.err c' fs') w G) := q
  rw [if_pos rfl] at q
  obtain ⟨q1, rfl, rfl⟩ := q
  injection q1 with q1 q2
  subst q1 q2
  unfold Rp at r
  obtain ⟨_, a', e, z⟩ := r
  cases e
  exact ⟨rfl, rfl, e1, z rfl⟩
theorem fld_in {f : Str} {σ : St} {H : Hp} {Q : VK} (h : RdB (Y.su i a c fs ws dd) (.fld i f) σ H Q) : f ∈ fldsOf Y.p c ∧ σ[i]? = some (some (.ref a)) ∧ ∃ w, H dd = some (.xd (flV (fldsOf Y.p c) ws)) ∧ (((fldsOf Y.p c).Nodup) → (flV (fldsOf Y.p c) ws).lookup f = some w) ∧ (Y.X.K = (suX Y.X Y.p i a c fs ws dd).K → Q w H) := by
  obtain ⟨env, fp, S, h⟩ := h
  unfold evB at h
  cases he : env[i]? with
  | none => simp only [he] at h; exact h.elim
  | some s =>
    simp only [he] at h
    cases s with
    | un => exact h.elim
    | ow v => exact h.elim
    | rf v => exact h.elim
    | ro k v =>
      cases k with
      | false => exact h.elim
      | true =>
        cases v with
        | err c' fs' =>
          obtain ⟨rfl, rfl, e1, D⟩ := su_at S he
          simp only at h
          cases hl : Y.p.cls.lookup c' with
          | none => simp only [hl] at h; exact h.elim
          | some q =>
            obtain ⟨up, fl⟩ := q
            simp only [hl] at h
            have efl : fldsOf Y.p c' = fl := by unfold fldsOf; rw [hl]
            cases hk : (fl.zip fs').lookup f with
            | none => simp only [hk] at h; exact h.elim
            | some v =>
              simp only [hk] at h
              obtain ⟨hv, h⟩ := h.ite
              obtain ⟨w, w1, w2, w3⟩ := zip_look (fl := fl) D.2.2.2.2 hk
              have D4 := D.2.2.2.1
              rw [efl] at D4 ⊢
              refine ⟨w3, e1, w, D4, fun nd => rev_look nd w1, fun _ => ?_⟩
              have rv : Rp true (suX Y.X Y.p i a c' fs' ws dd) H v w [] := Rp.imm2 (m' := true) (X := kf Y.X.K Y.X.w) (X' := suX Y.X Y.p i a c' fs' ws dd) rfl w2 hv
              exact h w H fp ((New.flat rv).post suX_ok S Stp.refl (fun _ => same_refl) (fun _ _ _ h => h) (fun _ z => nomatch z))
        | _ => exact h.elim
theorem pe_fldS (O : Ok0 Y X) (F : ClF X.K X.mg Y.p) (gC : X.mg c = some (.ref C)) (hc : (Y.p.cls.lookup c).isSome = true) (hz : Zc (.ref C) (some dd) oe) (hf : ∃ vs, oe.data = .fields vs) {f : Str} (hi : X.N[i]? = some n) (hv : Vis X.env.scope n) (hd : (n == ("__debug__" : Str)) = false) (hcd : (n == ("__classdict__" : Str)) = false)
    (hb : attributeBase (.Name n p1) f X.env (eval (.Name n p1) X.env) = eval (.Name n p1) X.env) : PE (X.suite a ((a, oe) :: pn)) (.Attribute (.Name n p1) f pos) (RdB (Y.su i a c fs ws dd) (.fld i f)) := by
  obtain ⟨T, nof, _, _, _, nd, _⟩ := F.ex c C hc gC
  by_cases hm : f ∈ fldsOf Y.p c
  · refine PE.mono (pe_xf T (nof f hm) hz hf (pe_var (X := X.suite a ((a, oe) :: pn)) hi hv hd hcd) hb) fun σ H Q h => ?_
    obtain ⟨_, e1, w, h1, h2, h3⟩ := fld_in h
    exact ⟨.ref a, e1, rfl, rfl, dd, _, w, rfl, h1, h2 nd, h3 rfl⟩
  · exact ⟨fun pins s σ H Q I h => absurd (fld_in h).1 hm⟩
/-- isinstance(e, c) of the exception at hand, c a class of the program or ValueError -/
def rIsX (K : PySem.W.Frag) (C a dd : Addr) : List V → Hp → VK → Prop := fun xs H Q => ∃ (cv : V) (u : Value) (b : Bool) (fl : List (Str × V)), xs = [.ref a, cv] ∧ H dd = some (.xd fl) ∧ ClsV cv u ∧ PySem.W.kitOne K (.ref C) u = some b ∧ Q (.bl b) H
theorem call_isX (F : ClF X.K X.mg Y.p) (gC : X.mg c = some (.ref C)) (hc : (Y.p.cls.lookup c).isSome = true) (hz : Zc (.ref C) (some dd) oe) (hf : ∃ vs, oe.data = .fields vs) : CallR (X.suite a ((a, oe) :: pn)) (.builtin "isinstance") (rIsX X.K C a dd) := by
  intro pins s σ H xs us Q I r h
  obtain ⟨cv, u, b, fl, rfl, hd, hcv, e, q⟩ := h
  obtain ⟨T, _, k0, k1, k2, _, _⟩ := F.ex c C hc gC
  cases r with
  | cons rx rr =>
    cases rr with
    | cons rt rr =>
      cases rr
      cases rx
      have ec := hcv.eq rt
      subst ec
      obtain ⟨hget, _⟩ := I.pin (a, oe) (List.mem_append.mpr (.inl List.mem_cons_self))
      obtain ⟨vs, hv⟩ := hf
      obtain ⟨mA, hns, _⟩ : ObjOk X.prog X.w H s.heap dd (.xd fl) := I.hok dd _ hd
      obtain ⟨od, ho, _⟩ := lookIn_ns hns
      have J : PySem.W.InstAt s.heap a oe C (some od) := ⟨hget, hz.1, by unfold PySem.W.notCls; rw [hv] <;> rfl, by rw [hz.2]; exact ho⟩
      exact PySem.W.kia_one (PySem.W.kitx_exc k0 T.ga T.gg T.exC k1 F.hn F.ht k2) I.kIn J e (fun z => nomatch z) fun tk => ⟨.bl b, H, I.kept (t' := tk) fun _ _ z => z, rfl, q⟩
theorem isE_in {ds : List Str} {σ : St} {H : Hp} {Q : VK} (h : RdB (Y.su i a c fs ws dd) (.isE i ds) σ H Q) : σ[i]? = some (some (.ref a)) ∧ H dd = some (.xd (flV (fldsOf Y.p c) ws)) ∧ Q (.bl (isUnder Y.p c ds)) H := by
  obtain ⟨env, fp, S, h⟩ := h
  unfold evB at h
  cases he : env[i]? with
  | none => simp only [he] at h; exact h.elim
  | some s =>
    simp only [he] at h
    cases s with
    | un => exact h.elim
    | ow v => exact h.elim
    | rf v => exact h.elim
    | ro k v =>
      cases k with
      | false => exact h.elim
      | true =>
        cases v with
        | err c' fs' =>
          obtain ⟨rfl, rfl, e1, D⟩ := su_at S he
          simp only at h
          obtain ⟨_, h⟩ := h.ite
          exact ⟨e1, D.2.2.2.1, h _ H fp ((New.flat rp_bl).post suX_ok S Stp.refl (fun _ => same_refl) (fun _ _ _ h => h) (fun _ z => nomatch z))⟩
        | _ => exact h.elim
theorem pe_isS (O : Ok0 Y X) (F : ClF X.K X.mg Y.p) (gC : X.mg c = some (.ref C)) (hc : (Y.p.cls.lookup c).isSome = true) (hz : Zc (.ref C) (some dd) oe) (hf : ∃ vs, oe.data = .fields vs) {x : Str} (hi : X.N[i]? = some n) (hv : Vis X.env.scope n) (hd : (n == ("__debug__" : Str)) = false) (hcd : (n == ("__classdict__" : Str)) = false)
    (hg : Gl X "isinstance") (hm : X.mg "isinstance" = none) (hg2 : Gl X x) {D : Addr} (gD : X.mg x = some (.ref D)) (hcx : (Y.p.cls.lookup x).isSome = true) (hdx : (x == ("__debug__" : Str)) = false)
    (hs : starEach [.Name n p2, .Name x p3] X.env = (false, eval (.Name n p2) X.env) :: starEach [.Name x p3] X.env) (hs2 : starEach [.Name x p3] X.env = (false, eval (.Name x p3) X.env) :: starEach [] X.env) (hpl : (backTo pos (starEach [.Name x p3] X.env)).any (·.1) = false) :
    PE (X.suite a ((a, oe) :: pn)) (.Call (.Name "isinstance" p1) [.Name n p2, .Name x p3] [] pos) (RdB (Y.su i a c fs ws dd) (.isE i [x])) := by
  obtain ⟨_, _, _, _, _, _, kk⟩ := F.ex c C hc gC
  refine PE.mono (pe_callB (X := X.suite a ((a, oe) :: pn)) (call_isX F gC hc hz hf) hg hm PyProof.Rows.boot_isinstance (pa_cons (pe_var hi hv hd hcd) (pa_cons (pe_glob (v := .ref D) hg2 gD rfl hdx) pa_nil hs2) hs) (by decide) (by decide) hs hpl) fun σ H Q h => ?_
  obtain ⟨e1, h1, h2⟩ := isE_in h
  exact ⟨.ref a, e1, .ref D, .ref D, _, _, rfl, h1, .own D, (kk x D hcx gD).1, h2⟩
theorem pe_isSV (O : Ok0 Y X) (F : ClF X.K X.mg Y.p) (gC : X.mg c = some (.ref C)) (hc : (Y.p.cls.lookup c).isSome = true) (hz : Zc (.ref C) (some dd) oe) (hf : ∃ vs, oe.data = .fields vs) (hi : X.N[i]? = some n) (hv : Vis X.env.scope n) (hd : (n == ("__debug__" : Str)) = false) (hcd : (n == ("__classdict__" : Str)) = false)
    (hg : Gl X "isinstance") (hm : X.mg "isinstance" = none) (hg2 : Gl X "ValueError") (gD : X.mg "ValueError" = none)
    (hs : starEach [.Name n p2, .Name "ValueError" p3] X.env = (false, eval (.Name n p2) X.env) :: starEach [.Name "ValueError" p3] X.env) (hs2 : starEach [.Name "ValueError" p3] X.env = (false, eval (.Name "ValueError" p3) X.env) :: starEach [] X.env) (hpl : (backTo pos (starEach [.Name "ValueError" p3] X.env)).any (·.1) = false) :
    PE (X.suite a ((a, oe) :: pn)) (.Call (.Name "isinstance" p1) [.Name n p2, .Name "ValueError" p3] [] pos) (RdB (Y.su i a c fs ws dd) (.isE i [("ValueError" : Str)])) := by
  refine PE.mono (pe_callB (X := X.suite a ((a, oe) :: pn)) (call_isX F gC hc hz hf) hg hm PyProof.Rows.boot_isinstance (pa_cons (pe_var hi hv hd hcd) (pa_cons (pe_bltn (v := .ty "ValueError") (u := .type "ValueError") hg2 gD (by decide +kernel) rfl) pa_nil hs2) hs) (by decide) (by decide) hs hpl) fun σ H Q h => ?_
  obtain ⟨e1, h1, h2⟩ := isE_in h
  exact ⟨.ref a, e1, .ty "ValueError", .type "ValueError", _, _, rfl, h1, .ty _, F.ve c C hc gC, h2⟩
end
end DI
set_option Elab.async false
set_option linter.all false
set_option maxRecDepth 100000
set_option maxHeartbeats 1000000
/-! DIS32: walks of defs that raise and catch; all defs; the top. -/
namespace DI
open PySem PySem.Spec PyProof.Rows L2
/-- what a def that raises or catches has at hand -/
structure Exb (Y : Cz) (X : Cx) : Prop where
  hs : X.stack = X.env :: X.outer
  hf : X.env.frame = some X.env.locals
  tk : Takes X Y.W
  hT : ∀ a c fs H, Y.X.ea a c fs H
  her : Y.er = erX X.K X.w X.mg Y.p
  F : ClF X.K X.mg Y.p
  gC : ∀ c, (Y.p.cls.lookup c).isSome = true → ∃ C, X.mg c = some (.ref C)
  mks : ∀ c, (Y.p.cls.lookup c).isSome = true → fldsOf Y.p c ≠ [] → ∃ C, MkF X.prog X.w X.K X.mg X.base (L2.CX X.prog X.w) Y.p c C
  rm : Room 2 X.A
section
variable {Y : Cz} {X : Cx} {k : Nat} {src : Str → Stmt}
theorem Exb.sub (E : Exb Y X) (Z : Addr → Prop) (R : Nat → Option V) (Q : Nat → PV → V → List Addr → Prop) : Exb (Y.sub Z R Q) X := ⟨E.hs, E.hf, E.tk, E.hT, E.her, E.F, E.gC, E.mks, E.rm⟩
theorem Exb.tr (E : Exb Y X) {W : WX} {pn : List (Addr × Obj)} {xe : Value → Shared → Prop} (tk : Takes (X.tr pn xe) W) : Exb (Y.tr W) (X.tr pn xe) := ⟨E.hs, E.hf, tk, E.hT, E.her, E.F, E.gC, E.mks, E.rm⟩
theorem Bun.tr (B : Bun Y X (L2.CX X.prog X.w) k src) {W : WX} {pn : List (Addr × Obj)} {xe : Value → Shared → Prop} (tk : Takes (X.tr pn xe) W) : Bun (Y.tr W) (X.tr pn xe) (L2.CX X.prog X.w) k src :=
  ⟨⟨B.O.ok, B.O.K, B.O.w, B.O.hu⟩, B.hc, fun f d h => ⟨(B.D f d h).ex⟩, B.hr, fun σ => passAt (X := X.tr pn xe) tk σ, B.h0, B.ng, B.nm, B.gl⟩
variable {c e : Expr} {es : List Expr} {ks : List E} {p pos pos2 : Pos}
theorem g_rs (B : Bun Y X (L2.CX X.prog X.w) k src) (E : Exb Y X) {c : Str} (ha : Alls Y X (e :: es) ks) (hc : (Y.p.cls.lookup c).isSome = true := by rfl) (hl : ks.length = (fldsOf Y.p c).length := by rfl) (hg : Gl X c := by rfl) (hd : (c == ("__debug__" : Str)) = false := by decide) :
    PS X (.Raise (some (.Call (.Name c p) (e :: es) [] pos)) none pos2) (RdS Y (.raise c ks)) := by
  have hne : fldsOf Y.p c ≠ [] := fun z => by
    rw [z] at hl
    cases ha with
    | cons _ _ t => cases hl
  obtain ⟨C, M⟩ := E.mks c hc hne
  have h1 : starEach (e :: es) X.env = (false, eval e X.env) :: starEach es X.env := by
    cases ha with
    | cons _ h _ => exact h
  exact ps_rs (k := 0) B.O B.hc E.tk E.her M E.rm (fun _ _ _ _ _ _ _ ⟨_, _, _, _, _, _, _, _, _, _, _, _, z⟩ => z.elim) hg hd hl ha h1
/-- the clauses of both texts -/
def Hds (Y : Cz) (X : Cx) (hs : List ExceptHandler) (hs' : List (List Str × Option Nat × List S)) : Prop := ∃ l, ClsOk X hs l ∧ HdOk Y X hs' l
theorem hds_n : Hds Y X [] [] := ⟨[], .nil, .nil⟩
theorem Exb.ex (E : Exb Y X) {x : Str} {D : Addr} (hcx : (Y.p.cls.lookup x).isSome = true) (g : X.mg x = some (.ref D)) (y : Str) (C : Addr) (hy : (Y.p.cls.lookup y).isSome = true) (gy : X.mg y = some (.ref C)) : PySem.W.exmOne X.K (.ref C) (.ref D) = some (isUnder Y.p y [x]) :=
  ((E.F.ex y C hy gy).2.2.2.2.2.2 x D hcx g).2
theorem hds_u (B : Bun Y X (L2.CX X.prog X.w) k src) (E : Exb Y X) {x : Str} {b0 : Stmt} {su : List Stmt} {np hp : Pos} {ss : List S} {hs : List ExceptHandler} {hs' : List (List Str × Option Nat × List S)}
    (hsu : ∀ (a : Addr) (oe : Obj) (pn : List (Addr × Obj)), Ok0 Y.no (X.suite a ((a, oe) :: pn)) → PSs (X.suite a ((a, oe) :: pn)) (b0 :: su) (RdSs Y.no ss)) (r : Hds Y X hs hs') (hcx : (Y.p.cls.lookup x).isSome = true := by rfl) (hg : Gl X x := by rfl) (hd : (x == ("__debug__" : Str)) = false := by decide) :
    Hds Y X (.ExceptHandler (some (.Name x np)) none (b0 :: su) hp :: hs) (([x], none, ss) :: hs') := by
  obtain ⟨l, h1, h2⟩ := r
  obtain ⟨D, g⟩ := E.gC x hcx
  exact ⟨(.ref D, none, suW Y X.mg none ss) :: l, .cons (.un ⟨hg, hd, .inl g⟩ fun a oe cls d pn _ _ => hsu a oe pn ⟨B.O.ok, B.O.K, B.O.w, B.O.hu⟩) h1, .cons (fun y C hy gy => E.ex hcx g y C hy gy) h2⟩
/-- what a suite with a name has at hand -/
structure SuB (Y : Cz) (X : Cx) (i : Nat) (a : Addr) (oe : Obj) (pn : List (Addr × Obj)) (c : Str) (fs : List PV) (ws : List V) (C dd : Addr) : Prop where
  O : Ok0 (Y.su i a c fs ws dd) (X.suite a ((a, oe) :: pn))
  O0 : Ok0 Y X
  F : ClF X.K X.mg Y.p
  g : X.mg c = some (.ref C)
  hc : (Y.p.cls.lookup c).isSome = true
  hz : Zc (.ref C) (some dd) oe
  hf : ∃ vs, oe.data = .fields vs
  gC : ∀ c, (Y.p.cls.lookup c).isSome = true → ∃ C, X.mg c = some (.ref C)
  isn : X.mg "isinstance" = none
  gl : ∀ x v, Y.p.globs.lookup x = some v → ∃ w u, X.mg x = some u ∧ RelV w u ∧ ∀ H, Rp true (bX Y.X) H v w []
theorem hds_m (B : Bun Y X (L2.CX X.prog X.w) k src) (E : Exb Y X) {x n : Str} {i : Nat} {b0 : Stmt} {su : List Stmt} {np hp : Pos} {ss : List S} {hs : List ExceptHandler} {hs' : List (List Str × Option Nat × List S)}
    (hsu : ∀ (a : Addr) (oe : Obj) (pn : List (Addr × Obj)) (c : Str) (fs : List PV) (ws : List V) (C dd : Addr), SuB Y X i a oe pn c fs ws C dd → PSs (X.suite a ((a, oe) :: pn)) (b0 :: su) (RdSs (Y.su i a c fs ws dd) ss)) (r : Hds Y X hs hs') (hcx : (Y.p.cls.lookup x).isSome = true := by rfl) (hg : Gl X x := by rfl)
    (hi : X.N[i]? = some n := by rfl) (hl : X.env.kindOf n = some .local := by rfl) (hd : (x == ("__debug__" : Str)) = false := by decide) :
    Hds Y X (.ExceptHandler (some (.Name x np)) (some n) (b0 :: su) hp :: hs) (([x], some i, ss) :: hs') := by
  obtain ⟨l, h1, h2⟩ := r
  obtain ⟨D, g⟩ := E.gC x hcx
  refine ⟨(.ref D, some i, suW Y X.mg (some i) ss) :: l, .cons (.nm hi hl ⟨hg, hd, .inl g⟩ fun a oe cls d pn hz hf => ?_) h1, .cons (fun y C hy gy => E.ex hcx g y C hy gy) h2⟩
  refine ⟨fun pins s σ H De I h => ?_⟩
  obtain ⟨c, fs, ws, C, dd, q1, rfl, rfl, q4, q5⟩ := h
  exact (hsu a oe pn c fs ws C dd ⟨⟨suX_ok, B.O.K, B.O.w, B.O.hu⟩, B.O, E.F, q1, q4.1, hz, hf, E.gC, B.nm _ (by simp), B.gl⟩).run pins s σ H De I q5
theorem g_try (B : Bun Y X (L2.CX X.prog X.w) k src) (E : Exb Y X) (hN : X.N.Nodup) {body : List Stmt} {h0 : ExceptHandler} {hds : List ExceptHandler} {bs : List S} {hs' : List (List Str × Option Nat × List S)}
    (hb : ∀ (W : WX) (pn : List (Addr × Obj)) (xe : Value → Shared → Prop), Bun (Y.tr W) (X.tr pn xe) (L2.CX X.prog X.w) k src → Exb (Y.tr W) (X.tr pn xe) → PassesOwn (model X.prog X.w) X.A X.env xe → PSs (X.tr pn xe) body (RdSs (Y.tr W) bs)) (hh : Hds Y X (h0 :: hds) hs') :
    PS X (.Try body (h0 :: hds) [] [] pos) (RdS Y (.try bs hs')) := by
  obtain ⟨l, h1, h2⟩ := hh
  exact ps_tr B.O E.hs E.hf hN E.tk E.hT E.her (fun W pn xe tk hp => hb W pn xe (B.tr tk) (E.tr tk) hp) h1 h2
/-! ### the parts of a named suite -/
variable {i : Nat} {a : Addr} {oe : Obj} {pn : List (Addr × Obj)} {cc : Str} {fs : List PV} {ws : List V} {C dd : Addr} {n : Str} {p1 p2 p3 : Pos}
theorem s_fld (S : SuB Y X i a oe pn cc fs ws C dd) {f : Str} (hi : X.N[i]? = some n := by rfl) (hv : Vis X.env.scope n := by first | exact .inl rfl | exact .inr (.inl rfl) | exact .inr (.inr rfl)) (hd : (n == ("__debug__" : Str)) = false := by decide) (hcd : (n == ("__classdict__" : Str)) = false := by decide)
    (hb : attributeBase (.Name n p1) f X.env (eval (.Name n p1) X.env) = eval (.Name n p1) X.env := by rfl) : PE (X.suite a ((a, oe) :: pn)) (.Attribute (.Name n p1) f pos) (RdB (Y.su i a cc fs ws dd) (.fld i f)) :=
  pe_fldS S.O0 S.F S.g S.hc S.hz S.hf hi hv hd hcd hb
theorem s_isE (S : SuB Y X i a oe pn cc fs ws C dd) {x : Str} (hi : X.N[i]? = some n := by rfl) (hv : Vis X.env.scope n := by first | exact .inl rfl | exact .inr (.inl rfl) | exact .inr (.inr rfl)) (hd : (n == ("__debug__" : Str)) = false := by decide) (hcd : (n == ("__classdict__" : Str)) = false := by decide)
    (hg : Gl X "isinstance" := by rfl) (hg2 : Gl X x := by rfl) (hcx : (Y.p.cls.lookup x).isSome = true := by rfl) (hdx : (x == ("__debug__" : Str)) = false := by decide)
    (hs : starEach [.Name n p2, .Name x p3] X.env = (false, eval (.Name n p2) X.env) :: starEach [.Name x p3] X.env := by rfl) (hs2 : starEach [.Name x p3] X.env = (false, eval (.Name x p3) X.env) :: starEach [] X.env := by rfl) (hpl : (backTo pos (starEach [.Name x p3] X.env)).any (·.1) = false := by rfl) :
    PE (X.suite a ((a, oe) :: pn)) (.Call (.Name "isinstance" p1) [.Name n p2, .Name x p3] [] pos) (RdB (Y.su i a cc fs ws dd) (.isE i [x])) := by
  obtain ⟨D, g⟩ := S.gC x hcx
  exact pe_isS S.O0 S.F S.g S.hc S.hz S.hf hi hv hd hcd hg S.isn hg2 g hcx hdx hs hs2 hpl
theorem s_isV (S : SuB Y X i a oe pn cc fs ws C dd) (hv0 : X.mg "ValueError" = none) (hi : X.N[i]? = some n := by rfl) (hv : Vis X.env.scope n := by first | exact .inl rfl | exact .inr (.inl rfl) | exact .inr (.inr rfl)) (hd : (n == ("__debug__" : Str)) = false := by decide) (hcd : (n == ("__classdict__" : Str)) = false := by decide)
    (hg : Gl X "isinstance" := by rfl) (hg2 : Gl X "ValueError" := by rfl)
    (hs : starEach [.Name n p2, .Name "ValueError" p3] X.env = (false, eval (.Name n p2) X.env) :: starEach [.Name "ValueError" p3] X.env := by rfl) (hs2 : starEach [.Name "ValueError" p3] X.env = (false, eval (.Name "ValueError" p3) X.env) :: starEach [] X.env := by rfl) (hpl : (backTo pos (starEach [.Name "ValueError" p3] X.env)).any (·.1) = false := by rfl) :
    PE (X.suite a ((a, oe) :: pn)) (.Call (.Name "isinstance" p1) [.Name n p2, .Name "ValueError" p3] [] pos) (RdB (Y.su i a cc fs ws dd) (.isE i [("ValueError" : Str)])) :=
  pe_isSV S.O0 S.F S.g S.hc S.hz S.hf hi hv hd hcd hg S.isn hg2 hv0 hs hs2 hpl
theorem s_g (S : SuB Y X i a oe pn cc fs ws C dd) {x : Str} {v : PV} (hg : Gl X x := by rfl) (hp : Y.p.globs.lookup x = some v := by rfl) (hv : v.imm = true := by rfl) (hd : (x == ("__debug__" : Str)) = false := by decide) : PE (X.suite a ((a, oe) :: pn)) (.Name x pos) (RdB (Y.su i a cc fs ws dd) (.glob x)) := by
  obtain ⟨w, u, hm, r, hr⟩ := S.gl x v hp
  exact pe_g (X := X.suite a ((a, oe) :: pn)) S.O hg hm r hp (fun H => Rp.imm2 (m' := true) (X := bX Y.X) (X' := (Y.su i a cc fs ws dd).X) rfl (hr H) hv) hd
end
/-! ### all defs -/
structure WalkX (p : Prog) (src : Str → Stmt) (f : Str) (d : Def) : Prop where
  ex : ∃ (N ps : List Str), FnScope N ps (defScope (src f)) ∧ d.nl = N.length ∧ ps = ((defArgs (src f)).args.map (·.arg)) ∧ ps.length = d.np ∧
    (∀ (kV doc pm : Value) (an : Option Addr) (cdv ct : Value) (us : List Value), us.length = ps.length → bindArgs (PySem.W.fnOf f f (defArgs (src f)) (defBody (src f)) (defScope (src f)) .none kV doc pm an cdv ct) ⟨us, []⟩ = pure (ps.zip us)) ∧
    ∀ (P : Program) (w : World) (K : PySem.W.Frag) (mg : Str → Option Value) (base : Heap) (k : Nat) (cf : Str → List PV → CR) (fu : Nat) (XX : KX) (W : WX) (er : Str → List PV → Value → Option Addr → Hp → Prop) (fa : Addr) (cdv : Value) (A : Around) (outer : List Env) (s : Shared) (H : Hp) (E : XK),
      Bun ⟨XX, p, cf, fu, W, er⟩ (cxOf (L2.CX P w) P w K mg base N f (defScope (src f)) fa cdv A outer s H E) (L2.CX P w) k src → Exb ⟨XX, p, cf, fu, W, er⟩ (cxOf (L2.CX P w) P w K mg base N f (defScope (src f)) fa cdv A outer s H E) →
      PSs (cxOf (L2.CX P w) P w K mg base N f (defScope (src f)) fa cdv A outer s H E) (defBody (src f)) (RdSs ⟨XX, p, cf, fu, W, er⟩ d.body)
abbrev eaT : Addr → Str → List PV → Hp → Prop := fun _ _ _ _ => True
/-- what stands behind the top of a program with classes -/
structure FactsX (p : Prog) (src : Str → Stmt) (K : PySem.W.Frag) (mg : Str → Option Value) (w : World) : Prop where
  f : Facts p src K mg (kb K w eaT)
  F : ClF K mg p
  gC : ∀ c, (p.cls.lookup c).isSome = true → ∃ C, mg c = some (.ref C)
  mks : ∀ (P : Program) (base : Heap) (c : Str), (p.cls.lookup c).isSome = true → fldsOf p c ≠ [] → ∃ C, MkF P w K mg base (L2.CX P w) p c C
theorem all_okX {p : Prog} {fu : Nat} {src : Str → Stmt} {P : Program} {w : World} {K : PySem.W.Frag} {mg : Str → Option Value} {base : Heap} (hw : ∀ q ∈ p.defs, WalkX p src q.1 q.2) (hF : FactsX p src K mg w) :
    ∀ (k : Nat) (f : Str) (d : Def), p.defs.lookup f = some d → DefP P w K mg base (L2.CX P w) (k + 3) (kb K w eaT) (erX K w mg p) (callI p fu k) src f d := by
  intro k
  induction k with
  | zero =>
    intro f d hd
    obtain ⟨a, fd, g, F⟩ := hF.f.fn (f, d) (lookup_in hd)
    obtain ⟨N, ps, sc, hnl, hps, hnp, hb, _⟩ := (hw (f, d) (lookup_in hd)).ex
    exact ⟨a, fd, ps, g, F, F.bindsN hb, ⟨fun vs H Q E ⟨_, _, _, h1, _⟩ => (by rw [h1, hnp]), fun A outer s H args us vs Q E hr e0 hbd hv ⟨_, _, _, _, _, _, _, h⟩ => h.elim⟩, hps⟩
  | succ k ih =>
    intro f d hd
    obtain ⟨a, fd, g, F⟩ := hF.f.fn (f, d) (lookup_in hd)
    obtain ⟨N, ps, sc, hnl, hps, hnp, hb, wk⟩ := (hw (f, d) (lookup_in hd)).ex
    have ec : callI p fu (k + 1) f = fun vs => if vs.length = d.np ∧ d.muts.length = d.np ∧ d.np ≤ d.nl then callEnd d (exSs p (callI p fu k) fu d.body (startE d vs)) else .bad := by
      funext vs
      rw [callI]
      rw [hd]
    refine ⟨a, fd, ps, g, F, F.bindsN hb, ?_, hps⟩
    rw [ec]
    refine fn_I F sc hnl hnp fun cdv A outer s H E Z R hr => ?_
    have tk : Takes (cxOf (L2.CX P w) P w K mg base N f (defScope (src f)) a cdv A outer s H E) (fun cls d _ H => E cls d H) := takes_of rfl rfl rfl rfl
    refine wk P w K mg base (k + 3) (callI p fu k) fu _ _ _ a cdv A outer s H E ⟨⟨fun _ _ _ _ _ _ _ => trivial, rfl, rfl, ?_⟩, rfl, fun f' d' h' => ⟨ih f' d' h'⟩, hr, fun σ => passAt tk σ, fun X' σ _ _ _ _ _ _ ⟨_, _, _, _, _, _, _, _, _, _, _, _, z⟩ => z.elim, hF.f.ng, hF.f.nm, hF.f.gl⟩
      ⟨rfl, rfl, tk, fun _ _ _ _ => trivial, rfl, hF.F, hF.gC, fun c h1 h2 => hF.mks P base c h1 h2, hr.mono (by omega)⟩
    show (A.deeper _).units + 200 < cLine
    have := hr.un
    omega
end DI
set_option Elab.async false
set_option linter.all false
set_option maxRecDepth 100000
set_option maxHeartbeats 1000000
/-! DIS33: what the top's written part says of the classes, asked by one Bool; the top. -/
namespace DI
open PySem PySem.Spec PyProof.Rows L2
/-- a class over ValueError that is made by its own __init__ -/
def oexB (K : PySem.W.Frag) (C : Addr) : Bool := (match K.lookup C with
  | some ⟨.type "type", _, .cls cd, sl⟩ => (match cd.mro, sl.toList with
    | .ref C' :: bm, [_, _, _, _, some (.builtin n), _] => C' == C && n == "ValueError.__new__" && !cd.hasDel && cd.hasDict && PySem.HandSPX.refsVE bm
    | _, _ => false)
  | _ => false) && decide (PySem.W.findIn K (.ref C) "__setattr__" = some (some (.builtin "object.__setattr__"))) && decide (PySem.W.subIn K (.ref C) (.type "BaseException") = some true) && decide (PySem.W.typeIn K (.ref C) = some (.type "type")) && PySem.W.keepIn K (.ref C)
theorem oexB_ok {K : PySem.W.Frag} {C : Addr} (h : oexB K C = true) : OexC K C := by
  unfold oexB at h
  simp only [Bool.and_eq_true, decide_eq_true_eq] at h
  obtain ⟨⟨⟨⟨h0, h1⟩, h2⟩, h3⟩, h4⟩ := h
  refine ⟨?_, h1, h2, h3, h4⟩
  split at h0
  · rename_i dd cd sl ho
    split at h0
    · rename_i C' bm k0 k1 k2 k3 n k5 hm hs
      simp only [Bool.and_eq_true, beq_iff_eq, Bool.not_eq_true'] at h0
      obtain ⟨⟨⟨⟨rfl, rfl⟩, hdel⟩, hdict⟩, hr⟩ := h0
      obtain ⟨nm, bs, mro, ns, qn, hd, sn, sub, ab, col, del⟩ := cd
      dsimp only at hm hdel hdict
      subst hm hdel hdict
      have hsl : sl = #[k0, k1, k2, k3, some (.builtin "ValueError.__new__"), k5] := by
        obtain ⟨l⟩ := sl
        simp only at hs
        rw [hs]
      subst hsl
      exact ⟨nm, qn, ns, bs, bm, sn, sub, ab, col, dd, k0, k1, k2, k3, k5, ho, hr⟩
    · cases h0
  · cases h0
/-- all that is asked of the classes -/
def clsB (p : Prog) (K : PySem.W.Frag) : Bool :=
  decide (PySem.W.specialIn K (.builtin "object.__class__") "__get__" = some (some (.builtin "getset_descriptor.__get__"))) && decide (PySem.W.takesIn K (.builtin "object.__class__") = some true) &&
  p.cls.all fun q => decide (PySem.W.nsIn K mainGlobals q.1 = some (some (.ref (He.ga K q.1)))) && xfB K (He.ga K q.1) && q.2.2.all (fun f => decide (PySem.W.findIn K (.ref (He.ga K q.1)) f = some none)) && (PySem.W.clsIn K (He.ga K q.1)).isSome &&
    decide (PySem.W.findIn K (.ref (He.ga K q.1)) "__class__" = some (some (.builtin "object.__class__"))) && decide (PySem.W.mroIn K (He.ga K q.1) (.type "object") = some true) && decide q.2.2.Nodup && decide (q.2.2.length ≤ 900) &&
    decide (PySem.W.kitOne K (.ref (He.ga K q.1)) (.type "ValueError") = some (isUnder p q.1 [("ValueError" : Str)])) &&
    (p.cls.all fun r => decide (PySem.W.kitOne K (.ref (He.ga K q.1)) (.ref (He.ga K r.1)) = some (isUnder p q.1 [r.1])) && decide (PySem.W.exmOne K (.ref (He.ga K q.1)) (.ref (He.ga K r.1)) = some (isUnder p q.1 [r.1]))) &&
    (q.2.2.isEmpty || (oexB K (He.ga K q.1) && decide (PySem.W.findIn K (.ref (He.ga K q.1)) "__init__" = some (some (.ref (He.ma K (He.ga K q.1) "__init__")))) && decide (PySem.W.typeIn K (.ref (He.ma K (He.ga K q.1) "__init__")) = some (.type "function"))))
theorem cls_in {p : Prog} {y : Str} (h : (p.cls.lookup y).isSome = true) : ∃ q ∈ p.cls, q.1 = y ∧ fldsOf p y = q.2.2 := by
  cases e : p.cls.lookup y with
  | none => rw [e] at h; cases h
  | some r => exact ⟨(y, r), lookup_in e, rfl, by unfold fldsOf; rw [e]⟩
structure ClsQ (p : Prog) (K : PySem.W.Frag) (y : Str) : Prop where
  g : PySem.W.nsIn K mainGlobals y = some (some (.ref (He.ga K y)))
  xf : XfC K (He.ga K y)
  nof : ∀ f ∈ fldsOf p y, PySem.W.findIn K (.ref (He.ga K y)) f = some none
  cl : (PySem.W.clsIn K (He.ga K y)).isSome = true
  ca : PySem.W.findIn K (.ref (He.ga K y)) "__class__" = some (some (.builtin "object.__class__"))
  mro : PySem.W.mroIn K (He.ga K y) (.type "object") = some true
  nd : (fldsOf p y).Nodup
  len : (fldsOf p y).length ≤ 900
  ve : PySem.W.kitOne K (.ref (He.ga K y)) (.type "ValueError") = some (isUnder p y [("ValueError" : Str)])
  kk : ∀ z, (p.cls.lookup z).isSome = true → PySem.W.kitOne K (.ref (He.ga K y)) (.ref (He.ga K z)) = some (isUnder p y [z]) ∧ PySem.W.exmOne K (.ref (He.ga K y)) (.ref (He.ga K z)) = some (isUnder p y [z])
  mks : fldsOf p y ≠ [] → OexC K (He.ga K y) ∧ PySem.W.findIn K (.ref (He.ga K y)) "__init__" = some (some (.ref (He.ma K (He.ga K y) "__init__"))) ∧ PySem.W.typeIn K (.ref (He.ma K (He.ga K y) "__init__")) = some (.type "function")
theorem clsB_at {p : Prog} {K : PySem.W.Frag} (h : clsB p K = true) {y : Str} (hy : (p.cls.lookup y).isSome = true) : ClsQ p K y := by
  unfold clsB at h
  rw [Bool.and_eq_true] at h
  obtain ⟨q, hq, rfl, efl⟩ := cls_in hy
  have h := List.all_eq_true.mp h.2 q hq
  simp only [Bool.and_eq_true, decide_eq_true_eq, List.all_eq_true, Bool.or_eq_true, List.isEmpty_iff] at h
  obtain ⟨⟨⟨⟨⟨⟨⟨⟨⟨⟨h1, h2⟩, h3⟩, h4⟩, h5⟩, h6⟩, h7⟩, h8⟩, h9⟩, h10⟩, h11⟩ := h
  refine ⟨h1, xfB_ok h2, by rw [efl]; exact h3, h4, h5, h6, by rw [efl]; exact h7, by rw [efl]; exact h8, h9, fun z hz => ?_, fun hn => ?_⟩
  · obtain ⟨r, hr, rfl, _⟩ := cls_in hz
    exact h10 r hr
  · rcases h11 with h | h
    · rw [efl] at hn; exact absurd h hn
    · exact ⟨oexB_ok h.1.1, h.1.2, h.2⟩
/-- the facts of a program with classes -/
theorem factsX_of {p : Prog} {src : Str → Stmt} {K : PySem.W.Frag} {mg : Str → Option Value} {w : World} {h : Heap} {isrc : Str → Stmt} (X : K.In h) (G : h.Ns mainGlobals mg) (f : Facts p src K mg (kb K w eaT)) (c : clsB p K = true)
    (hi : ∀ y, (p.cls.lookup y).isSome = true → fldsOf p y ≠ [] → InitOk y (fldsOf p y) (isrc y) ∧ ∃ fd, FunD K "__init__" (y ++ ".__init__") (defArgs (isrc y)) (defBody (isrc y)) (defScope (isrc y)) [] [] (He.ma K (He.ga K y) "__init__") fd) : FactsX p src K mg w := by
  have gm : ∀ y, (p.cls.lookup y).isSome = true → mg y = some (.ref (He.ga K y)) := fun y hy => PySem.W.mg_of X G (clsB_at c hy).g
  have inj : ∀ y C, (p.cls.lookup y).isSome = true → mg y = some (.ref C) → C = He.ga K y := fun y C hy e => by
    rw [gm y hy] at e
    have := Option.some.inj e
    injection this with e
    exact e.symm
  have c0 := c
  unfold clsB at c0
  simp only [Bool.and_eq_true, decide_eq_true_eq] at c0
  refine ⟨f, ⟨fun y C hy e => ?_, c0.1.1, c0.1.2, fun y C hy e => ?_⟩, fun y hy => ⟨_, gm y hy⟩, fun P base y hy hn => ?_⟩
  · have := inj y C hy e
    subst this
    have q := clsB_at c hy
    refine ⟨q.xf, q.nof, q.cl, q.ca, q.mro, q.nd, fun z D hz e2 => ?_⟩
    have := inj z D hz e2
    subst this
    exact q.kk z hz
  · have := inj y C hy e
    subst this
    exact (clsB_at c hy).ve
  · have q := clsB_at c hy
    obtain ⟨o1, o2, o3⟩ := q.mks hn
    obtain ⟨I, fd, F⟩ := hi y hy hn
    exact ⟨_, gm y hy, o1, q.nof, ⟨_, fd, o2, o3, fun k => (I.run P w K mg base _ k _ fd F).1, (I.run P w K mg base (L2.CX P w) 0 _ fd F).2⟩, q.len⟩
theorem top_okX {p : Prog} {fu k : Nat} {src : Str → Stmt} {P : Program} {w : World} {K : PySem.W.Frag} {mg : Str → Option Value} {fa : Addr} {d : Def} {n : Nat} (hw : ∀ q ∈ p.defs, WalkX p src q.1 q.2) (hF : FactsX p src K mg w)
    (hmg : mg ("law" : Str) = some (.ref fa)) (hd : p.defs.lookup ("law" : Str) = some d) (hargs : (defArgs (src "law")).args.map (·.arg) = [("script" : Str)]) (hm : d.muts = [false]) (hnp : d.np = 1)
    (pure_ : ∀ ns : List Int, ns.length ≤ n → ∃ os, callI p fu k "law" [.lst (ns.map .int)] = .ok (.bl true) os)
    (hb : ∀ (kV doc pm : Value) (an : Option Addr) (cdv ct : Value) (us : List Value), us.length = [("script" : Str)].length → bindArgs (PySem.W.fnOf ("law" : Str) ("law" : Str) (defArgs (src "law")) (defBody (src "law")) (defScope (src "law")) .none kV doc pm an cdv ct) ⟨us, []⟩ = pure ([("script" : Str)].zip us)) :
    ∃ (fd : FuncData) (sp : Sp), (∀ (s : Shared) (u : Value), BindsTo s fd ⟨[u], []⟩ [(("script" : Str), u)]) ∧ (∀ (H : Hp) (a : Addr) (ns : List Int), ns.length ≤ n → SqL K H a (ns.map V.int) → sp [.ref a] H (fun v _ => v = .bl true) fun _ _ _ => False) ∧
      ∀ base : Heap, FnOk P w K mg base (L2.CX P w) (k + 3) fa fd [("script" : Str)] sp := by
  obtain ⟨a, fd, ga, F⟩ := hF.f.fn (("law" : Str), d) (lookup_in hd)
  have ea : a = fa := by
    rw [hmg] at ga
    have := Option.some.inj ga
    injection this with h
    exact h.symm
  subst ea
  refine ⟨fd, spI (kb K w eaT) (erX K w mg p) d (callI p fu k "law"), fun s u => FunD.bindsA (ps := [("script" : Str)]) F hb s [u] rfl, fun H a' ns hl hS => ?_, fun base => ?_⟩
  · obtain ⟨G, hLs, tr⟩ := sq_lst hS
    obtain ⟨os, e⟩ := pure_ ns hl
    have rp : Rp false (kb K w eaT) H (.lst (ns.map .int)) (.ref a') G := by
      unfold Rp
      exact ⟨a', _, [], rfl, hLs, rp_ints ns⟩
    refine ⟨fun b => b ∈ G, [.lst (ns.map .int)], fun _ => [], by rw [hnp]; rfl, by rw [hnp]; rfl, by rw [hm, hnp]; rfl, ?_, ?_⟩
    · rw [hm]
      refine ⟨rfl, fun i v h => ?_, fun _ _ => rfl, fun i k v h => ?_, fun _ _ _ _ h => h, fun _ _ _ h => (by cases h), fun _ => List.nodup_nil, fun _ _ h => (by cases h), tr, fun i w h => ?_⟩
      · cases i with
        | zero => cases h
        | succ i => simp [getM, initE] at h
      · cases i with
        | zero =>
          simp [initE] at h
          obtain ⟨rfl, rfl⟩ := h
          exact ⟨.ref a', G, rfl, Rp.sub.mp rp, fun b hb => hb⟩
        | succ i => simp [initE] at h
      · have h : (if ([false] : List Bool)[i]? = some true then ([V.ref a'] : List V)[i]? else none) = some w := h
        cases i with
        | zero => cases h
        | succ i => simp at h
    · rw [e]
      intro w' F' H' fo _ _ _ vo
      exact rp_bl' vo.rp
  · obtain ⟨a2, fd2, ps, g2, F2, _, G, eps⟩ := all_okX (P := P) (fu := fu) (base := base) hw hF k "law" d hd
    have ea : a2 = a := by
      rw [hmg] at g2
      have := Option.some.inj g2
      injection this with h
      exact h.symm
    subst ea
    have := funD_inj F F2
    subst this
    rw [eps, hargs] at G
    exact G
end DI
set_option Elab.async false
set_option linter.all false
set_option maxRecDepth 100000
set_option maxHeartbeats 1000000
/-! DIS34: the parts of a suite without a name, as a printer uses them; classes' texts. -/
namespace DI
open PySem PySem.Spec PyProof.Rows L2
def clsBody : Stmt → List Stmt
  | .ClassDef _ _ _ body _ _ _ _ _ _ _ => body
  | _ => []
section
variable {Y Y' : Cz} {X X' : Cx} {CX : CXT} {k : Nat} {src : Str → Stmt} {a b c e o : Expr} {as bs : List Expr} {ea eb ec ee eo : E} {es : List E} {pos p p1 p2 ap cp : Pos}
theorem u_g (B : Bun Y X CX k src) {ad : Addr} {oe : Obj} {pn : List (Addr × Obj)} (O : Ok0 Y.no (X.suite ad ((ad, oe) :: pn))) {x : Str} {v : PV} (hg : Gl X x := by rfl) (hp : Y.p.globs.lookup x = some v := by rfl) (hv : v.imm = true := by rfl) (hd : (x == ("__debug__" : Str)) = false := by decide) : PE (X.suite ad ((ad, oe) :: pn)) (.Name x pos) (RdB Y.no (.glob x)) := by
  obtain ⟨w, u, hm, r, hr⟩ := B.gl x v hp
  exact pe_g (X := X.suite ad ((ad, oe) :: pn)) O hg hm r hp (fun H => Rp.imm2 (m' := true) (X := bX Y.X) (X' := Y.no.X) rfl (hr H) hv) hd
theorem s_set (O : Ok0 Y X) {i : Nat} {x : Str} (hN : X.N.Nodup) (he : PE X e (RdB Y ee)) (hi : X.N[i]? = some x := by rfl) (hx : Loc X.env.scope x := by first | exact .inl rfl | exact .inr rfl) (hf : X.fn x = true ∨ X.env.scope.names.lookup x = some .local := by first | exact .inl rfl | exact .inr rfl)
    (hs : swapsWith e (some (.Name x p1)) pos.line X.env = pure false := by rfl) : PS X (.Assign [.Name x p1] e pos) (RdS Y (.asg (.v i) ee)) := ps_setv O hN hi hx hf he hs
theorem s_append (O : Ok0 Y X) (ho : PE X o (RdP Y eo)) (ha : Alls Y X (a :: as) es) (hbase : attributeBase o "append" X.env (eval o X.env) = eval o X.env := by rfl)
    (hfew : ((backTo cp (starEach (a :: as) X.env)).all (fun x => !x.1) && (backToKw cp (keywordEach [] X.env)).all (fun x => x.1.isSome) && decide ((a :: as).length + ([] : List Keyword).length + (if ([] : List Keyword).isEmpty then 0 else 1) < 30)) = true := by rfl)
    (hline : (ap.endLine == cp.line) = true := by rfl) (hsw : swapsWith (.Call (.Attribute o "append" ap) (a :: as) [] cp) none pos.line X.env = pure false := by rfl) : PS X (.Expr (.Call (.Attribute o "append" ap) (a :: as) [] cp) pos) (RdS Y (.mu .append eo es)) := ps_append O ho ha hbase hfew hline hsw
end
end DI
set_option Elab.async false
set_option linter.all false
set_option maxRecDepth 100000
set_option maxHeartbeats 1000000
/-! DIS35: chains of two comparisons. -/
namespace DI
open PySem PySem.Spec PyProof.Rows L2
section
variable {Y : Cz} {X : Cx} {CX : CXT} {k : Nat} {src : Str → Stmt} {a b c : Expr} {ea eb ec : E} {pos : Pos}
theorem rp_carry (ok : Y.X.Ok) {v : PV} {w : V} {G : List Addr} {H H' : Hp} (r : Rp false Y.X H v w G) (hi : v.imm = true) (fx : Fix H H') : Rp false Y.X H' v w [] :=
  (r.imm (m' := false) hi).2.fix ok fx fun _ hb => by cases hb
theorem chn_le (O : Ok0 Y X) {op op' : CmpOp} : ∀ σ H Q, RdB Y (.chain op op' ea eb ec) σ H Q → tChain (cmpR X.K op) (cmpR X.K op') (RdB Y ea) (RdB Y eb) (RdB Y ec) σ H Q := by
  intro σ H Q ⟨env, fp, S, h⟩
  unfold evB at h
  refine ⟨env, fp, S, h.bind.imp fun va env1 h1 x H1 fp1 P1 => ?_⟩
  obtain ⟨ia, h1⟩ := h1.ite
  refine ⟨env1, fp1, P1.sim, (h1.bind' P1.stp).imp fun vb env2 h2 y H2 fp2 P2 => ?_⟩
  obtain ⟨ib, h2⟩ := h2.ite
  have t2 := P1.stp.trans P2.stp
  obtain ⟨Ga, va'⟩ := P1.vb
  obtain ⟨Gb, vb'⟩ := P2.vb
  have ra := rp_carry O.ok va'.rp ia (P2.stp.fix P1.sim)
  have rb := rp_carry O.ok vb'.rp ib ⟨fun _ _ h _ => h⟩
  have fq : ∀ (H3 : Hp) (s : Same H2 H3), ((E.chain op op' ea eb ec).quiet = true → Same H H2) ∧ ((E.chain op op' ea eb ec).quiet = true → ∀ i b, b ∈ fp2 i → b ∈ fp i) := fun H3 s =>
    ⟨fun q => same_trans (P1.same (and_l (and_l q))) (P2.same (and_r (and_l q))), fun q i b hb => P1.mono (and_l (and_l q)) i b (P2.mono (and_r (and_l q)) i b hb)⟩
  cases hv : cmpI op va.1 vb.1 with
  | none => simp only [hv] at h2; exact h2.elim
  | some v =>
    rw [← O.K]
    refine cmp_ok hv ra rb fun w F H3 nw => ?_
    have sm := nw.same
    cases v with
    | bl kk =>
      have ew : w = .bl kk := rp_bl' nw.rp
      subst ew
      refine ⟨kk, rfl, ?_⟩
      have S3 := P2.sim.same O.ok sm
      have t3 := t2.trans (Stp.same sm)
      cases kk with
      | false =>
        rw [if_neg (by decide)]
        simp only [hv] at h2
        have h2 : ∀ w H' fp', Post Y.X σ fp H (.chain op op' ea eb ec) (.bl false, true) env2 w H' fp' → Q w H' := h2
        exact h2 _ H3 fp2 ((New.flat rp_bl).post O.ok S3 t3 (fun q => same_trans ((fq H3 sm).1 q) sm) (fun q => (fq H3 sm).2 q) (fun _ z => nomatch z))
      | true =>
        rw [if_pos rfl]
        simp only [hv] at h2
        refine ⟨env2, fp2, S3, ((h2.bind' t3)).imp fun vc env3 h3 z H4 fp4 P4 => ?_⟩
        obtain ⟨r, er, hΦ⟩ := h3.opt
        obtain ⟨v, ev, rfl⟩ := map_true er
        obtain ⟨Gc, vc'⟩ := P4.vb
        have rb' := rp_carry O.ok rb ib (Fix.same sm)
        have rb4 := rp_carry O.ok rb' ib (P4.stp.fix S3)
        refine cmp_ok ev rb4 vc'.rp (gives_of (e := .chain op op' ea eb ec) O.ok P4.sim (t3.trans P4.stp) (fun q => same_trans (same_trans ((fq H3 sm).1 q) sm) (P4.same (and_r q))) (fun q i b hb => (fq H3 sm).2 q i b (P4.mono (and_r q) i b hb)) (fun _ z => nomatch z) hΦ)
    | _ => simp only [hv] at h2; exact h2.elim
theorem pe_chn (O : Ok0 Y X) {op op' : CmpOp} (ha : PE X a (RdB Y ea)) (hb : PE X b (RdB Y eb)) (hc : PE X c (RdB Y ec)) (hm : lastMarks [op, op'] [b, c] = false) : PE X (.Compare a [op, op'] [b, c] pos) (RdB Y (.chain op op' ea eb ec)) :=
  PE.mono (pe_chain (op_cmp O.hu op) (op_cmp O.hu op') ha hb hc hm) (chn_le O)
theorem g_chain (B : Bun Y X CX k src) {op op' : CmpOp} (ha : PE X a (RdB Y ea)) (hb : PE X b (RdB Y eb)) (hc : PE X c (RdB Y ec)) (hm : lastMarks [op, op'] [b, c] = false := by with_unfolding_all rfl) : PE X (.Compare a [op, op'] [b, c] pos) (RdB Y (.chain op op' ea eb ec)) := pe_chn B.O ha hb hc hm
end
end DI
set_option Elab.async false
set_option linter.all false
set_option maxRecDepth 100000
set_option maxHeartbeats 1000000
/-! DIS36: chains of three comparisons. -/
namespace DI
open PySem PySem.Spec PySem.W PyProof.Rows L2
section
variable {Y : Cz} {X : Cx} {CX : CXT} {k : Nat} {src : Str → Stmt} {a b c d : Expr} {ea eb ec ed : E} {pos : Pos} {ta tb tc td : TE}
def tChain3 (r r' r'' : R2) (ta tb tc td : TE) : TE := fun σ H Q => ta σ H fun x H1 => tb σ H1 fun y H2 => r x y H2 fun z H3 => ∃ k, z = .bl k ∧
  (if k = true then tc σ H3 fun w H4 => r' y w H4 fun z' H5 => ∃ k', z' = .bl k' ∧ (if k' = true then td σ H5 fun u H6 => r'' w u H6 Q else Q (.bl false) H5) else Q (.bl false) H3)
theorem pe_chain3 {o1 o2 o3 : CmpOp} {r r' r'' : R2} (h1 : OpR X (compareOp o1) r) (h2 : OpR X (compareOp o2) r') (h3 : OpR X (compareOp o3) r'') (ha : PE X a ta) (hb : PE X b tb) (hc : PE X c tc) (hd : PE X d td)
    (hm : lastMarks [o1, o2, o3] [b, c, d] = false) : PE X (.Compare a [o1, o2, o3] [b, c, d] pos) (tChain3 r r' r'' ta tb tc td) := by
  refine ⟨fun pins s σ H Q I h => ?_⟩
  refine Compare_chain (thn (ha.run pins s σ H _ I h) fun v s1 ⟨x, H1, I1, r1, q1⟩ => chain_link (thn (hb.run pins s1 σ H1 _ I1 q1) fun u s2 ⟨y, H2, I2, r2, q2⟩ =>
    thn (h1 pins s2 σ H2 x y v u _ I2 r1 r2 q2) fun dd s3 ⟨z, H3, I3, r3, k, e, q3⟩ => ?_)) hm
  subst e
  cases r3
  refine wpAny_truthy_bool ?_
  cases k with
  | false => exact ite_ff ⟨.bl false, H3, I3, rfl, q3⟩
  | true =>
    refine ite_tt (chain_link (thn (hc.run pins s3 σ H3 _ I3 q3) fun w' s4 ⟨z', H4, I4, r4, q4⟩ => thn (h2 pins s4 σ H4 y z' u w' _ I4 r2 r4 q4) fun d' s5 ⟨z2, H5, I5, r5, k2, e2, q5⟩ => ?_))
    subst e2
    cases r5
    refine wpAny_truthy_bool ?_
    cases k2 with
    | false => exact ite_ff ⟨.bl false, H5, I5, rfl, q5⟩
    | true => exact ite_tt (chain_last (thn (hd.run pins s5 σ H5 _ I5 q5) fun w'' s6 ⟨z3, H6, I6, r6, q6⟩ => h3 pins s6 σ H6 z' z3 w' w'' Q I6 r4 r6 q6))
theorem pt_chain3 {o1 o2 o3 : CmpOp} {r r' r'' : R2} (h1 : OpR X (compareOp o1) r) (h2 : OpR X (compareOp o2) r') (h3 : OpR X (compareOp o3) r'') (ha : PE X a ta) (hb : PE X b tb) (hc : PE X c tc) (hd : PE X d td)
    (hm : lastMarks [o1, o2, o3] [b, c, d] = false) : PT X (.Compare a [o1, o2, o3] [b, c, d] pos) (tTest (tChain3 r r' r'' ta tb tc td)) := by
  refine ⟨fun pins s σ H Q I h => ?_⟩
  refine isTrue_chain (thn (ha.run pins s σ H _ I h) fun v s1 ⟨x, H1, I1, r1, q1⟩ => test_link (thn (hb.run pins s1 σ H1 _ I1 q1) fun u s2 ⟨y, H2, I2, r2, q2⟩ =>
    thn (h1 pins s2 σ H2 x y v u _ I2 r1 r2 q2) fun dd s3 ⟨z, H3, I3, r3, k, e, q3⟩ => ?_)) hm
  subst e
  cases r3
  refine wpAny_truthy_bool ?_
  cases k with
  | false =>
    obtain ⟨k', e', q'⟩ := q3
    cases e'
    exact ite_ff ⟨H3, I3, q'⟩
  | true =>
    refine ite_tt (test_link (thn (hc.run pins s3 σ H3 _ I3 q3) fun w' s4 ⟨z', H4, I4, r4, q4⟩ => thn (h2 pins s4 σ H4 y z' u w' _ I4 r2 r4 q4) fun d' s5 ⟨z2, H5, I5, r5, k2, e2, q5⟩ => ?_))
    subst e2
    cases r5
    refine wpAny_truthy_bool ?_
    cases k2 with
    | false =>
      obtain ⟨k', e', q'⟩ := q5
      cases e'
      exact ite_ff ⟨H5, I5, q'⟩
    | true =>
      refine ite_tt (test_last (thn (hd.run pins s5 σ H5 _ I5 q5) fun w'' s6 ⟨z3, H6, I6, r6, q6⟩ => thn (h3 pins s6 σ H6 z' z3 w' w'' _ I6 r4 r6 q6) fun d'' s7 ⟨z4, H7, I7, r7, k3, e3, q7⟩ => ?_))
      subst e3
      cases r7
      exact wpAny_truthy_bool ⟨H7, I7, q7⟩
theorem chn3_le (O : Ok0 Y X) {o1 o2 o3 : CmpOp} : ∀ σ H Q, RdB Y (.chn3 o1 o2 o3 ea eb ec ed) σ H Q → tChain3 (cmpR X.K o1) (cmpR X.K o2) (cmpR X.K o3) (RdB Y ea) (RdB Y eb) (RdB Y ec) (RdB Y ed) σ H Q := by
  intro σ H Q ⟨env, fp, S, h⟩
  unfold evB at h
  refine ⟨env, fp, S, h.bind.imp fun va env1 h1 x H1 fp1 P1 => ?_⟩
  obtain ⟨ia, h1⟩ := h1.ite
  refine ⟨env1, fp1, P1.sim, (h1.bind' P1.stp).imp fun vb env2 h2 y H2 fp2 P2 => ?_⟩
  obtain ⟨ib, h2⟩ := h2.ite
  have t2 := P1.stp.trans P2.stp
  obtain ⟨Ga, va'⟩ := P1.vb
  obtain ⟨Gb, vb'⟩ := P2.vb
  have ra := rp_carry O.ok va'.rp ia (P2.stp.fix P1.sim)
  have rb := rp_carry O.ok vb'.rp ib ⟨fun _ _ h _ => h⟩
  have fq : ∀ (H3 : Hp) (s : Same H2 H3), ((E.chn3 o1 o2 o3 ea eb ec ed).quiet = true → Same H H2) ∧ ((E.chn3 o1 o2 o3 ea eb ec ed).quiet = true → ∀ i b, b ∈ fp2 i → b ∈ fp i) := fun H3 s =>
    ⟨fun q => same_trans (P1.same (and_l (and_l (and_l q)))) (P2.same (and_r (and_l (and_l q)))), fun q i b hb => P1.mono (and_l (and_l (and_l q))) i b (P2.mono (and_r (and_l (and_l q))) i b hb)⟩
  cases hv : cmpI o1 va.1 vb.1 with
  | none => simp only [hv] at h2; exact h2.elim
  | some v =>
    rw [← O.K]
    refine cmp_ok hv ra rb fun w F H3 nw => ?_
    have sm := nw.same
    cases v with
    | bl kk =>
      have ew : w = .bl kk := rp_bl' nw.rp
      subst ew
      refine ⟨kk, rfl, ?_⟩
      have S3 := P2.sim.same O.ok sm
      have t3 := t2.trans (Stp.same sm)
      cases kk with
      | false =>
        rw [if_neg (by decide)]
        simp only [hv] at h2
        have h2 : ∀ w H' fp', Post Y.X σ fp H (.chn3 o1 o2 o3 ea eb ec ed) (.bl false, true) env2 w H' fp' → Q w H' := h2
        exact h2 _ H3 fp2 ((New.flat rp_bl).post O.ok S3 t3 (fun q => same_trans ((fq H3 sm).1 q) sm) (fun q => (fq H3 sm).2 q) (fun _ z => nomatch z))
      | true =>
        rw [if_pos rfl]
        simp only [hv] at h2
        refine ⟨env2, fp2, S3, ((h2.bind' t3)).imp fun vc env3 h3 z H4 fp4 P4 => ?_⟩
        obtain ⟨ic, h3⟩ := h3.ite
        have t4 := t3.trans P4.stp
        obtain ⟨Gc, vc'⟩ := P4.vb
        have rb' := rp_carry O.ok rb ib (Fix.same sm)
        have rb4 := rp_carry O.ok rb' ib (P4.stp.fix S3)
        have rc := rp_carry O.ok vc'.rp ic ⟨fun _ _ h _ => h⟩
        have sm4 : (E.chn3 o1 o2 o3 ea eb ec ed).quiet = true → Same H H4 := fun q => same_trans (same_trans ((fq H3 sm).1 q) sm) (P4.same (and_r (and_l q)))
        have mo4 : (E.chn3 o1 o2 o3 ea eb ec ed).quiet = true → ∀ i b, b ∈ fp4 i → b ∈ fp i := fun q i b hb => (fq H3 sm).2 q i b (P4.mono (and_r (and_l q)) i b hb)
        cases hv2 : cmpI o2 vb.1 vc.1 with
        | none => simp only [hv2] at h3; exact h3.elim
        | some v2 =>
          refine cmp_ok hv2 rb4 rc fun w2 F2 H5 nw2 => ?_
          have sm2 := nw2.same
          cases v2 with
          | bl k2 =>
            have ew : w2 = .bl k2 := rp_bl' nw2.rp
            subst ew
            refine ⟨k2, rfl, ?_⟩
            have S5 := P4.sim.same O.ok sm2
            have t5 := t4.trans (Stp.same sm2)
            cases k2 with
            | false =>
              rw [if_neg (by decide)]
              simp only [hv2] at h3
              have h3 : ∀ w H' fp', Post Y.X σ fp H (.chn3 o1 o2 o3 ea eb ec ed) (.bl false, true) env3 w H' fp' → Q w H' := h3
              exact h3 _ H5 fp4 ((New.flat rp_bl).post O.ok S5 t5 (fun q => same_trans (sm4 q) sm2) mo4 (fun _ z => nomatch z))
            | true =>
              rw [if_pos rfl]
              simp only [hv2] at h3
              refine ⟨env3, fp4, S5, ((h3.bind' t5)).imp fun vd env4 h4 z2 H6 fp6 P6 => ?_⟩
              obtain ⟨r, er, hΦ⟩ := h4.opt
              obtain ⟨v, ev, rfl⟩ := map_true er
              obtain ⟨Gd, vd'⟩ := P6.vb
              have rc' := rp_carry O.ok rc ic (Fix.same sm2)
              have rc6 := rp_carry O.ok rc' ic (P6.stp.fix S5)
              refine cmp_ok ev rc6 vd'.rp (gives_of (e := .chn3 o1 o2 o3 ea eb ec ed) O.ok P6.sim (t5.trans P6.stp) (fun q => same_trans (same_trans (sm4 q) sm2) (P6.same (and_r q))) (fun q i b hb => mo4 q i b (P6.mono (and_r q) i b hb)) (fun _ z => nomatch z) hΦ)
          | _ => simp only [hv2] at h3; exact h3.elim
    | _ => simp only [hv] at h2; exact h2.elim
theorem pe_chn3 (O : Ok0 Y X) {o1 o2 o3 : CmpOp} (ha : PE X a (RdB Y ea)) (hb : PE X b (RdB Y eb)) (hc : PE X c (RdB Y ec)) (hd : PE X d (RdB Y ed)) (hm : lastMarks [o1, o2, o3] [b, c, d] = false) : PE X (.Compare a [o1, o2, o3] [b, c, d] pos) (RdB Y (.chn3 o1 o2 o3 ea eb ec ed)) :=
  PE.mono (pe_chain3 (op_cmp O.hu o1) (op_cmp O.hu o2) (op_cmp O.hu o3) ha hb hc hd hm) (chn3_le O)
theorem ite_bad {α : Type} {c : Prop} [Decidable c] {r : R α} {a : α} {env : PEnv} (h : (if c then r else .bad) = .ok a env) : r = .ok a env := by
  split at h
  · exact h
  · cases h
theorem chn_bl {p : Prog} {cf : Str → List PV → CR} {op op' : CmpOp} : ∀ env r env', evB p cf (.chain op op' ea eb ec) env = .ok r env' → ∃ b, r.1 = .bl b := by
  intro env r env' h
  unfold evB at h
  obtain ⟨x, e1, h1, h2⟩ := R.bind_eq h
  obtain ⟨y, e2, h3, h4⟩ := R.bind_eq (ite_bad h2)
  have h4 := ite_bad h4
  split at h4
  · obtain ⟨z, e3, h5, h6⟩ := R.bind_eq h4
    obtain ⟨v, ev, rfl⟩ := map_true (opt_eq h6)
    exact cmpI_bl ev
  · cases h4; exact ⟨_, rfl⟩
  · cases h4
theorem chn3_bl {p : Prog} {cf : Str → List PV → CR} {o1 o2 o3 : CmpOp} : ∀ env r env', evB p cf (.chn3 o1 o2 o3 ea eb ec ed) env = .ok r env' → ∃ b, r.1 = .bl b := by
  intro env r env' h
  unfold evB at h
  obtain ⟨x, e1, h1, h2⟩ := R.bind_eq h
  obtain ⟨y, e2, h3, h4⟩ := R.bind_eq (ite_bad h2)
  have h4 := ite_bad h4
  split at h4
  · obtain ⟨z, e3, h5, h6⟩ := R.bind_eq h4
    have h6 := ite_bad h6
    split at h6
    · obtain ⟨z2, e4, h7, h8⟩ := R.bind_eq h6
      obtain ⟨v, ev, rfl⟩ := map_true (opt_eq h8)
      exact cmpI_bl ev
    · cases h6; exact ⟨_, rfl⟩
    · cases h6
  · cases h4; exact ⟨_, rfl⟩
  · cases h4
theorem t_chain (B : Bun Y X CX k src) {op op' : CmpOp} (ha : PE X a (RdB Y ea)) (hb : PE X b (RdB Y eb)) (hc : PE X c (RdB Y ec)) (hm : lastMarks [op, op'] [b, c] = false := by with_unfolding_all rfl) : PT X (.Compare a [op, op'] [b, c] pos) (RdT Y (.chain op op' ea eb ec)) :=
  PT.mono (pt_chain (op_cmp B.O.hu op) (op_cmp B.O.hu op') ha hb hc hm) fun σ H Q q => chn_le B.O _ _ _ (q.rdBl chn_bl)
theorem t_chain3 (B : Bun Y X CX k src) {o1 o2 o3 : CmpOp} (ha : PE X a (RdB Y ea)) (hb : PE X b (RdB Y eb)) (hc : PE X c (RdB Y ec)) (hd : PE X d (RdB Y ed)) (hm : lastMarks [o1, o2, o3] [b, c, d] = false := by with_unfolding_all rfl) : PT X (.Compare a [o1, o2, o3] [b, c, d] pos) (RdT Y (.chn3 o1 o2 o3 ea eb ec ed)) :=
  PT.mono (pt_chain3 (op_cmp B.O.hu o1) (op_cmp B.O.hu o2) (op_cmp B.O.hu o3) ha hb hc hd hm) fun σ H Q q => chn3_le B.O _ _ _ (q.rdBl chn3_bl)
theorem g_chain3 (B : Bun Y X CX k src) {o1 o2 o3 : CmpOp} (ha : PE X a (RdB Y ea)) (hb : PE X b (RdB Y eb)) (hc : PE X c (RdB Y ec)) (hd : PE X d (RdB Y ed)) (hm : lastMarks [o1, o2, o3] [b, c, d] = false := by with_unfolding_all rfl) : PE X (.Compare a [o1, o2, o3] [b, c, d] pos) (RdB Y (.chn3 o1 o2 o3 ea eb ec ed)) := pe_chn3 B.O ha hb hc hd hm
end
end DI
set_option Elab.async false
set_option linter.all false
set_option maxRecDepth 100000
set_option maxHeartbeats 1000000
/-! DIS37: the top of a program with classes: exceptions of any world. -/
namespace DI
open PySem PySem.Spec PyProof.Rows L2
def CXe (P : Program) : CXT := fun outer H s E u s' => ∃ w, L2.CX P w outer H s E u s'
theorem fnOk_e {P : Program} {w : World} {K : PySem.W.Frag} {mg : Str → Option Value} {base : Heap} {k : Nat} {f : Addr} {fd : FuncData} {ps : List Str} {sp : Sp} (F : FnOk P w K mg base (L2.CX P w) k f fd ps sp) : FnOk P w K mg base (CXe P) k f fd ps sp :=
  ⟨F.len, fun A outer s H args us vs Q E hr he hb hv hs => codeAny_mono (F.run A outer s H args us vs Q E hr he hb hv hs) fun r s' h => by
    cases r with
    | error e => exact ⟨w, h⟩
    | ok q => cases q <;> exact h⟩
theorem cxe_none {P : Program} : ∀ (H : Hp) (s : Shared) (e : Value) (s' : Shared), CXe P [] H s (fun _ _ _ => False) e s' → False :=
  fun _ _ _ _ ⟨_, _, _, _, _, _, _, _, _, _, _, _, _, z⟩ => z
/-- from written defs' facts to a class's own __init__ -/
theorem all_cls {α : Type} {p : α → Prop} {l : List α} (h : ∀ q ∈ l, p q) {q : α} (hq : q ∈ l) : p q := h q hq
end DI
set_option Elab.async false
set_option linter.all false
set_option maxRecDepth 100000
set_option maxHeartbeats 1000000
/-! DIS38: a name, an operator, what changes other things: the name's value is looked at behind it. -/
namespace DI
open PySem PySem.Spec PyProof.Rows L2
section
variable {Y : Cz} {X : Cx} {CX : CXT} {k : Nat} {src : Str → Stmt} {b : Expr} {eb : E} {pos p' : Pos}
theorem g_binv (B : Bun Y X CX k src) {op : Operator} {i : Nat} {x : Str} (hb : PE X b (RdB Y eb)) (hN : X.N[i]? = some x := by rfl) (hv : Vis X.env.scope x := by first | exact .inl rfl | exact .inr (.inl rfl) | exact .inr (.inr rfl)) (hd : (x == ("__debug__" : Str)) = false := by decide) (hcd : (x == ("__classdict__" : Str)) = false := by decide) :
    PE X (.BinOp (.Name x p') op b pos) (RdB Y (.binv op i eb)) := by
  have O := B.O
  refine PE.mono (pe_op (op_bin op) (pe_var hN hv hd hcd) hb) fun σ H Q ⟨env, fp, S, h⟩ => ?_
  unfold evB at h
  cases hg : getS env i with
  | none => simp only [hg] at h; exact h.elim
  | some va =>
    simp only [hg] at h
    obtain ⟨w, G0, hw, _⟩ := S.val hg
    refine ⟨w, hw, env, fp, S, h.bind.imp fun rb env2 h2 y H2 fp2 P2 => ?_⟩
    cases hg2 : getS env2 i with
    | none => simp only [hg2] at h2; exact h2.elim
    | some v =>
      simp only [hg2] at h2
      obtain ⟨w2, G, hw2, va'⟩ := P2.sim.val hg2
      have ew : w2 = w := by
        rw [hw] at hw2
        exact (Option.some.inj (Option.some.inj hw2)).symm
      subst ew
      obtain ⟨r, er, hΦ⟩ := h2.opt
      obtain ⟨v', ev, rfl⟩ := map_true er
      obtain ⟨G', vb⟩ := P2.vb
      rw [← O.K]
      exact bin_ok O.ok ev va'.rp vb.rp (gives_of (e := .binv op i eb) O.ok P2.sim P2.stp (fun z => P2.same z) (fun z => P2.mono z) (fun _ z => nomatch z) hΦ)
end
end DI
set_option Elab.async false
set_option linter.all false
set_option maxRecDepth 100000
set_option maxHeartbeats 1000000
/-! DIS39: enumerate of lists and tuples; dict displays; list(range(..)). -/
namespace DI
open PySem PySem.Spec PyProof.Rows L2
/-! ### enumerate -/
theorem meets_enum1 {v : Value} {o : Obj} {H : Heap → Prop} (B : Begins v o H) :
    Meets (Builtin.«enumerate.__new__» ⟨[.type "enumerate", v], []⟩) (fun _ R s => H s.heap ∧
      R (.ok (.ret (.ref (s.heap.push o).objs.size))) { s with heap := (s.heap.push o).push { cls := .type "enumerate", data := .fields #[.none, .bool false, .ref s.heap.objs.size, rawInt 0, .none, .none] } }) :=
  .of_wp fun prog w A R s h => by
    obtain ⟨hp, g, d, tk, os⟩ := s; obtain ⟨h1, h⟩ := h
    have hsub := sub_enumerate
    have q1 : ∀ {A' : Around} {E : Value → Shared → Prop} {Q : Value → Shared → Prop}, Q (.ref hp.objs.size) ⟨hp.push o, g, d, tk, os⟩ → wpAny (model prog w) A' (pyIter v) Q E ⟨hp, g, d, tk, os⟩ :=
      fun q => B.iter prog w _ _ ⟨hp, g, d, tk, os⟩ _ h1 q
    wp_walk using q1
    refine wpAny_stack_any fun st => wpAny_pure ?_
    split
    · rename_i c _ _ _ _ _
      cases (c == Value.type "enumerate")
      · wp_walk using q1
        exact ⟨_, rfl, h⟩
      · wp_walk using q1
        exact ⟨_, rfl, h⟩
    · wp_walk using q1
      exact ⟨_, rfl, h⟩
theorem enum_begins1 {prog : Program} {w : World} {A : Around} {E : Value → Shared → Prop} {s : Shared} {v : Value} {o : Obj} {H : Heap → Prop} {Q : Value → Shared → Prop} (B : Begins v o H) (h1 : H s.heap)
    (h : ∀ h', IsEnum h' (s.heap.objs.size + 1) s.heap.objs.size 0 .none → h'.get? s.heap.objs.size = some o → h'.objs.size = s.heap.objs.size + 2 →
      (∀ b o, s.heap.get? b = some o → h'.get? b = some o) → Q (.ref (s.heap.objs.size + 1)) { s with heap := h' }) :
    wpAny (model prog w) A (call (.type "enumerate") [v]) Q E s := by
  refine callType_new F.called_enumerate (by decide) (F.typeCall_enumerate_1 _) (F.newCall_enumerate_1 _) (fun obj => F.args_object_init_2 obj _) F.entry_enumerate_new
    (meets_enum1 B) ⟨h1, ?_⟩
  have hz : (s.heap.push o).objs.size = s.heap.objs.size + 1 := Heap.size_push ..
  show _ ∧ _
  rw [hz]
  have he : IsEnum ((s.heap.push o).push { cls := .type "enumerate", data := .fields #[.none, .bool false, .ref s.heap.objs.size, rawInt 0, .none, .none] }) (s.heap.objs.size + 1) s.heap.objs.size 0 .none := by
    have := Heap.get?_push_size (s.heap.push o) (o := { cls := .type "enumerate", data := .fields #[.none, .bool false, .ref s.heap.objs.size, rawInt 0, .none, .none] }) rfl
    rw [hz] at this; exact this
  refine ⟨⟨_, he, rfl⟩, h _ he (Heap.get?_push_of_some _ (Heap.get?_push_size _ B.free)) (by rw [Heap.size_push, hz]) fun b o x => Heap.get?_push_of_some _ (Heap.get?_push_of_some _ x)⟩
/-- the end alone of a tuple's walk -/
theorem drawsEnd {prog : Program} {w : World} {A : Around} (hh : A.handled = none) (it t : Addr) (items : Array Value) (i : Nat) (hx : items[i]? = none) (hne : t ≠ it) :
    Draws prog w A it [it, t] i (fun _ _ => True) (fun j h => j = i ∧ h.IsTupleIter it t j ∧ h.IsTuple t items) where
  live := fun _ _ st => let ⟨o, ho, _⟩ := st.2.1; ⟨o, ho⟩
  frame := fun _ _ _ st hk => ⟨st.1, st.2.1.at fun o e => hk it (by simp) o e, st.2.2.at fun o e => hk t (by simp) o e⟩
  item := fun j s Q E hi st hQ => by
    obtain ⟨rfl, _⟩ := st
    exact absurd hi (Nat.lt_irrefl _)
  done := fun s Q E st hE => wpAny_nextOf_tuple_end hh st.2.1 st.2.2 hx hE
/-- the tuple at a, each item in a new pair -/
def IteT (K : PySem.W.Frag) (a : Addr) : L2.It :=
  ⟨fun i H => ∃ (xs : List V) (x : V), SqT K H a xs ∧ xs[i]? = some x, fun i H v H' => ∃ T x, v = .ref T ∧ H T = none ∧ H' = upd H T (.tup [.int (i : Nat), x]) ∧ ∀ xs, SqT K H a xs → xs[i]? = some x, fun i H => ∃ xs : List V, SqT K H a xs ∧ xs.length ≤ i⟩
theorem turn_enumT {P : Program} {w : World} {K : PySem.W.Frag} {elts : List Expr} {kk : Nat} {tpos : Pos} (a e it : Addr) :
    Turn P w K (.Tuple elts kk tpos) (IteT K a) [e, it] e (fun i h => (∃ old, IsEnum h e it ((i : Nat) : Int) old) ∧ h.IsTupleIter it a i ∧ e ≠ it ∧ a ≠ it ∧ a ≠ e) where
  mem := by simp
  obj := fun i h st b hb => by
    obtain ⟨⟨old, he⟩, ⟨o, ho, hc, hd⟩, _⟩ := st
    have e' : b = e ∨ b = it := by simpa using hb
    rcases e' with z | z
    · rw [z]; exact ⟨_, he, fun v q => nomatch q⟩
    · rw [z]; exact ⟨o, ho, fun v q => by rw [hd] at q; cases q⟩
  keep := fun i h h' st k => let ⟨⟨old, he⟩, hi, hne⟩ := st; ⟨⟨old, k e (by simp) _ he⟩, hi.at fun o q => k it (by simp) o q, hne⟩
  item := by
    intro X hP hw hK hc i pins s σ H E I hf st hg
    subst hP hw hK
    obtain ⟨⟨old, he⟩, hit, hne, hai, hae⟩ := st
    obtain ⟨xs, x, hq, hx⟩ := hg
    obtain ⟨its, rv, p, hz⟩ := I.tuple hq
    obtain ⟨u, hu, ru⟩ := rv.get hx
    have hel : e < s.heap.objs.size := Heap.lt_size he
    have hil : it < s.heap.objs.size := by obtain ⟨_, q, _⟩ := hit; exact Heap.lt_size q
    have hsz : i < its.toArray.size := by
      have := List.getElem?_eq_some_iff.mp hu
      simpa using this.1
    refine wpAny_pyNext_enum_itemC (Draws.tuple (prog := X.prog) (w := X.w) (A := X.A.in1) (I.ok.hd hc) it a hai its.toArray) he ⟨hit, p⟩ hsz hne (by simp [hne, Ne.symm hae]) fun y h' tk hP ho hst' hT hsz hk => ?_
    have ey : y = u := by
      have : its.toArray[i]? = some u := by simpa using hu
      rw [this] at hP
      exact (Option.some.inj hP).symm
    subst ey
    refine ⟨_, rfl, wpAny_letOwnedTupleGo_enum (s := { s with heap := h', toks := tk + 1 }) ho fun h'' he' sb => ?_⟩
    have hT2 : h''.get? s.heap.objs.size = some { cls := .type "tuple", data := .seq #[.int i tk, y] } := (sb.2 _ (Nat.ne_of_gt hel)).trans hT
    have new : ObjOk X.prog X.w (upd H s.heap.objs.size (.tup [.int (i : Nat), x])) h'' s.heap.objs.size (.tup [.int (i : Nat), x]) :=
      ⟨by show 2 ≤ sizeLine; decide, [.int i tk, y], .cons ⟨_, rfl⟩ (.cons ru .nil), ⟨_, hT2, rfl, _, rfl⟩⟩
    have I1 : Inv X pins σ (upd H s.heap.objs.size (.tup [.int (i : Nat), x])) { s with heap := h'', toks := tk + 1 } :=
      I.turnedNew (ch := [e, it]) (fun b ob hb q => (sb.2 b (fun z => hb (by simp [z]))).trans (hk b ob (fun z => hb (by simp [z])) (fun z => hb (by simp [z])) q)) hf (Nat.le_refl _) new
    refine ⟨.ref s.heap.objs.size, _, I1, rfl, ⟨_, x, rfl, I.hok.fresh (Nat.le_refl _), rfl, fun ys hy => by rw [I.tuple_inj hy hq]; exact hx⟩, ⟨⟨y, ?_⟩, hst'.1.at fun o q => (sb.2 it (Ne.symm hne)).trans q, hne, hai, hae⟩, fun b hb => ?_⟩
    · have e1 : ((i + 1 : Nat) : Int) = (i : Int) + 1 := by omega
      rw [e1]; exact he'
    · have hb' : b < s.heap.objs.size := by
        have e' : b = e ∨ b = it := by simpa using hb
        rcases e' with z | z
        · rw [z]; exact hel
        · rw [z]; exact hil
      rw [upd_ne (Nat.ne_of_lt hb')]
      exact (hf b hb).1
  done := by
    intro X hP hw hK hc i pins s σ H E I hf st hg
    subst hP hw hK
    obtain ⟨⟨old, he⟩, hit, hne, hai, hae⟩ := st
    obtain ⟨xs, hq, hx⟩ := hg
    obtain ⟨its, rv, p, hz⟩ := I.tuple hq
    obtain ⟨f0, f1, f2, f3, f4, f5⟩ := hf it (by simp)
    have hl := rv.length
    have hn : its.toArray[i]? = none := by simp; omega
    exact wpAny_pyNext_enum_endD (drawsEnd (prog := X.prog) (w := X.w) (A := X.A.in1) (I.ok.hd hc) it a its.toArray i hn hai) he ⟨rfl, hit, p⟩ fun h' eb => ⟨rfl, I.turned (t' := s.toks) (fun b o hb q => eb b o hb q) f0 f1 f3 f4 f5⟩
  self := fun A i s Q E st h => let ⟨⟨_, he⟩, _⟩ := st; wpAny_pyIter_enum he h
/-- a text, each sign in a new pair -/
def IteS (z : Str) : L2.It :=
  ⟨fun i H => i < z.cps.size, fun i H v H' => ∃ T c, v = .ref T ∧ H T = none ∧ H' = upd H T (.tup [.int (i : Nat), .str ⟨#[c]⟩]) ∧ z.cps[i]? = some c, fun i H => z.cps.size ≤ i⟩
theorem drawsEndS {prog : Program} {w : World} {A : Around} (hh : A.handled = none) (it : Addr) (z : Str) (t : Tok) (i : Nat) (hx : z.cps[i]? = none) :
    Draws prog w A it [it] i (fun _ _ => True) (fun j h => j = i ∧ h.IsStrIter it (strIterType z) z t j) where
  live := fun _ _ st => let ⟨o, ho, _⟩ := st.2; ⟨o, ho⟩
  frame := fun _ _ _ st hk => ⟨st.1, let ⟨o, a, b⟩ := st.2; ⟨o, hk it (by simp) o a, b⟩⟩
  item := fun j s Q E hi st hQ => by
    obtain ⟨rfl, _⟩ := st
    exact absurd hi (Nat.lt_irrefl _)
  done := fun s Q E st hE => by
    obtain ⟨_, st⟩ := st
    cases ha : z.cps.all (· < 128)
    · simp only [strIterType, ha, Bool.false_eq_true, if_false] at st
      exact wpAny_nextOf_wide_end hh st hx hE
    · simp only [strIterType, ha, if_true] at st
      exact wpAny_nextOf_ascii_end hh st hx hE
theorem turn_enumS {P : Program} {w : World} {K : PySem.W.Frag} {elts : List Expr} {kk : Nat} {tpos : Pos} (z : Str) (t : Tok) (e it : Addr) :
    Turn P w K (.Tuple elts kk tpos) (IteS z) [e, it] e (fun i h => (∃ old, IsEnum h e it ((i : Nat) : Int) old) ∧ h.IsStrIter it (strIterType z) z t i ∧ e ≠ it) where
  mem := by simp
  obj := fun i h st b hb => by
    obtain ⟨⟨old, he⟩, ⟨o, ho, hc, hd⟩, _⟩ := st
    have e' : b = e ∨ b = it := by simpa using hb
    rcases e' with q | q
    · rw [q]; exact ⟨_, he, fun v q => nomatch q⟩
    · rw [q]; exact ⟨o, ho, fun v q => by rw [hd] at q; cases q⟩
  keep := fun i h h' st k => let ⟨⟨old, he⟩, hi, hne⟩ := st; ⟨⟨old, k e (by simp) _ he⟩, (let ⟨o, a, b⟩ := hi; ⟨o, k it (by simp) o a, b⟩), hne⟩
  item := by
    intro X hP hw hK hc i pins s σ H E I hf st hg
    subst hP hw hK
    obtain ⟨⟨old, he⟩, hit, hne⟩ := st
    have hel : e < s.heap.objs.size := Heap.lt_size he
    have hil : it < s.heap.objs.size := by obtain ⟨_, q, _⟩ := hit; exact Heap.lt_size q
    refine wpAny_pyNext_enum_itemC (Draws.text (prog := X.prog) (w := X.w) (A := X.A.in1) (I.ok.hd hc) it z t) he hit hg hne (by simp [hne]) fun y h' tk hP ho hst' hT hsz hk => ?_
    obtain ⟨c, u, hcz, rfl⟩ := hP
    refine ⟨_, rfl, wpAny_letOwnedTupleGo_enum (s := { s with heap := h', toks := tk + 1 }) ho fun h'' he' sb => ?_⟩
    have hT2 : h''.get? s.heap.objs.size = some { cls := .type "tuple", data := .seq #[.int i tk, .str ⟨#[c]⟩ u] } := (sb.2 _ (Nat.ne_of_gt hel)).trans hT
    have new : ObjOk X.prog X.w (upd H s.heap.objs.size (.tup [.int (i : Nat), .str ⟨#[c]⟩])) h'' s.heap.objs.size (.tup [.int (i : Nat), .str ⟨#[c]⟩]) :=
      ⟨by show 2 ≤ sizeLine; decide, [.int i tk, .str ⟨#[c]⟩ u], .cons ⟨_, rfl⟩ (.cons ⟨_, rfl⟩ .nil), ⟨_, hT2, rfl, _, rfl⟩⟩
    have I1 : Inv X pins σ (upd H s.heap.objs.size (.tup [.int (i : Nat), .str ⟨#[c]⟩])) { s with heap := h'', toks := tk + 1 } :=
      I.turnedNew (ch := [e, it]) (fun b ob hb q => (sb.2 b (fun z => hb (by simp [z]))).trans (hk b ob (fun z => hb (by simp [z])) (fun z => hb (by simp [z])) q)) hf (Nat.le_refl _) new
    refine ⟨.ref s.heap.objs.size, _, I1, rfl, ⟨_, c, rfl, I.hok.fresh (Nat.le_refl _), rfl, hcz⟩, ⟨⟨.str ⟨#[c]⟩ u, ?_⟩, (let ⟨o, a, b⟩ := hst'; ⟨o, (sb.2 it (Ne.symm hne)).trans a, b⟩), hne⟩, fun b hb => ?_⟩
    · have e1 : ((i + 1 : Nat) : Int) = (i : Int) + 1 := by omega
      rw [e1]; exact he'
    · have hb' : b < s.heap.objs.size := by
        have e' : b = e ∨ b = it := by simpa using hb
        rcases e' with q | q
        · rw [q]; exact hel
        · rw [q]; exact hil
      rw [upd_ne (Nat.ne_of_lt hb')]
      exact (hf b hb).1
  done := by
    intro X hP hw hK hc i pins s σ H E I hf st hg
    subst hP hw hK
    obtain ⟨⟨old, he⟩, hit, hne⟩ := st
    obtain ⟨f0, f1, f2, f3, f4, f5⟩ := hf it (by simp)
    have hn : z.cps[i]? = none := by
      have : z.cps.size ≤ i := hg
      simp; exact this
    exact wpAny_pyNext_enum_endD (drawsEndS (prog := X.prog) (w := X.w) (A := X.A.in1) (I.ok.hd hc) it z t i hn) he ⟨rfl, hit⟩ fun h' eb => ⟨rfl, I.turned (t' := s.toks) (fun b o hb q => eb b o hb q) f0 f1 f3 f4 f5⟩
  self := fun A i s Q E st h => let ⟨⟨_, he⟩, _⟩ := st; wpAny_pyIter_enum he h
def iEnS (ta : TA) : TI := fun σ H R => ta σ H fun vs H1 => ∃ z, vs = [.str z] ∧ R (IteS z) H1
theorem pi_enS {X : Cx} {e : Expr} {ta : TA} {p pos tpos : Pos} {elts : List Expr} {kk : Nat} (hg : Gl X "enumerate") (hm : X.mg "enumerate" = none) (ha : PA X [e] ta) (hs : starEach [e] X.env = [(false, eval e X.env)] := by rfl) :
    PI X (.Tuple elts kk tpos) (.Call (.Name "enumerate" p) [e] [] pos) (iEnS ta) := by
  refine ⟨fun pins s σ H R I h => ?_⟩
  refine Call_ (ld_blt I hg hm boot_enumerate (PyProof.Rows.callWith_type1 (thn (ha.run pos pins s σ H _ I h) fun us s1 ⟨vs, H1, I1, r1, q1⟩ => ?_) hs rfl))
  obtain ⟨z, ex, q⟩ := q1
  subst ex
  cases r1 with
  | cons r rr =>
    cases rr
    obtain ⟨t, rfl⟩ := r
    have fr : ∀ b, b ∈ [s1.heap.objs.size + 1, s1.heap.objs.size] → FpOk X pins H1 b := fun b hb => by
      have e' : b = s1.heap.objs.size + 1 ∨ b = s1.heap.objs.size := by simpa using hb
      have hle : s1.heap.objs.size ≤ b := by
        rcases e' with z | z
        · rw [z]; exact Nat.le_add_right _ _
        · rw [z]; exact Nat.le_refl _
      exact I1.fpOk hle (I1.hok.fresh hle)
    refine enum_begins1 (begins_text z t) trivial fun h' he hit hsz hk => wpAny_pyIter_enum he ?_
    have I2 : Inv X pins σ H1 { s1 with heap := h' } := I1.kept (t' := s1.toks) hk
    exact ⟨s1.heap.objs.size + 1, [s1.heap.objs.size + 1, s1.heap.objs.size], _, _, H1, rfl, I2, turn_enumS z t (s1.heap.objs.size + 1) s1.heap.objs.size, ⟨⟨.none, he⟩, ⟨_, hit, rfl, rfl⟩, Nat.succ_ne_self _⟩, fr, q⟩
def iEnA (K : PySem.W.Frag) (ta : TA) : TI := fun σ H R => ta σ H fun vs H1 => ∃ a xs, vs = [.ref a] ∧ ((SqL K H1 a xs ∧ R (Ite K a) H1) ∨ (SqT K H1 a xs ∧ R (IteT K a) H1))
theorem pi_enA {X : Cx} {e : Expr} {ta : TA} {p pos tpos : Pos} {elts : List Expr} {kk : Nat} (hg : Gl X "enumerate") (hm : X.mg "enumerate" = none) (ha : PA X [e] ta) (hs : starEach [e] X.env = [(false, eval e X.env)] := by rfl) :
    PI X (.Tuple elts kk tpos) (.Call (.Name "enumerate" p) [e] [] pos) (iEnA X.K ta) := by
  refine ⟨fun pins s σ H R I h => ?_⟩
  refine Call_ (ld_blt I hg hm boot_enumerate (PyProof.Rows.callWith_type1 (thn (ha.run pos pins s σ H _ I h) fun us s1 ⟨vs, H1, I1, r1, q1⟩ => ?_) hs rfl))
  obtain ⟨a, xs, ex, q⟩ := q1
  subst ex
  cases r1 with
  | cons r rr =>
    cases rr
    cases r
    have fr : ∀ b, b ∈ [s1.heap.objs.size + 1, s1.heap.objs.size] → FpOk X pins H1 b := fun b hb => by
      have e' : b = s1.heap.objs.size + 1 ∨ b = s1.heap.objs.size := by simpa using hb
      have hle : s1.heap.objs.size ≤ b := by
        rcases e' with z | z
        · rw [z]; exact Nat.le_add_right _ _
        · rw [z]; exact Nat.le_refl _
      exact I1.fpOk hle (I1.hok.fresh hle)
    rcases q with ⟨hq, q⟩ | ⟨hq, q⟩
    · obtain ⟨its, rv, p', hz⟩ := I1.list hq
      refine call_enumerate_list p'.isList fun h' he hit hsz hk => wpAny_pyIter_enum he ?_
      have I2 : Inv X pins σ H1 { s1 with heap := h' } := I1.kept (t' := s1.toks) hk
      exact ⟨s1.heap.objs.size + 1, [s1.heap.objs.size + 1, s1.heap.objs.size], _, _, H1, rfl, I2, turn_enum a (s1.heap.objs.size + 1) s1.heap.objs.size, ⟨⟨.none, he⟩, hit, Nat.succ_ne_self _⟩, fr, q⟩
    · obtain ⟨its, rv, p', hz⟩ := I1.tuple hq
      have hla : a < s1.heap.objs.size := by
        obtain ⟨o, ho, _⟩ := id p'
        exact Heap.lt_size ho
      refine enum_begins1 (begins_tuple a its.toArray) (show s1.heap.IsTuple a its.toArray from p') fun h' he hit hsz hk => wpAny_pyIter_enum he ?_
      have I2 : Inv X pins σ H1 { s1 with heap := h' } := I1.kept (t' := s1.toks) hk
      exact ⟨s1.heap.objs.size + 1, [s1.heap.objs.size + 1, s1.heap.objs.size], _, _, H1, rfl, I2, turn_enumT a (s1.heap.objs.size + 1) s1.heap.objs.size, ⟨⟨.none, he⟩, ⟨_, hit, rfl, rfl⟩, Nat.succ_ne_self _, Nat.ne_of_lt hla, Nat.ne_of_lt (Nat.lt_succ_of_lt hla)⟩, fr, q⟩
theorem enumL_get : ∀ (k : Int) (vs : List PV) (i : Nat), (enumL k vs)[i]? = (vs[i]?).map fun v => .tup [.int (k + (i : Int)), v]
  | k, [], i => by simp [enumL]
  | k, v :: vs, 0 => by simp [enumL]
  | k, v :: vs, i + 1 => by
    show (enumL (k + 1) vs)[i]? = _
    rw [enumL_get (k + 1) vs i]
    have e : k + 1 + (i : Int) = k + ((i + 1 : Nat) : Int) := by omega
    rw [e]
    rfl
section
variable {X : KX} {H1 : Hp} {G : List Addr}
theorem walk_enT (ok : X.Ok) {a : Addr} {ws : List V} {vs : List PV} (hs : SqT X.K H1 a ws) (r : RpL false X H1 vs ws G) : Walks X H1 (fun b => b ∈ G) (IteT X.K a) (enumL 0 vs) := by
  intro H lk i
  have hs' := sqT_fix hs lk.1
  have r' := r.fix ok lk.1 lk.2
  rw [enumL_get]
  refine ⟨fun v hv => ?_, fun hn => ?_⟩
  · cases ev : vs[i]? with
    | none => rw [ev] at hv; cases hv
    | some v1 =>
      rw [ev] at hv
      cases hv
      obtain ⟨w, F1, Gv, F2, e1, e2, rv, _, _⟩ := r'.at ev
      refine ⟨⟨ws, w, hs', e1⟩, fun x H' hy => ?_⟩
      obtain ⟨T, x', rfl, hT, rfl, f⟩ := hy
      have := f ws hs'
      rw [e1] at this
      cases this
      rw [Int.zero_add]
      exact ⟨same_upd hT, _, rp_pair ok rp_intI rv hT⟩
  · refine ⟨ws, hs', ?_⟩
    rw [← r.length]
    cases ev : vs[i]? with
    | none => exact List.getElem?_eq_none_iff.mp ev
    | some v => rw [ev] at hn; cases hn
theorem walk_enL (ok : X.Ok) {a : Addr} {ws : List V} {vs : List PV} {G0 : List Addr} (hs : LstR false X.K H1 a ws G0 G) (r : RpL false X H1 vs ws G0) : Walks X H1 (fun b => b ∈ G) (Ite X.K a) (enumL 0 vs) := by
  intro H lk i
  have hs' := (hs.fix lk.2).sq
  have r' := r.fix ok lk.1 fun b hb => lk.2 b (hs.sub b hb)
  rw [enumL_get]
  refine ⟨fun v hv => ?_, fun hn => ?_⟩
  · cases ev : vs[i]? with
    | none => rw [ev] at hv; cases hv
    | some v1 =>
      rw [ev] at hv
      cases hv
      obtain ⟨w, F1, Gv, F2, e1, e2, rv, _, _⟩ := r'.at ev
      refine ⟨⟨ws, w, hs', e1⟩, fun x H' hy => ?_⟩
      obtain ⟨T, x', rfl, hT, rfl, f⟩ := hy
      have := f ws hs'
      rw [e1] at this
      cases this
      rw [Int.zero_add]
      exact ⟨same_upd hT, _, rp_pair ok rp_intI rv hT⟩
  · refine ⟨ws, hs', ?_⟩
    rw [← r.length]
    cases ev : vs[i]? with
    | none => exact List.getElem?_eq_none_iff.mp ev
    | some v => rw [ev] at hn; cases hn
end
theorem walk_enS {X : KX} {H1 : Hp} (ok : X.Ok) {z : Str} : Walks X H1 (fun _ => False) (IteS z) (enumL 0 (z.cps.toList.map fun c => .str ⟨#[c]⟩)) := by
  intro H lk i
  rw [enumL_get, List.getElem?_map]
  refine ⟨fun v hv => ?_, fun hn => ?_⟩
  · cases ev : z.cps.toList[i]? with
    | none => rw [ev] at hv; cases hv
    | some c =>
      rw [ev] at hv
      cases hv
      have ec : z.cps[i]? = some c := by rw [← Array.getElem?_toList]; exact ev
      refine ⟨(Array.getElem?_eq_some_iff.mp ec).1, fun x H' hy => ?_⟩
      obtain ⟨T, c', rfl, hT, rfl, f⟩ := hy
      rw [ec] at f
      cases f
      rw [Int.zero_add]
      exact ⟨same_upd hT, _, rp_pair ok rp_intI rp_str hT⟩
  · show z.cps.size ≤ i
    cases ev : z.cps.toList[i]? with
    | none => simpa using List.getElem?_eq_none_iff.mp ev
    | some v => rw [ev] at hn; cases hn
section
variable {Y : Cz} {X : Cx} {tg e e2 : Expr} {ee ef : E} {pos p tpos : Pos} {CX : CXT} {k : Nat} {src : Str → Stmt}
theorem pi_en (O : Ok0 Y X) {elts : List Expr} {kk : Nat} (hg : Gl X "enumerate") (hm : X.mg "enumerate" = none) (he : PE X e (RdB Y ee)) (hs : starEach [e] X.env = (false, eval e X.env) :: starEach [] X.env) : PI X (.Tuple elts kk tpos) (.Call (.Name "enumerate" p) [e] [] pos) (RdI Y (.enum ee)) := by
  refine PI.mono (PI.or (pi_enA hg hm (pa_cons he pa_nil hs) hs) (pi_enS hg hm (pa_cons he pa_nil hs) hs)) fun σ H R ⟨env, fp, S, h⟩ => ?_
  unfold itI at h
  cases ev : evB Y.p Y.cf ee env with
  | bad => rw [ev] at h; exact h.elim
  | exc c fs e' => rw [ev] at h; exact .inl ⟨env, fp, S, by rw [ev]; exact h⟩
  | ok r env1 =>
    rw [ev] at h
    have h1 : Hold Y σ fp H (match itemsI r.1, locksOf ee r with | some vs, some l => DI.R.ok (enumL 0 vs, l) env1 | _, _ => .bad) fun a env' => ∀ J H' fp' Gp, PostI Y.X σ fp H (.enum ee) a env' J H' fp' Gp → R J H' := h
    cases ei : itemsI r.1 with
    | none => rw [ei] at h1; exact h1.elim
    | some vs =>
      cases el : locksOf ee r with
      | none => rw [ei, el] at h1; exact h1.elim
      | some l =>
        rw [ei, el] at h1
        have h1 : ∀ J H' fp' Gp, PostI Y.X σ fp H (.enum ee) (enumL 0 vs, l) env1 J H' fp' Gp → R J H' := h1
        have mk : ∀ {w H1 fp1}, Post Y.X σ fp H ee r env1 w H1 fp1 → ∃ G, Rp false Y.X H1 r.1 w G ∧ ∀ J, Walks Y.X H1 (fun b => b ∈ G) J (enumL 0 vs) → R J H1 := fun {w H1 fp1} P1 => by
          obtain ⟨G, rp, gd⟩ := good_of O.ok P1 (Stp.refl (fp := fp1) (H := H1)) (q := true) (fun _ => same_refl) (fun _ _ _ h => h) (by simp)
          exact ⟨G, rp, fun J wk => h1 J H1 fp1 (fun b => b ∈ G) ⟨P1.sim, P1.stp, P1.same, P1.mono, fun b hb => rp.trk b hb, fun b j hb hj => lk_of P1.sim gd el hb hj, wk⟩⟩
        rw [← O.K]
        obtain ⟨rv, fr⟩ := r
        cases rv with
        | tup us =>
          cases ei
          refine .inl ⟨env, fp, S, ?_⟩
          rw [ev]
          intro w H1 fp1 P1
          obtain ⟨G, rp, k⟩ := mk P1
          obtain ⟨a, ws, rfl, hs, rl⟩ := rp_tup' rp
          exact ⟨a, ws, rfl, .inr ⟨hs, k _ (walk_enT O.ok hs rl)⟩⟩
        | lst us =>
          cases ei
          refine .inl ⟨env, fp, S, ?_⟩
          rw [ev]
          intro w H1 fp1 P1
          obtain ⟨G, rp, k⟩ := mk P1
          obtain ⟨a, ws, G0, rfl, hs, rl⟩ := rp_lst' rp
          exact ⟨a, ws, rfl, .inl ⟨hs.sq, k _ (walk_enL O.ok hs rl)⟩⟩
        | str z =>
          cases ei
          refine .inr ⟨env, fp, S, ?_⟩
          rw [ev]
          intro w H1 fp1 P1
          obtain ⟨G, rp, k⟩ := mk P1
          have e2 := rp_str' rp
          have eG : G = [] := by unfold Rp at rp; exact rp.2
          subst eG
          refine ⟨z, by rw [e2], k _ fun H lk => walk_enS O.ok H ⟨lk.1, fun b hb => hb.elim⟩⟩
        | _ => cases ei
theorem g_en (B : Bun Y X CX k src) {elts : List Expr} {kk : Nat} (he : PE X e (RdB Y ee)) (hg : Gl X "enumerate" := by rfl) (hs : starEach [e] X.env = (false, eval e X.env) :: starEach [] X.env := by rfl) : PI X (.Tuple elts kk tpos) (.Call (.Name "enumerate" p) [e] [] pos) (RdI Y (.enum ee)) :=
  pi_en B.O hg (B.nm _ (by simp)) he hs
/-! ### list(range(..)) -/
theorem pe_lstRange (O : Ok0 Y X) (hc : X.calm = true) {a : Expr} {as : List Expr} {es : List E} {p2 pos2 : Pos} (hg0 : Gl X "list") (hm0 : X.mg "list" = none) (hg : Gl X "range") (hm : X.mg "range" = none) (ha : Alls Y X (a :: as) es)
    (na : starEach [.Call (.Name "range" p2) (a :: as) [] pos2] X.env = (false, eval (.Call (.Name "range" p2) (a :: as) [] pos2) X.env) :: starEach [] X.env) :
    PE X (.Call (.Name "list" p) [.Call (.Name "range" p2) (a :: as) [] pos2] [] pos) (RdB Y (.lstI (.range es))) := by
  refine ⟨fun pins s σ H Q I h => ?_⟩
  have h' := rd_tupI (f := .lst) O (.lstI (.range es)) (fun _ z => nomatch z) rfl (fun env => by unfold evB; rfl) h
  refine Call_ (ld_blt I hg0 hm0 boot_list (PyProof.Rows.callWith_type1 (args_cons (thn (eval_range O hg hm ha I h') fun x s1 ⟨r, i, j, c, t, u, v, n, H1, ex, hr, I1, hsm, hsz, hlen, gv⟩ => args_nil ?_) na) na))
  subst ex
  have hn : n ≤ 2 ^ 24 := by
    have := rangeC_len (a := i) (c := c) (n := n)
    omega
  refine call_list_range (n := n) (I1.ok.hd hc) hr hsm hsz hn fun h' tk acc c' hk e' hi => ?_
  have hfree := I1.hok.fresh (Nat.le_refl s1.heap.objs.size)
  have sm := same_upd (o := .lst (rgV' i c n)) hfree
  refine ⟨.ref s1.heap.objs.size, upd H1 s1.heap.objs.size (.lst (rgV' i c n)), I1.laid hk (Nat.le_refl _) (show ObjOk X.prog X.w _ _ _ (.lst (rgV' i c n)) from ⟨?_, acc.toList, c', vals_rgC hi, ?_⟩), rfl, ?_⟩
  · unfold rgV'; rw [List.length_map, List.length_range, sizeLine_eq]; omega
  · rw [Array.toArray_toList]; exact e'
  · refine gv _ [s1.heap.objs.size] _ ⟨sm, ?_, (List.nodup_cons.mpr ⟨fun h => (by cases h), List.nodup_nil⟩), fun b hb => by rw [List.mem_singleton.mp hb]; exact hfree⟩
    unfold Rp
    exact ⟨_, _, [], rfl, .inl ⟨upd_same, rfl⟩, rgV'_rp⟩
theorem g_lstr (B : Bun Y X CX k src) {a : Expr} {as : List Expr} {es : List E} {p2 pos2 : Pos} (ha : Alls Y X (a :: as) es) (hg0 : Gl X "list" := by rfl) (hg : Gl X "range" := by rfl) (na : starEach [.Call (.Name "range" p2) (a :: as) [] pos2] X.env = (false, eval (.Call (.Name "range" p2) (a :: as) [] pos2) X.env) :: starEach [] X.env := by rfl) :
    PE X (.Call (.Name "list" p) [.Call (.Name "range" p2) (a :: as) [] pos2] [] pos) (RdB Y (.lstI (.range es))) := pe_lstRange B.O B.hc hg0 (B.ng .list) hg (g_range B) ha na
end
end DI
set_option Elab.async false
set_option linter.all false
set_option maxRecDepth 100000
set_option maxHeartbeats 1000000
/-! DIS40: dict displays of names and of what stands by itself. -/
namespace DI
open PySem PySem.Spec PyProof.Rows L2
/-- an int, [], {} -/
inductive LV where
  | int (i : Int) | lst | dct
def LV.e : LV → E
  | .int i => .int i
  | .lst => .lst []
  | .dct => .dict []
def LV.v : LV → PV
  | .int i => .int i
  | .lst => .lst []
  | .dct => .dct [] []
def LV.t : LV → TE
  | .int i => tC (.int i)
  | .lst => tLst tNil
  | .dct => tDNewK
def dE : List (Str × LV) → List E
  | [] => []
  | (k, l) :: r => .str k :: l.e :: dE r
def dV : List (Str × LV) → List PV
  | [] => []
  | (k, l) :: r => .str k :: l.v :: dV r
def dT (l : List (Str × LV)) : List (TE × TE) := l.map fun kv => (tC (.str kv.1), kv.2.t)
def dK (l : List (Str × LV)) : List Key := l.map fun kv => .inr kv.1
theorem evO_c {p : Prog} {cf : Str → List PV → CR} {env : PEnv} {e : E} {es : List E} {v : PV} {vs : List PV} (h : evB p cf e env = .ok (v, true) env) (ih : evO p cf es env = .ok vs env) : evO p cf (e :: es) env = .ok (v :: vs) env := by
  unfold evO
  rw [h]
  simp only [R.bind_ok, ownE, if_pos]
  rw [ih]
  rfl
theorem LV.ev {p : Prog} {cf : Str → List PV → CR} {env : PEnv} (v : LV) : evB p cf v.e env = .ok (v.v, true) env := by
  cases v with
  | int i => unfold LV.e evB; rfl
  | lst =>
    unfold LV.e evB evO
    show (if ([] : List PV).length ≤ sizeLine then (R.ok (.lst [], true) env : R (PV × Bool)) else .bad) = _
    exact if_pos (show ([] : List PV).length ≤ sizeLine from Nat.zero_le _)
  | dct => unfold LV.e evB evO; rfl
theorem evO_dE {p : Prog} {cf : Str → List PV → CR} {env : PEnv} : ∀ l, evO p cf (dE l) env = .ok (dV l) env
  | [] => by unfold dE evO; rfl
  | (k, v) :: l => by
    have h : evB p cf (.str k) env = .ok (.str k, true) env := by unfold evB; rfl
    exact evO_c h (evO_c v.ev (evO_dE l))
theorem zip_kV : ∀ (l : List (Str × LV)) (ws : List V), (l.map fun kv => V.str kv.1).zip ws = ((dK l).zip ws).map fun kv => (kV kv.1, kv.2)
  | [], _ => rfl
  | _ :: _, [] => rfl
  | a :: l, w :: ws => by
    show (V.str a.1, w) :: (l.map fun kv => V.str kv.1).zip ws = _
    rw [zip_kV l ws]
    rfl
theorem dictOf_dV : ∀ (l : List (Str × LV)) (ks : List Key) (vs : List PV), (ks ++ dK l).Nodup → dictOf (dV l) ks vs = some (.dct (ks ++ dK l) (vs ++ l.map (·.2.v)))
  | [], ks, vs, _ => by simp [dictOf, dV, dK]
  | (k, v) :: l, ks, vs, h => by
    have hk : memK (.inr k) ks = false := by
      cases e : memK (.inr k) ks with
      | false => rfl
      | true =>
        have h1 := memK_iff.mp e
        have h2 := (List.nodup_append.mp h).2.2 _ h1 (.inr k) (by simp [dK])
        exact absurd rfl h2
    show (let s := setK (.inr k) v.v ks vs; dictOf (dV l) s.1 s.2) = _
    unfold setK
    rw [hk]
    show dictOf (dV l) (ks ++ [.inr k]) (vs ++ [v.v]) = _
    rw [dictOf_dV l _ _ (by simpa [dK] using h)]
    simp [dK]
theorem merge_new : ∀ (more kvs : List (Key × V)), ((kvs ++ more).map (·.1)).Nodup → mergeK kvs more = kvs ++ more
  | [], kvs, _ => by simp [mergeK]
  | (k, v) :: more, kvs, h => by
    have hk : (kvs.any fun kv => decide (kv.1 = k)) = false := by
      cases e : kvs.any fun kv => decide (kv.1 = k) with
      | false => rfl
      | true =>
        obtain ⟨kv, h1, h2⟩ := List.any_eq_true.mp e
        rw [List.map_append] at h
        exact absurd (of_decide_eq_true h2) ((List.nodup_append.mp h).2.2 _ (List.mem_map_of_mem h1) k (by simp))
    show mergeK (putK kvs k v) more = _
    unfold putK
    rw [hk, if_neg (by decide), merge_new more _ (by simpa using h)]
    simp
section
variable {X : KX} {σ : St}
theorem LV.run (l : LV) {H : Hp} {Q : VK} (h : ∀ w F H', New X H l.v w F H' → Q w H') : l.t σ H Q := by
  cases l with
  | int i => exact h (.int i) [] H (New.flat rp_intI)
  | lst =>
    refine ⟨Nat.zero_le _, fun p hp => h _ [p] _ ⟨same_upd hp, ?_, (List.nodup_cons.mpr ⟨fun h => (by cases h), List.nodup_nil⟩), fun b hb => by rw [List.mem_singleton.mp hb]; exact hp⟩⟩
    unfold LV.v Rp
    exact ⟨p, [], [], rfl, .inl ⟨upd_same, rfl⟩, RpL.nil⟩
  | dct =>
    intro p hp
    refine h _ [p] _ ⟨same_upd hp, ?_, (List.nodup_cons.mpr ⟨fun h => (by cases h), List.nodup_nil⟩), fun b hb => by rw [List.mem_singleton.mp hb]; exact hp⟩
    unfold LV.v Rp
    exact ⟨p, [], [], rfl, upd_same, ⟨rfl, List.nodup_nil⟩, rfl, RpL.nil⟩
theorem pairs_run (ok : X.Ok) : ∀ (l : List (Str × LV)) {H : Hp} {Q : List (V × V) → Hp → Prop}, (∀ ws F H', RpL true X H' (l.map (·.2.v)) ws F → Same H H' → F.Nodup → (∀ b ∈ F, H b = none) → Q ((l.map fun kv => V.str kv.1).zip ws) H') → tPairs (dT l) σ H Q
  | [], H, Q, h => h [] [] H RpL.nil same_refl List.nodup_nil (fun _ hb => by cases hb)
  | (k, v) :: l, H, Q, h => by
    show v.t σ H fun y H2 => tPairs (dT l) σ H2 fun ps H3 => Q ((.str k, y) :: ps) H3
    refine v.run (X := X) fun w F H1 n => pairs_run ok l fun ws G H2 r s nd nw => ?_
    refine h (w :: ws) (F ++ G) H2 (RpL.cons (n.rp.fix ok (Fix.same s) fun b _ o ho => s b o ho) r) (same_trans n.same s) ?_ ?_
    · refine List.nodup_append.mpr ⟨n.nd, nd, fun b hb c hc e => ?_⟩
      subst e
      obtain ⟨o, ho⟩ := n.rp.trk b hb
      rw [nw b hc] at ho
      cases ho
    · intro b hb
      rcases List.mem_append.mp hb with hb | hb
      · exact n.new b hb
      · cases e : H b with
        | none => rfl
        | some o =>
          have := n.same b o e
          rw [nw b hb] at this
          cases this
end
section
variable {Y : Cz} {X : Cx} {pos : Pos} {CX : CXT} {k : Nat} {src : Str → Stmt} {keys : List (Option Expr)} {values : List Expr}
theorem pe_dictN (O : Ok0 Y X) (l : List (Str × LV)) (h : PPs X pos keys values (dT l)) (hall : keys.all (·.isSome) = true) (hl : keys.length = values.length) (h0 : keys ≠ []) (h15 : keys.length ≤ 15) (hn : (dK l).Nodup) (hll : l.length ≤ 15) : PE X (.Dict keys values pos) (RdB Y (.dict (dE l))) := by
  refine PE.mono (pe_disp h hall hl h0 h15) fun σ H Q ⟨env, fp, S, h⟩ => ?_
  unfold evB at h
  rw [evO_dE] at h
  have h : Hold Y σ fp H (opt ((dictOf (dV l) [] []).map fun v => (v, true)) env) fun r env' => ∀ w H' fp', Post Y.X σ fp H (.dict (dE l)) r env' w H' fp' → Q w H' := h
  rw [dictOf_dV l [] [] (by simpa using hn)] at h
  have h : ∀ w H' fp', Post Y.X σ fp H (.dict (dE l)) (.dct ([] ++ dK l) ([] ++ l.map (·.2.v)), true) env w H' fp' → Q w H' := h
  simp only [List.nil_append] at h
  intro p hp
  refine pairs_run (X := Y.X) O.ok l fun ws F H2 r s nd nw => ?_
  have hp2 : H2 p = some (.dK []) := s _ _ upd_same
  have hlen : (dK l).length = ws.length := by
    have := r.length
    simpa [dK] using this
  have hpF : p ∉ F := fun hb => by
    have := nw p hb
    rw [upd_same] at this
    cases this
  have e1 : ((dK l).zip ws).map (·.1) = dK l := List.map_fst_zip (by omega)
  have e2 : ((dK l).zip ws).map (·.2) = ws := List.map_snd_zip (by omega)
  refine ⟨hp2, (dK l).zip ws, ?_, ?_, ?_⟩
  · exact zip_kV l ws
  · rw [List.length_zip]
    have : (dK l).length = l.length := by simp [dK]
    omega
  · rw [merge_new _ _ (by rw [List.nil_append, e1]; exact hn), List.nil_append]
    refine h _ _ _ (New.post O.ok S Stp.refl (fun _ => same_refl) (fun _ _ _ h => h) (fun _ z => nomatch z) (F := p :: F) ⟨?_, ?_, List.nodup_cons.mpr ⟨hpF, nd⟩, fun b hb => ?_⟩)
    · intro b o e
      have hb : b ≠ p := fun z => by rw [z, hp] at e; cases e
      rw [upd_ne hb]
      exact s b o (by rw [upd_ne hb]; exact e)
    · unfold Rp
      refine ⟨p, (dK l).zip ws, F, rfl, upd_same, ⟨e1, hn⟩, rfl, ?_⟩
      rw [e2]
      refine r.fix O.ok ⟨fun b o e ho => ?_⟩ fun b hb o e => ?_
      · have hb : b ≠ p := fun z => by rw [z, hp2] at e; cases e; cases ho
        rw [upd_ne hb]; exact e
      · have hb : b ≠ p := fun z => hpF (z ▸ hb)
        rw [upd_ne hb]; exact e
    · rcases List.mem_cons.mp hb with rfl | hb
      · exact hp
      · have := nw b hb
        have hb' : b ≠ p := fun z => hpF (z ▸ hb)
        rwa [upd_ne hb'] at this
theorem g_dict (B : Bun Y X CX k src) (l : List (Str × LV)) (h : PPs X pos keys values (dT l)) (hall : keys.all (·.isSome) = true := by rfl) (hl : keys.length = values.length := by rfl) (h0 : keys ≠ [] := by intro z; cases z) (h15 : keys.length ≤ 15 := by decide) (hn : (dK l).Nodup := by decide) (hll : l.length ≤ 15 := by decide) : PE X (.Dict keys values pos) (RdB Y (.dict (dE l))) :=
  pe_dictN B.O l h hall hl h0 h15 hn hll
end
end DI
set_option Elab.async false
set_option linter.all false
set_option maxRecDepth 100000
set_option maxHeartbeats 1000000
/-! DIS41: xs[::-1] of lists and tuples; a, b, c = x, y, z. -/
namespace DI
open PySem PySem.Spec PyProof.Rows L2
/-! ### [::-1] -/
theorem places_rev (n : Nat) : Builtin.Slice.slicePlaces ((n : Int) - 1) (-1) (-1) = n := by
  unfold Builtin.Slice.slicePlaces
  have h1 : ¬ ((-1 : Int) > 0) := by omega
  simp only [h1, if_false]
  split
  · simp
  · simp; omega
theorem fmap_congr {α β : Type} {f g : α → Option β} : ∀ {l : List α}, (∀ x ∈ l, f x = g x) → l.filterMap f = l.filterMap g
  | [], _ => rfl
  | a :: l, h => by rw [List.filterMap_cons, List.filterMap_cons, h a List.mem_cons_self, fmap_congr fun x hx => h x (List.mem_cons_of_mem _ hx)]
theorem pick_rev (items : Array Value) : ((List.range items.size).filterMap fun (m : Nat) => items[(((items.size : Int) - 1) + (m : Int) * (-1)).toNat]?).toArray = items.toList.reverse.toArray := by
  have e : (List.range items.size).filterMap (fun (m : Nat) => items[(((items.size : Int) - 1) + (m : Int) * (-1)).toNat]?) = ((List.range items.size).map fun k => items.size - 1 - k).filterMap (items[·]?) := by
    rw [List.filterMap_map]
    apply fmap_congr
    intro m hm
    have := List.mem_range.mp hm
    have e2 : (((items.size : Int) - 1) + (m : Int) * (-1)).toNat = items.size - 1 - m := by omega
    rw [e2]
    rfl
  rw [e, PySem.W.krv_range, List.filterMap_reverse, PySem.W.krv_all]
section
variable {prog : Program} {w : World} {A : Around} {E : Value → Shared → Prop} {s : Shared}
theorem sliceApplied_rev {sl : Addr} {n : Nat} {tk : Tok} {Q : Int × Int × Nat → Shared → Prop} (hs : s.heap.IsSliceOf sl .none .none (.int (-1) tk)) (h : Q ((n : Int) - 1, -1, n) s) : wpAny (model prog w) A (Builtin.Slice.sliceApplied (.ref sl) (pure (n : Int))) Q E s := by
  obtain ⟨os, hos, hcs, hds⟩ := id hs
  unfold Builtin.Slice.sliceApplied Builtin.Slice.sliceFields
  refine wpAny_bind (wpAny_bind (wpAny_field hos hds (x := .none) rfl (wpAny_bind (wpAny_field hos hds (x := .none) rfl (wpAny_bind (wpAny_field hos hds (x := .int (-1) tk) rfl (wpAny_pure ?_)))))))
  refine wpAny_bind (slicePart_int ?_)
  show wpAny _ _ (if ((-1 : Int) == 0) = true then _ else _) _ _ s
  rw [if_neg (by decide)]
  refine wpAny_bind (slicePart_none (wpAny_bind (slicePart_none (wpAny_bind (wpAny_pure ?_)))))
  show wpAny _ _ (pure ((n : Int) - 1, (-1 : Int), Builtin.Slice.slicePlaces ((n : Int) - 1) (-1) (-1))) _ _ s
  rw [places_rev]
  exact wpAny_pure h
theorem getItem_tuple_rev {t sl : Addr} {items : Array Value} {tk : Tok} {Q : Value → Shared → Prop} (ht : IsTup s.heap t items) (hs : s.heap.IsSliceOf sl .none .none (.int (-1) tk))
    (h : Q (.ref s.heap.objs.size) { s with heap := s.heap.push { cls := .type "tuple", data := .seq items.toList.reverse.toArray } })
    (hsz : items.size ≤ sizeLine) : wpAny (model prog w) A (getItem (.ref t) (.ref sl)) Q E s := by
  have htake : sizeOk (.seq items.toList.reverse.toArray) := by
    show items.toList.reverse.toArray.size ≤ sizeLine
    rw [List.size_toArray, List.length_reverse, Array.length_toList]
    exact hsz
  obtain ⟨os, hos, hcs, hds⟩ := id hs
  have hTs : s.TypeIs (.ref sl) "slice" := ⟨os, hos, hcs⟩
  unfold getItem
  try with_reducible refine wpAny_holding ?_
  first | refine wpAny_bind (wpAny_pure ?_) | skip
  refine wpAny_bind (wpAny_sequenceKey ht.typeIs (by decide) ?_)
  refine wpAny_bind (wpAny_callSpecial?_slot (name := Str.ofString "__getitem__") ht.typeIs PyProof.Rows.slot_tuple_getitem
    (wpAny_call_entry PyProof.Rows.slot_tuple_getitem ht.typeIs entry_tuple_getitem ?_ (args_tuple_getitem _ _)))
  show wpAny _ _ (Builtin.Tuple.tupleItemsOf (.ref t) >>= _) _ _ s
  refine wpAny_bind (tupleItemsOf_ ht ?_)
  refine wpAny_bind (wpAny_typeOf hTs ?_)
  rw [if_pos (by decide)]
  refine wpAny_bind (sliceApplied_rev hs ?_)
  have hno : ¬ ((((items.size : Int) - 1) == 0 && (-1 : Int) == 1 && items.size == items.size) = true) := by
    intro q
    rw [Bool.and_eq_true, Bool.and_eq_true] at q
    exact absurd q.1.2 (by decide)
  show wpAny _ _ (if (((items.size : Int) - 1) == 0 && (-1 : Int) == 1 && items.size == items.size) = true then _ else _) _ _ s
  rw [if_neg hno, pick_rev]
  first
    | exact wpAny_bind (m := Builtin.Tuple.tupleExact _) (wpAny_newObj_type (wpAny_pure ⟨_, rfl, wpAny_pure h⟩) htake)
    | exact wpAny_bind (m := Builtin.Tuple.tupleExact _) (wpAny_newObj_type (wpAny_bind (wpAny_pure (wpAny_pure ⟨_, rfl, wpAny_pure h⟩))) htake)
    | exact wpAny_bind (wpAny_bind (m := Builtin.Tuple.tupleExact _) (wpAny_newObj_type (wpAny_pure (wpAny_pure ⟨_, rfl, wpAny_pure h⟩)) htake))
    | exact wpAny_bind (wpAny_bind (m := Builtin.Tuple.tupleExact _) (wpAny_newObj_type (wpAny_pure ⟨_, rfl, wpAny_pure h⟩) htake))
end
def tRevA (K : PySem.W.Frag) (te : TE) : TE := fun σ H Q => te σ H fun x H1 => ∃ a xs, x = .ref a ∧ ((SqL K H1 a xs ∧ ∀ p, H1 p = none → Q (.ref p) (upd H1 p (.lst xs.reverse))) ∨ (SqT K H1 a xs ∧ ∀ p, H1 p = none → Q (.ref p) (upd H1 p (.tup xs.reverse))))
theorem pe_revA {X : Cx} {e : Expr} {te : TE} {k : Nat} {p1 p2 p3 pos : Pos} (he : PE X e te) : PE X (.Subscript e (.Slice none none (some (.UnaryOp .USub (.Constant (.int 1) k p1) p2)) p3) pos) (tRevA X.K te) := by
  refine ⟨fun pins s σ H Q I h => ?_⟩
  refine Subscript_ (thn (he.run pins s σ H _ I h) fun v s1 ⟨x, H1, I1, r1, q1⟩ => ?_)
  obtain ⟨a, xs, ex, q⟩ := q1
  subst ex
  cases r1
  have hst : PO X (some (.UnaryOp .USub (.Constant (.int 1) k p1) p2)) (tPart (tUn (rU fun i => .int (-i)) (tC (.int 1)))) := po_some (pe_un un_neg pe_int)
  refine wpAny_Slice (thn (po_none.run pins s1 σ H1 (fun o H2 => o = none ∧ H2 = H1) I1 ⟨rfl, rfl⟩) fun vl s2 ⟨l, H2, I2, pl, el, e2⟩ => ?_)
  subst el e2
  refine thn (po_none.run pins s2 σ H2 (fun o H3 => o = none ∧ H3 = H2) I2 ⟨rfl, rfl⟩) fun vu s3 ⟨u, H3, I3, pu, eu, e3⟩ => ?_
  subst eu e3
  refine thn (hst.run pins s3 σ H3 (fun o H4 => o = some (-1) ∧ H4 = H3) I3 ⟨1, rfl, -1, rfl, rfl, rfl⟩) fun vs s4 ⟨o, H4, I4, ps, eo, e4⟩ => ?_
  subst eo e4
  have I5 : Inv X pins σ H4 { s4 with heap := s4.heap.push { cls := .type "slice", data := .fields #[vl, vu, vs] } } := I4.kept (t' := s4.toks) fun b ob q => Heap.get?_push_of_some _ q
  show wpAny (model X.prog X.w) X.A (subscriptTail e (.Slice none none (some (.UnaryOp .USub (.Constant (.int 1) k p1) p2)) p3) (.ref a) (.ref s4.heap.objs.size)) (EP X pins σ Q) X.xe { s4 with heap := s4.heap.push { cls := .type "slice", data := .fields #[vl, vu, vs] } }
  rcases q with ⟨hx, q⟩ | ⟨hx, q⟩
  · obtain ⟨its, r, ht, hz⟩ := I5.list hx
    have hlen := r.length
    refine tail_any (ops := [.ref a, .ref s4.heap.objs.size]) ht.isList.typeIs (PySem.slot_list_getitem.lookup) ?_ (by with_unfolding_all rfl)
    refine wpAny_getItem_list_slice ht.isList (Heap.IsSliceOf.new _ vl vu vs) pl pu ps (by decide) ?_ (by rw [List.size_toArray]; omega)
    rw [PySem.W.krv_pick]
    refine ⟨.ref _, _, I5.laid (t' := s4.toks) (o := .lst xs.reverse) (fun b ob q => Heap.get?_push_of_some _ q) (Nat.le_refl _) ?_, rfl, q _ (I5.hok.fresh (Nat.le_refl _))⟩
    exact ⟨by rw [List.length_reverse]; exact hz, _, 0, r.reverse, Heap.get?_push_size _ rfl⟩
  · obtain ⟨its, r, ht, hz⟩ := I5.tuple hx
    have hlen := r.length
    refine tail_any (ops := [.ref a, .ref s4.heap.objs.size]) ht.typeIs (PyProof.Rows.slot_tuple_getitem.lookup) ?_ (by with_unfolding_all rfl)
    cases pl
    cases pu
    cases ps
    refine getItem_tuple_rev ht (Heap.IsSliceOf.new _ _ _ _) ?_ (by rw [List.size_toArray]; omega)
    refine ⟨.ref _, _, I5.laid (t' := s4.toks) (o := .tup xs.reverse) (fun b ob q => Heap.get?_push_of_some _ q) (Nat.le_refl _) ?_, rfl, q _ (I5.hok.fresh (Nat.le_refl _))⟩
    exact ⟨by rw [List.length_reverse]; exact hz, _, r.reverse, IsTup.new _ _⟩
theorem rpL_snoc {X : KX} {H : Hp} : ∀ {vs : List PV} {ws : List V} {v : PV} {w : V}, RpL true X H vs ws [] → Rp true X H v w [] → RpL true X H (vs ++ [v]) (ws ++ [w]) []
  | [], ws, v, w, h, r => by
    unfold RpL at h
    obtain ⟨rfl, _⟩ := h
    exact RpL.cons r RpL.nil
  | u :: vs, ws, v, w, h, r => by
    unfold RpL at h
    obtain ⟨w1, ws', F1, F2, rfl, e, r1, r2⟩ := h
    obtain ⟨rfl, rfl⟩ := List.append_eq_nil_iff.mp e.symm
    exact RpL.cons r1 (rpL_snoc r2 r)
theorem rpL_rev {X : KX} {H : Hp} : ∀ {vs : List PV} {ws : List V}, RpL true X H vs ws [] → RpL true X H vs.reverse ws.reverse []
  | [], ws, h => by
    unfold RpL at h
    obtain ⟨rfl, _⟩ := h
    exact RpL.nil
  | u :: vs, ws, h => by
    unfold RpL at h
    obtain ⟨w1, ws', F1, F2, rfl, e, r1, r2⟩ := h
    obtain ⟨rfl, rfl⟩ := List.append_eq_nil_iff.mp e.symm
    rw [List.reverse_cons, List.reverse_cons]
    exact rpL_snoc (rpL_rev r2) r1
section
variable {Y : Cz} {X : Cx} {e a b c : Expr} {ee ea eb ec : E} {pos p1 p2 p3 px py pz pt : Pos} {CX : CXT} {k : Nat} {src : Str → Stmt}
theorem pe_rvs (O : Ok0 Y X) {kk : Nat} (he : PE X e (RdB Y ee)) : PE X (.Subscript e (.Slice none none (some (.UnaryOp .USub (.Constant (.int 1) kk p1) p2)) p3) pos) (RdB Y (.rvs ee)) := by
  refine PE.mono (pe_revA he) fun σ H Q ⟨env, fp, S, h⟩ => ?_
  unfold evB at h
  refine ⟨env, fp, S, h.bind.imp fun r env1 hr w H1 fp1 P1 => ?_⟩
  obtain ⟨G, vb⟩ := P1.vb
  have rp := vb.rp
  obtain ⟨rv, fr⟩ := r
  rw [← O.K]
  cases rv with
  | tup vs =>
    have hr : Hold Y σ fp H (if (immL vs && decide (vs.length ≤ sizeLine)) = true then .ok (.tup vs.reverse, true) env1 else .bad) fun r env' => ∀ w H' fp', Post Y.X σ fp H (.rvs ee) r env' w H' fp' → Q w H' := hr
    obtain ⟨hc, hr⟩ := hr.ite
    obtain ⟨a, ws, rfl, hs, rl⟩ := rp_tup' rp
    refine ⟨a, ws, rfl, .inr ⟨hs, fun p hp => ?_⟩⟩
    exact gives_of (e := .rvs ee) O.ok P1.sim P1.stp P1.same P1.mono (fun _ z => nomatch z) hr (.ref p) [] _ (new_tup O.ok (rpL_rev (rl.imm (m' := true) (and_l hc)).2) hp)
  | lst vs =>
    have hr : Hold Y σ fp H (if (immL vs && decide (vs.length ≤ sizeLine)) = true then .ok (.lst vs.reverse, true) env1 else .bad) fun r env' => ∀ w H' fp', Post Y.X σ fp H (.rvs ee) r env' w H' fp' → Q w H' := hr
    obtain ⟨hc, hr⟩ := hr.ite
    obtain ⟨a, ws, G0, rfl, hs, rl⟩ := rp_lst' rp
    refine ⟨a, ws, rfl, .inl ⟨hs.sq, fun p hp => ?_⟩⟩
    exact gives_of (e := .rvs ee) O.ok P1.sim P1.stp P1.same P1.mono (fun _ z => nomatch z) hr (.ref p) [p] _ (new_lst O.ok (rpL_rev (rl.imm (m' := true) (and_l hc)).2) hp)
  | _ => exact hr.elim
theorem g_rvs (B : Bun Y X CX k src) {kk : Nat} (he : PE X e (RdB Y ee)) : PE X (.Subscript e (.Slice none none (some (.UnaryOp .USub (.Constant (.int 1) kk p1) p2)) p3) pos) (RdB Y (.rvs ee)) := pe_rvs B.O he
/-! ### a, b, c = x, y, z -/
theorem ps_par3' (O : Ok0 Y X) (hc : X.calm = true) {i j l : Nat} {x y z : Str} {kt k2 : Nat} {pt2 : Pos} (hN : X.N.Nodup) (hi : X.N[i]? = some x) (hj : X.N[j]? = some y) (hl : X.N[l]? = some z) (hij : i ≠ j) (hil : i ≠ l) (hjl : j ≠ l) (hx : X.env.scope.names.lookup x = some .local) (hy : X.env.scope.names.lookup y = some .local) (hz : X.env.scope.names.lookup z = some .local) (ha : Alls Y X [a, b, c] [ea, eb, ec])
    (hw : swappedStores [.Tuple [.Name x px, .Name y py, .Name z pz] kt pt] (.Tuple [a, b, c] k2 pt2) X.env = pure (some [x, y, z])) (hs : swapsWithSole [.Tuple [.Name x px, .Name y py, .Name z pz] kt pt] (.Tuple [a, b, c] k2 pt2) pos.line X.env = pure false) :
    PS X (.Assign [.Tuple [.Name x px, .Name y py, .Name z pz] kt pt] (.Tuple [a, b, c] k2 pt2) pos) (RdS Y (.par [i, j, l] [ea, eb, ec])) := by
  refine PS.mono (ps_par3 hc hN hi hj hl hij hil hjl hx hy hz (pa_O O ha) hw hs) fun D σ H ⟨env, fp, S, h⟩ => ?_
  unfold exS at h
  cases ev : evO Y.p Y.cf [ea, eb, ec] env with
  | bad => rw [ev] at h; exact h.elim
  | exc c fs e' =>
    rw [ev] at h
    exact ⟨env, fp, S, by rw [ev]; exact fun cls d H' fp' S t e => h σ cls d H' fp' S t e⟩
  | ok vs env1 =>
    rw [ev] at h
    refine ⟨env, fp, S, ?_⟩
    rw [ev]
    intro ws H1 fp1 P1
    have h : HoldS Y fp H (match bindTs true [.v i, .v j, .v l] vs env1 with | some env' => .nx env' | none => .bad) D := h
    cases hb : bindTs true [.v i, .v j, .v l] vs env1 with
    | none => rw [hb] at h; exact h.elim
    | some env2 =>
      rw [hb] at h
      have h : ∀ σ' H' fp', Sim Y.X env2 σ' H' fp' → Stp fp H fp' H' → D.nx σ' H' := h
      obtain ⟨F, vo⟩ := P1.vo
      match vs, hb, vo with
      | [v1, v2, v3], hb, vo =>
        unfold bindTs at hb
        cases h1 : bindT true (.v i) v1 env1 with
        | none => rw [h1] at hb; cases hb
        | some e1 =>
          rw [h1] at hb
          dsimp only at hb
          unfold bindTs at hb
          cases h2 : bindT true (.v j) v2 e1 with
          | none => rw [h2] at hb; cases hb
          | some e2 =>
            rw [h2] at hb
            dsimp only at hb
            unfold bindTs at hb
            cases h3 : bindT true (.v l) v3 e2 with
            | none => rw [h3] at hb; cases hb
            | some e3 =>
              rw [h3] at hb
              dsimp only at hb
              unfold bindTs at hb
              cases hb
              obtain ⟨_, l1, rfl⟩ := bind_v h1
              obtain ⟨_, l2, rfl⟩ := bind_v h2
              obtain ⟨_, l3, rfl⟩ := bind_v h3
              obtain ⟨w1, ws1, F1, F2, rfl, vo1, k1⟩ := vo.head
              obtain ⟨w2, ws2, F3, F4, rfl, vo2, k2⟩ := (k1 i).head
              obtain ⟨w3, ws3, F5, F6, rfl, vo3, k3⟩ := (k2 j).head
              have : ws3 = [] := by
                have := (k3 l).rp
                unfold RpL at this
                exact this.1
              subst this
              obtain ⟨S1, t1⟩ := VO.setv P1.sim P1.stp vo1 l1
              obtain ⟨S2, t2⟩ := VO.setv S1 t1 vo2 l2
              obtain ⟨S3, t3⟩ := VO.setv S2 t2 vo3 l3
              exact ⟨w1, w2, w3, rfl, h _ _ _ S3 t3⟩
      | [], hb, vo => simp [bindTs] at hb
      | [_], hb, vo =>
        unfold bindTs at hb
        split at hb
        · simp [bindTs] at hb
        · cases hb
      | [_, _], hb, vo =>
        unfold bindTs at hb
        split at hb
        · unfold bindTs at hb
          split at hb
          · simp [bindTs] at hb
          · cases hb
        · cases hb
      | _ :: _ :: _ :: _ :: _, hb, vo =>
        unfold bindTs at hb
        split at hb
        · unfold bindTs at hb
          split at hb
          · unfold bindTs at hb
            split at hb
            · simp [bindTs] at hb
            · cases hb
          · cases hb
        · cases hb
theorem g_par3 (B : Bun Y X CX k src) {i j l : Nat} {x y z : Str} {kt k2 : Nat} {pt2 : Pos} (hN : X.N.Nodup) (ha : Alls Y X [a, b, c] [ea, eb, ec]) (hi : X.N[i]? = some x := by rfl) (hj : X.N[j]? = some y := by rfl) (hl : X.N[l]? = some z := by rfl) (hij : i ≠ j := by decide) (hil : i ≠ l := by decide) (hjl : j ≠ l := by decide) (hx : X.env.scope.names.lookup x = some .local := by rfl) (hy : X.env.scope.names.lookup y = some .local := by rfl) (hz : X.env.scope.names.lookup z = some .local := by rfl)
    (hw : swappedStores [.Tuple [.Name x px, .Name y py, .Name z pz] kt pt] (.Tuple [a, b, c] k2 pt2) X.env = pure (some [x, y, z]) := by rfl) (hs : swapsWithSole [.Tuple [.Name x px, .Name y py, .Name z pz] kt pt] (.Tuple [a, b, c] k2 pt2) pos.line X.env = pure false := by rfl) :
    PS X (.Assign [.Tuple [.Name x px, .Name y py, .Name z pz] kt pt] (.Tuple [a, b, c] k2 pt2) pos) (RdS Y (.par [i, j, l] [ea, eb, ec])) := ps_par3' B.O B.hc hN hi hj hl hij hil hjl hx hy hz ha hw hs
end
end DI
set_option Elab.async false
set_option linter.all false
set_option maxRecDepth 100000
set_option maxHeartbeats 1000000
/-! DIS42: names of the text that hold tuples. -/
namespace DI
open PySem PySem.Spec PyProof.Rows L2
mutual
def gB (K : PySem.W.Frag) : PV → Value → Bool
  | .int i, u => (match u with
    | .int j _ => decide (j = i)
    | _ => false)
  | .str x, u => (match u with
    | .str y _ => decide (y = x)
    | _ => false)
  | .bl b, u => (match u with
    | .bool c => c == b
    | _ => false)
  | .non, u => (match u with
    | .none => true
    | _ => false)
  | .tup vs, u => (match u with
    | .ref a => (match K.lookup a with
      | some o => decide (o.cls = .type "tuple") && (match o.data with
        | .seq its _ => decide (its.size ≤ 1000000) && gL K vs its.toList
        | _ => false)
      | none => false)
    | _ => false)
  | _, _ => false
def gL (K : PySem.W.Frag) : List PV → List Value → Bool
  | [], us => us.isEmpty
  | v :: vs, us => (match us with
    | u :: us => gB K v u && gL K vs us
    | [] => false)
end
mutual
theorem gB_ok {K : PySem.W.Frag} : ∀ {v : PV} {u : Value}, gB K v u = true → ∃ w, RelV w u ∧ ∀ (X : KX) (H : Hp), X.K = K → Rp true X H v w []
  | .int i, u, h => by
    unfold gB at h
    split at h
    · rename_i j t
      have e : j = i := of_decide_eq_true h
      subst e
      exact ⟨.int j, ⟨t, rfl⟩, fun X H _ => rp_intI⟩
    · cases h
  | .str x, u, h => by
    unfold gB at h
    split at h
    · rename_i y t
      have e : y = x := of_decide_eq_true h
      subst e
      exact ⟨.str y, ⟨t, rfl⟩, fun X H _ => rp_str⟩
    · cases h
  | .bl b, u, h => by
    unfold gB at h
    split at h
    · rename_i c
      have e : c = b := by simpa using h
      subst e
      exact ⟨.bl c, rfl, fun X H _ => rp_bl⟩
    · cases h
  | .non, u, h => by
    unfold gB at h
    split at h
    · exact ⟨.non, rfl, fun X H _ => rp_non⟩
    · cases h
  | .tup vs, u, h => by
    unfold gB at h
    split at h
    · rename_i a
      split at h
      · rename_i o ho
        obtain ⟨h1, h2⟩ := He.ba h
        have hc : o.cls = .type "tuple" := of_decide_eq_true h1
        split at h2
        · rename_i its n hd
          obtain ⟨h3, h4⟩ := He.ba h2
          obtain ⟨ws, h5, h6⟩ := gL_ok h4
          refine ⟨.ref a, rfl, fun X H e => ?_⟩
          unfold Rp
          refine ⟨a, ws, rfl, .inr ⟨o, its, n, by rw [e]; exact ho, hc, hd, ?_, h5⟩, h6 X H e⟩
          have := of_decide_eq_true h3
          rw [sizeLine_eq]
          omega
        · cases h2
      · cases h
    · cases h
  | .lst vs, u, h => by unfold gB at h; cases h
  | .set vs, u, h => by unfold gB at h; cases h
  | .dct ks vs, u, h => by unfold gB at h; cases h
  | .err c vs, u, h => by unfold gB at h; cases h
theorem gL_ok {K : PySem.W.Frag} : ∀ {vs : List PV} {us : List Value}, gL K vs us = true → ∃ ws, Vals ws us ∧ ∀ (X : KX) (H : Hp), X.K = K → RpL true X H vs ws []
  | [], us, h => by
    unfold gL at h
    cases us with
    | nil => exact ⟨[], .nil, fun _ _ _ => RpL.nil⟩
    | cons => cases h
  | v :: vs, us, h => by
    unfold gL at h
    split at h
    · obtain ⟨h1, h2⟩ := He.ba h
      obtain ⟨w, r1, k1⟩ := gB_ok h1
      obtain ⟨ws, r2, k2⟩ := gL_ok h2
      exact ⟨w :: ws, .cons r1 r2, fun X H e => RpL.cons (k1 X H e) (k2 X H e)⟩
    · cases h
end
def tgB (K : PySem.W.Frag) (l : List (Str × PV)) : Bool := l.all fun q => match PySem.W.nsIn K mainGlobals q.1 with
  | some (some u) => gB K q.2 u
  | _ => false
theorem tg_ok {K : PySem.W.Frag} {h : Heap} {mg : Str → Option Value} (X : K.In h) (G : h.Ns mainGlobals mg) {l : List (Str × PV)} (c : tgB K l = true) {x : Str} {v : PV} (hm : (x, v) ∈ l) : ∃ w u, mg x = some u ∧ RelV w u ∧ ∀ (X : KX) (H : Hp), X.K = K → Rp true X H v w [] := by
  have := List.all_eq_true.mp c _ hm
  split at this
  · rename_i u e
    obtain ⟨w, r, k⟩ := gB_ok this
    exact ⟨w, u, PySem.W.mg_of X G e, r, k⟩
  · cases this
end DI
set_option Elab.async false
set_option linter.all false
set_option maxRecDepth 100000
set_option maxHeartbeats 1000000
/-! DIS43: a name's part at a place that changes other things: the name's value is looked at behind the place. -/
namespace DI
open PySem PySem.Spec PyProof.Rows L2
section
variable {Y : Cz} {X : Cx} {CX : CXT} {k : Nat} {src : Str → Stmt} {b : Expr} {eb : E} {pos p' : Pos}
theorem g_ixv (B : Bun Y X CX k src) {i : Nat} {x : Str} (hb : PE X b (RdB Y eb)) (hs : PlainIx b := by intro _ _; rfl) (hN : X.N[i]? = some x := by rfl) (hv : Vis X.env.scope x := by first | exact .inl rfl | exact .inr (.inl rfl) | exact .inr (.inr rfl)) (hd : (x == ("__debug__" : Str)) = false := by decide) (hcd : (x == ("__classdict__" : Str)) = false := by decide) :
    PE X (.Subscript (.Name x p') b pos) (RdB Y (.ixv i eb)) := by
  have O := B.O
  refine PE.mono (pe_ix (ixP O.hu) (pe_var hN hv hd hcd) hb hs) fun σ H Q ⟨env, fp, S, h⟩ => ?_
  unfold evB at h
  cases hg : getS env i with
  | none => simp only [hg] at h; exact h.elim
  | some va =>
    simp only [hg] at h
    obtain ⟨w, G0, hw, _⟩ := S.val hg
    refine ⟨w, hw, env, fp, S, h.bind.imp fun rb env2 h2 y H2 fp2 P2 => ?_⟩
    cases hg2 : getS env2 i with
    | none => simp only [hg2] at h2; exact h2.elim
    | some v =>
      simp only [hg2] at h2
      obtain ⟨w2, G, hw2, va'⟩ := P2.sim.val hg2
      have ew : w2 = w := by
        rw [hw] at hw2
        exact (Option.some.inj (Option.some.inj hw2)).symm
      subst ew
      obtain ⟨r, er, hΦ⟩ := h2.opt
      obtain ⟨v', ev, rfl⟩ := map_true er
      obtain ⟨G', vb⟩ := P2.vb
      obtain ⟨ev', hi⟩ : ixI v rb.1 = some v' ∧ v'.imm = true := by
        unfold ixV at ev
        cases hx : ixI v rb.1 with
        | none => rw [hx] at ev; cases ev
        | some u =>
          rw [hx] at ev
          by_cases hu : u.imm = true
          · have : some u = some v' := by simpa [hu] using ev
            cases this
            exact ⟨rfl, hu⟩
          · simp [hu] at ev
      rw [← O.K]
      refine ix_ok ev' va'.rp vb.rp fun w3 G1 rp hG => hΦ w3 H2 fp2 ⟨P2.sim, P2.stp, fun z => P2.same z, fun z => P2.mono z, ⟨G1, rp, fun x hx i _ => by rw [(rp.imm (m' := false) hi).1] at hx; cases hx⟩, fun _ => ?_, fun _ z => nomatch z⟩
      exact ⟨[], (VB.vo (root := none) ⟨rp, fun x hx i _ => by rw [(rp.imm (m' := false) hi).1] at hx; cases hx⟩ hi)⟩
end
end DI
set_option Elab.async false
set_option linter.all false
set_option maxRecDepth 100000
set_option maxHeartbeats 1000000
/-! DIS44: a list of its own that nobody changes from here on. -/
namespace L2
open PySem PySem.Spec PyProof.Rows
theorem Inv.frzL {X : Cx} {pins : List (Addr × Obj)} {σ : St} {H : Hp} {s : Shared} {a : Addr} {xs : List V} (I : Inv X pins σ H s) (h : H a = some (.lst xs)) : ∃ o, Inv X pins σ (upd H a (.frz o (.lst xs))) s := by
  obtain ⟨z, its, n, r, e⟩ := (show ObjOk X.prog X.w H s.heap a (.lst xs) from I.hok a _ h)
  exact ⟨_, I.write (x := a) (e := a) (t' := s.toks) (by rw [h]; exact trivial) (.inl rfl) (fun b u _ q => q) ⟨_, e⟩ (show ObjOk _ _ _ _ _ (.frz _ (.lst xs)) from ⟨e, z, its, n, r, e⟩)⟩
def tFrz (t : TE) : TE := fun σ H Q => t σ H fun x H1 => ∃ a xs, x = .ref a ∧ H1 a = some (.lst xs) ∧ ∀ o, Q x (upd H1 a (.frz o (.lst xs)))
theorem pe_frz {X : Cx} {e : Expr} {t : TE} (h : PE X e t) : PE X e (tFrz t) := ⟨fun pins s σ H Q I q => thn (h.run pins s σ H _ I q) fun v s1 ⟨x, H1, I1, r1, a, xs, e, hl, k⟩ => by
  obtain ⟨o, I2⟩ := I1.frzL hl
  exact ⟨x, _, I2, r1, k o⟩⟩
end L2
namespace DI
open PySem PySem.Spec PyProof.Rows L2
section
variable {Y : Cz} {X : Cx} {CX : CXT} {k : Nat} {src : Str → Stmt} {e : Expr} {ee : E} {pos p' : Pos}
theorem Fix.frz {H : Hp} {p : Addr} {o : Obj} {ws : List V} (hp : H p = some (.lst ws)) : Fix H (upd H p (.frz o (.lst ws))) := ⟨fun b u h ho => by
  by_cases e : b = p
  · subst e
    rw [hp] at h; cases h; cases ho
  · rw [upd_ne e]; exact h⟩
theorem Sim.frz {X : KX} {env : PEnv} {σ : St} {H : Hp} {fp : Nat → List Addr} {p : Addr} {o : Obj} {ws : List V} (ok : X.Ok) (S : Sim X env σ H fp) (hp : H p = some (.lst ws)) (nf : ∀ i, p ∉ fp i) (nz : ¬ X.Z p) : Sim X env σ (upd H p (.frz o (.lst ws))) fp := by
  have fx := Fix.frz (o := o) hp
  refine ⟨S.len, fun i v h => ?_, S.emp, fun i k v h => ?_, S.qz, S.dis, S.nd, S.zd, fun b h => ?_, S.fx⟩
  · obtain ⟨w, e, r⟩ := S.own i v h
    exact ⟨w, e, r.fix ok fx fun b hb u hu => by rw [upd_ne (fun z => nf i (by rw [← z]; exact hb))]; exact hu⟩
  · obtain ⟨w, G, e, r, d⟩ := S.ro i k v h
    exact ⟨w, G, e, r.fix ok fx fun b hb u hu => by rw [upd_ne (fun z => nz (by rw [← z]; exact S.qz i v w G d b hb))]; exact hu, d⟩
  · obtain ⟨u, hu⟩ := S.zt b h
    exact ⟨u, by rw [upd_ne (fun z => nz (by rw [← z]; exact h))]; exact hu⟩
theorem g_frz (B : Bun Y X CX k src) (he : PE X e (RdB Y ee)) : PE X e (RdB Y (.frz ee)) := by
  have O := B.O
  refine PE.mono (pe_frz he) fun σ H Q ⟨env, fp, S, h⟩ => ?_
  unfold evB at h
  refine ⟨env, fp, S, h.bind.imp fun r env1 h1 w H1 fp1 P1 => ?_⟩
  obtain ⟨v, b⟩ := r
  cases v with
  | lst vs =>
    obtain ⟨hc, hΦ⟩ := h1.ite
    obtain ⟨hb, hi⟩ : b = true ∧ immL vs = true := by simpa using hc
    obtain ⟨F, vo⟩ := P1.vo hb
    obtain ⟨p, ws, G, rfl, hs, rl⟩ := rp_lst' vo.rp
    obtain ⟨hp, rfl⟩ := hs.own
    have nf : ∀ i, p ∉ fp1 i := vo.dis p List.mem_cons_self
    have nz := vo.z p List.mem_cons_self
    have fl : ∀ o, Rp true Y.X (upd H1 p (.frz o (.lst ws))) (.fls vs) (.ref p) [] := fun o => by
      unfold Rp
      exact ⟨p, ws, rfl, ⟨o, upd_same⟩, (RpL.imm (m' := true) rl hi).2.fix O.ok (Fix.frz hp) fun _ hb => by cases hb⟩
    have st : ∀ o, Stp fp H fp1 (upd H1 p (.frz o (.lst ws))) := fun o => by
      refine ⟨fun c u hu hn => ?_, P1.stp.new⟩
      have := P1.stp.frm c u hu hn
      rw [upd_ne (fun z => ?_)]
      · exact this
      · subst z
        rcases vo.new c List.mem_cons_self with ⟨j, hj⟩ | h0
        · exact hn j hj
        · rw [hu] at h0; cases h0
    exact ⟨p, ws, rfl, hp, fun o => hΦ _ _ fp1 ⟨P1.sim.frz O.ok hp nf nz, st o, (fun z => nomatch z), (fun z => nomatch z), ⟨[], (fl o).weak, fun _ hb => by cases hb⟩, fun _ => ⟨[], fl o, List.nodup_nil, (fun _ hb => by cases hb), (fun _ hb => by cases hb), fun _ hb => by cases hb⟩, fun _ z => nomatch z⟩⟩
  | _ => exact h1.elim
end
end DI
set_option Elab.async false
set_option linter.all false
set_option maxRecDepth 100000
set_option maxHeartbeats 1000000
/-! DIS45: a list of its own, times a number. -/
namespace DI
open PySem PySem.Spec PyProof.Rows L2
section
variable {Y : Cz} {X : Cx} {CX : CXT} {k : Nat} {src : Str → Stmt} {a b : Expr} {ea eb : E} {pos p' : Pos}
theorem g_rep (B : Bun Y X CX k src) (ha : PE X a (RdB Y ea)) (hb : PE X b (RdB Y eb)) : PE X (.BinOp a .Mult b pos) (RdB Y (.rep ea eb)) := by
  have O := B.O
  refine PE.mono (pe_op op_rep ha hb) fun σ H Q ⟨env, fp, S, h⟩ => ?_
  unfold evB at h
  refine ⟨env, fp, S, h.bind.imp fun ra env1 hra w1 H1 fp1 P1 => ?_⟩
  obtain ⟨hc, hra⟩ := hra.ite
  refine ⟨env1, fp1, P1.sim, (hra.adv P1.stp).bind.imp fun rb env2 hrb w2 H2 fp2 P2 => ?_⟩
  obtain ⟨r, er, hΦ⟩ := Hold.opt hrb
  obtain ⟨v, ev, rfl⟩ := map_true er
  obtain ⟨F, vo⟩ := P1.vo (and_l hc)
  have sm := P2.same (and_r hc)
  obtain ⟨G2, vb⟩ := P2.vb
  obtain ⟨va, fa⟩ := ra
  obtain ⟨vk, fk⟩ := rb
  unfold repI at ev
  split at ev
  · rename_i xs n e1 e2
    have e1 : va = .lst xs := e1
    have e2 : vk = .int n := e2
    subst e1; subst e2
    split at ev
    · rename_i hf
      cases ev
      obtain ⟨hi, h0, h1, h2⟩ := hf
      obtain ⟨p, ws, G, rfl, hs, rl⟩ := rp_lst' vo.rp
      obtain ⟨hp, rfl⟩ := hs.own
      have hl := rl.length
      have fx := P2.stp.fix P1.sim
      refine ⟨p, n, ws, rfl, rp_int' vb.rp, sm _ _ hp, by omega, by omega, ?_, fun q hq => ?_⟩
      · have : ws.length * n.toNat ≤ 1000 * 1000 := Nat.mul_le_mul (by omega) (by omega)
        rw [sizeLine_eq]
        omega
      · exact gives_of (e := .rep ea eb) O.ok P2.sim (P1.stp.trans P2.stp) (fun z => nomatch z) (fun z => nomatch z) (fun _ z => nomatch z) hΦ (.ref q) [q] _ (new_lst O.ok (rpL_rep ((RpL.imm (m' := true) rl hi).2.fix O.ok fx fun _ hb => by cases hb) n.toNat) hq)
    · cases ev
  · cases ev
end
end DI
set_option Elab.async false
set_option linter.all false
set_option maxRecDepth 100000
set_option maxHeartbeats 2000000
/-! PB: reasoning about the interpreter, for all laws. -/
namespace DI
open PySem L2
/-- what follows an evaluation -/
def R.elim {α γ : Type} (r : R α) (f : α → PEnv → γ) (g : Str → List PV → PEnv → γ) (z : γ) : γ :=
  match r with
  | .ok a env => f a env
  | .exc c fs env => g c fs env
  | .bad => z
section
variable {α β γ : Type} (f : α → PEnv → γ) (g : Str → List PV → PEnv → γ) (z : γ)
@[simp↓] theorem el_ok (a : α) (e : PEnv) : (R.ok a e).elim f g z = f a e := (rfl)
@[simp↓] theorem el_exc (c : Str) (fs : List PV) (e : PEnv) : (R.exc c fs e : R α).elim f g z = g c fs e := (rfl)
@[simp↓] theorem el_bad : (R.bad : R α).elim f g z = z := (rfl)
theorem el_bind (r : R β) (h : β → PEnv → R α) : (r.bind h).elim f g z = r.elim (fun a e => (h a e).elim f g z) g z := by cases r <;> rfl
@[simp↓] theorem el_ite (c : Prop) [Decidable c] (x y : R α) : (if c then x else y).elim f g z = if c then x.elim f g z else y.elim f g z := by split <;> rfl
theorem el_opt (o : Option α) (e : PEnv) : (opt o e).elim f g z = (match o with | some a => f a e | none => z) := by cases o <;> rfl
theorem el_omap (o : Option β) (h : β → α) (e : PEnv) : (opt (o.map h) e).elim f g z = (match o with | some a => f (h a) e | none => z) := by cases o <;> rfl
theorem st_elim (r : R α) (h : α → PEnv → SR) : r.st h = r.elim h .exc .bad := by cases r <;> rfl
end
/-- what is in it -/
def oget {α : Type} [Inhabited α] (o : Option α) : α := o.getD default
@[simp] theorem oget_some {α : Type} [Inhabited α] (a : α) : oget (some a) = a := (rfl)
instance : Inhabited Def := ⟨⟨0, [], 0, []⟩⟩
def negI : PV → Option PV
  | .int i => some (.int (-i))
  | _ => none
@[simp] theorem negI_int (i : Int) : negI (.int i) = some (.int (-i)) := (rfl)
/-- a truth value that is there -/
def blO : Option PV → Option Bool
  | some (.bl b) => some b
  | _ => none
@[simp] theorem blO_bl (b : Bool) : blO (some (.bl b)) = some b := (rfl)
def fldI (p : Prog) (s : Option PV) (n : Str) : Option PV :=
  match s with
  | some (.err c fs) => match p.cls.lookup c with
    | some (_, fl) => match (fl.zip fs).lookup n with
      | some v => if v.imm then some v else none
      | none => none
    | none => none
  | _ => none
def erS : Option Slot → Option PV
  | some (.ro true v) => some v
  | _ => none
@[simp] theorem erS_ro (v : PV) : erS (some (.ro true v)) = some v := (rfl)
theorem erS_some {s : Option Slot} {v : PV} (h : erS s = some v) : s = some (.ro true v) := by
  cases s with
  | none => cases h
  | some s => cases s with
    | ro k w => cases k with
      | true => cases h; rfl
      | false => cases h
    | _ => cases h
def isEI (p : Prog) (s : Option PV) (ds : List Str) : Option PV :=
  match s with
  | some (.err c _) => if (p.cls.lookup c).isSome then some (.bl (isUnder p c ds)) else none
  | _ => none
/-- a list of its own, from here on nobody changes it -/
def frI : PV × Bool → Option PV
  | (.lst vs, b) => if b && immL vs then some (.fls vs) else none
  | _ => none
@[simp] theorem frI_lst (vs : List PV) (b : Bool) : frI (.lst vs, b) = if b && immL vs then some (.fls vs) else none := (rfl)
def rvI : PV → Option PV
  | .tup vs => if immL vs && decide (vs.length ≤ sizeLine) then some (.tup vs.reverse) else none
  | .lst vs => if immL vs && decide (vs.length ≤ sizeLine) then some (.lst vs.reverse) else none
  | _ => none
@[simp] theorem rvI_tup (vs : List PV) : rvI (.tup vs) = if immL vs && decide (vs.length ≤ sizeLine) then some (.tup vs.reverse) else none := (rfl)
@[simp] theorem rvI_lst (vs : List PV) : rvI (.lst vs) = if immL vs && decide (vs.length ≤ sizeLine) then some (.lst vs.reverse) else none := (rfl)
/-- no exception out of a suite -/
def SR.nox : SR → SR
  | .exc _ _ _ => .bad
  | r => r
def CR.isOk : CR → Bool
  | .ok _ _ => true
  | _ => false
def CR.isExc : CR → Bool
  | .exc _ _ _ => true
  | _ => false
def CR.val : CR → PV
  | .ok v _ => v
  | _ => .non
def CR.outs : CR → List PV
  | .ok _ os => os
  | .exc _ _ os => os
  | _ => []
def CR.cls : CR → Str
  | .exc c _ _ => c
  | _ => ""
def CR.fs : CR → List PV
  | .exc _ fs _ => fs
  | _ => []
section
variable (v : PV) (os fs : List PV) (c : Str)
@[simp] theorem cr_isOk1 : (CR.ok v os).isOk = true := (rfl)
@[simp] theorem cr_isOk2 : (CR.exc c fs os).isOk = false := (rfl)
@[simp] theorem cr_isExc : (CR.exc c fs os).isExc = true := (rfl)
@[simp] theorem cr_val : (CR.ok v os).val = v := (rfl)
@[simp] theorem cr_outs1 : (CR.ok v os).outs = os := (rfl)
@[simp] theorem cr_outs2 : (CR.exc c fs os).outs = os := (rfl)
@[simp] theorem cr_cls : (CR.exc c fs os).cls = c := (rfl)
@[simp] theorem cr_fs : (CR.exc c fs os).fs = fs := (rfl)
variable (q : Prop) [Decidable q] (a b : CR)
@[simp] theorem cr_i1 : (if q then a else b).isOk = if q then a.isOk else b.isOk := by split <;> rfl
@[simp] theorem cr_i2 : (if q then a else b).isExc = if q then a.isExc else b.isExc := by split <;> rfl
@[simp] theorem cr_i3 : (if q then a else b).val = if q then a.val else b.val := by split <;> rfl
@[simp] theorem cr_i4 : (if q then a else b).outs = if q then a.outs else b.outs := by split <;> rfl
@[simp] theorem cr_i5 : (if q then a else b).cls = if q then a.cls else b.cls := by split <;> rfl
@[simp] theorem cr_i6 : (if q then a else b).fs = if q then a.fs else b.fs := by split <;> rfl
end
/-- what follows a call -/
def CR.on {γ : Type} (r : CR) (f : PV → List PV → γ) (g : Str → List PV → List PV → γ) (z : γ) : γ :=
  match r with
  | .ok v os => f v os
  | .exc c fs os => g c fs os
  | .bad => z
@[simp↓] theorem CR_on {γ : Type} (r : CR) (f : PV → List PV → γ) (g : Str → List PV → List PV → γ) (z : γ) : r.on f g z = if r.isOk = true then f r.val r.outs else if r.isExc = true then g r.cls r.fs r.outs else z := by cases r <;> rfl
section
variable (p : Prog) (cf : Str → List PV → CR) (fu : Nat)
theorem evB_non0  (env : PEnv) : evB p cf (.non ) env = (.ok (.non, true) env) := rfl
theorem evB_bl0 (b : Bool) (env : PEnv) : evB p cf (.bl b) env = (.ok (.bl b, true) env) := rfl
theorem evB_int0 (i : Int) (env : PEnv) : evB p cf (.int i) env = (.ok (.int i, true) env) := rfl
theorem evB_str0 (x : Str) (env : PEnv) : evB p cf (.str x) env = (.ok (.str x, true) env) := rfl
theorem evB_var0 (i : Nat) (env : PEnv) : evB p cf (.var i) env = (match getS env i with
    | some v => .ok (v, v.imm) env
    | none => .bad) := rfl
theorem evB_glob0 (x : Str) (env : PEnv) : evB p cf (.glob x) env = (match p.globs.lookup x with
    | some v => .ok (v, true) env
    | none => .bad) := rfl
theorem evB_tup0 (es : List E) (env : PEnv) : evB p cf (.tup es) env = ((evO p cf es env).bind fun vs env => if vs.length ≤ sizeLine then .ok (.tup vs, true) env else .bad) := rfl
theorem evB_lst0 (es : List E) (env : PEnv) : evB p cf (.lst es) env = ((evO p cf es env).bind fun vs env => if vs.length ≤ sizeLine then .ok (.lst vs, true) env else .bad) := rfl
theorem evB_bin0 (op : Operator) (a : E) (b : E) (env : PEnv) : evB p cf (.bin op a b) env = (two (evB p cf a env) b.quiet (evB p cf b) (binI op)) := rfl
theorem evB_neg0 (a : E) (env : PEnv) : evB p cf (.neg a) env = ((evB p cf a env).bind fun v env => match v.1 with
    | .int i => .ok (.int (-i), true) env
    | _ => .bad) := rfl
theorem evB_not0 (a : E) (env : PEnv) : evB p cf (.not a) env = ((evB p cf a env).bind fun v env => opt ((truthI v.1).map fun b => (.bl (!b), true)) env) := rfl
theorem evB_cmp0 (op : CmpOp) (a : E) (b : E) (env : PEnv) : evB p cf (.cmp op a b) env = (two (evB p cf a env) b.quiet (evB p cf b) (cmpI op)) := rfl
theorem evB_chain0 (op : CmpOp) (op' : CmpOp) (a : E) (b : E) (c : E) (env : PEnv) : evB p cf (.chain op op' a b c) env = ((evB p cf a env).bind fun va env => if va.1.imm then (evB p cf b env).bind fun vb env =>
      if vb.1.imm then match cmpI op va.1 vb.1 with
        | some (.bl true) => (evB p cf c env).bind fun vc env => opt ((cmpI op' vb.1 vc.1).map fun v => (v, true)) env
        | some (.bl false) => .ok (.bl false, true) env
        | _ => .bad
      else .bad
    else .bad) := rfl
theorem evB_isN0 (a : E) (env : PEnv) : evB p cf (.isN a) env = ((evB p cf a env).bind fun v env => .ok (.bl v.1.isNon, true) env) := rfl
theorem evB_isNN0 (a : E) (env : PEnv) : evB p cf (.isNN a) env = ((evB p cf a env).bind fun v env => .ok (.bl (!v.1.isNon), true) env) := rfl
theorem evB_and0 (a : E) (b : E) (env : PEnv) : evB p cf (.and a b) env = ((evB p cf a env).bind fun v env => match truthI v.1 with
    | some true => (evB p cf b env).bind fun w env => if w.1.imm || w.2 then .ok (w.1, true) env else .bad
    | some false => if v.1.imm then .ok (v.1, true) env else .bad
    | none => .bad) := rfl
theorem evB_or0 (a : E) (b : E) (env : PEnv) : evB p cf (.or a b) env = ((evB p cf a env).bind fun v env => match truthI v.1 with
    | some true => if v.1.imm then .ok (v.1, true) env else .bad
    | some false => (evB p cf b env).bind fun w env => if w.1.imm || w.2 then .ok (w.1, true) env else .bad
    | none => .bad) := rfl
theorem evB_ife0 (c : E) (a : E) (b : E) (env : PEnv) : evB p cf (.ife c a b) env = ((evB p cf c env).bind fun v env => match truthI v.1 with
    | some true => (evB p cf a env).bind fun w env => (ownE a w env).bind fun w env => .ok (w, true) env
    | some false => (evB p cf b env).bind fun w env => (ownE b w env).bind fun w env => .ok (w, true) env
    | none => .bad) := rfl
theorem evB_ix0 (a : E) (k : E) (env : PEnv) : evB p cf (.ix a k) env = ((evB p cf a env).bind fun va env => if va.1.imm || va.2 || k.quiet then (evB p cf k env).bind fun vk env => match ixI va.1 vk.1 with
      | some v => .ok (v, v.imm) env
      | none => .bad
    else .bad) := rfl
theorem evB_sl0 (a : E) (l : E) (h : E) (env : PEnv) : evB p cf (.sl a l h) env = ((evB p cf a env).bind fun va env => if va.1.imm || (l.quiet && h.quiet) then (evB p cf l env).bind fun vl env => match partE l vl.1 with
      | some lo => (evB p cf h env).bind fun vh env => match partE h vh.1 with
        | some hi => opt ((slI va.1 lo hi).map fun v => (v, true)) env
        | none => .bad
      | none => .bad
    else .bad) := rfl
theorem evB_call0 (f : Str) (es : List E) (env : PEnv) : evB p cf (.call f es) env = (match p.defs.lookup f with
    | some d => (evC p cf d.muts es env).bind fun as env => callR d (cf f) as env
    | none => .bad) := rfl
theorem evB_callk0 (f : Str) (perm : List Nat) (es : List E) (ks : List E) (env : PEnv) : evB p cf (.callk f perm es ks) env = (match p.defs.lookup f with
    | some d => (evA p cf es env).bind fun as env => if as.all (fun v => v.imm) then (evA p cf ks env).bind fun bs env => if bs.all (fun v => v.imm) then
        match perm.mapM (fun j => (as ++ bs)[j]?) with
        | some vs => match cf f vs with
          | .ok v _ => .ok (v, true) env
          | .exc c fs _ => .exc c fs env
          | .bad => .bad
        | none => .bad
      else .bad else .bad
    | none => .bad) := rfl
theorem evB_bi0 (f : BI) (es : List E) (env : PEnv) : evB p cf (.bi f es) env = ((evA p cf es env).bind fun vs env => opt ((biI f vs).map fun v => (v, true)) env) := rfl
theorem evB_pop0 (o : E) (es : List E) (env : PEnv) : evB p cf (.pop o es) env = ((pathR p cf o env).bind fun a env => if lstAt env a.1 a.2 && (a.2.isEmpty || quietL es) then (evA p cf es env).bind fun vs env =>
      (mutP env a.1 a.2 (popI vs)).bind fun v env => .ok (v, true) env
    else .bad) := rfl
theorem evB_tupI0 (it : It) (env : PEnv) : evB p cf (.tupI it) env = ((itI p cf it env).bind fun a env => if a.2.isEmpty && immL a.1 && decide (a.1.length ≤ 16777216) then .ok (.tup a.1, true) env else .bad) := rfl
theorem evB_lstI0 (it : It) (env : PEnv) : evB p cf (.lstI it) env = ((itI p cf it env).bind fun a env => if a.2.isEmpty && immL a.1 && decide (a.1.length ≤ 16777216) then .ok (.lst a.1, true) env else .bad) := rfl
theorem evB_isi0 (a : E) (ts : List Ty) (env : PEnv) : evB p cf (.isi a ts) env = ((evB p cf a env).bind fun v env => opt ((isiI p v.1 ts).map fun b => (.bl b, true)) env) := rfl
theorem evB_fld0 (i : Nat) (f : Str) (env : PEnv) : evB p cf (.fld i f) env = (match env[i]? with
    | some (.ro true (.err c fs)) => match p.cls.lookup c with
      | some (_, fl) => match (fl.zip fs).lookup f with
        | some v => if v.imm then .ok (v, true) env else .bad
        | none => .bad
      | none => .bad
    | _ => .bad) := rfl
theorem evB_isE0 (i : Nat) (ds : List Str) (env : PEnv) : evB p cf (.isE i ds) env = (match env[i]? with
    | some (.ro true (.err c _)) => if (p.cls.lookup c).isSome then .ok (.bl (isUnder p c ds), true) env else .bad
    | _ => .bad) := rfl
theorem evB_binv0 (op : Operator) (i : Nat) (b : E) (env : PEnv) : evB p cf (.binv op i b) env = (match getS env i with
    | some _ => (evB p cf b env).bind fun y env2 => match getS env2 i with
      | some v => opt ((binI op v y.1).map fun v => (v, true)) env2
      | none => .bad
    | none => .bad) := rfl
theorem evB_rep0 (a k : E) (env : PEnv) : evB p cf (.rep a k) env = ((evB p cf a env).bind fun ra env => if ra.2 && k.quiet then (evB p cf k env).bind fun rk env => opt ((repI ra.1 rk.1).map fun v => (v, true)) env else .bad) := rfl
theorem evB_frz0 (a : E) (env : PEnv) : evB p cf (.frz a) env = ((evB p cf a env).bind fun r env => match r.1 with
    | .lst vs => if r.2 && immL vs then .ok (.fls vs, true) env else .bad
    | _ => .bad) := rfl
theorem evB_ixv0 (i : Nat) (b : E) (env : PEnv) : evB p cf (.ixv i b) env = (match getS env i with
    | some _ => (evB p cf b env).bind fun y env2 => match getS env2 i with
      | some v => opt ((ixV v y.1).map fun v => (v, true)) env2
      | none => .bad
    | none => .bad) := rfl
theorem evB_rvs0 (a : E) (env : PEnv) : evB p cf (.rvs a) env = ((evB p cf a env).bind fun r env => match r.1 with
    | .tup vs => if immL vs && decide (vs.length ≤ sizeLine) then .ok (.tup vs.reverse, true) env else .bad
    | .lst vs => if immL vs && decide (vs.length ≤ sizeLine) then .ok (.lst vs.reverse, true) env else .bad
    | _ => .bad) := rfl
theorem evB_chn30 (o1 o2 o3 : CmpOp) (a b c d : E) (env : PEnv) : evB p cf (.chn3 o1 o2 o3 a b c d) env = ((evB p cf a env).bind fun va env => if va.1.imm then (evB p cf b env).bind fun vb env =>
      if vb.1.imm then match cmpI o1 va.1 vb.1 with
        | some (.bl true) => (evB p cf c env).bind fun vc env => if vc.1.imm then match cmpI o2 vb.1 vc.1 with
          | some (.bl true) => (evB p cf d env).bind fun vd env => opt ((cmpI o3 vc.1 vd.1).map fun v => (v, true)) env
          | some (.bl false) => .ok (.bl false, true) env
          | _ => .bad
          else .bad
        | some (.bl false) => .ok (.bl false, true) env
        | _ => .bad
      else .bad
    else .bad) := rfl
theorem evB_dict0 (es : List E) (env : PEnv) : evB p cf (.dict es) env = ((evO p cf es env).bind fun vs env => opt ((dictOf vs [] []).map fun v => (v, true)) env) := rfl
theorem exS_asg0 (i : Nat) (e : E) (env : PEnv) : exS p cf fu (.asg (.v i) e) env = ((evE p cf e env).st fun v env => match bindT true (.v i) v env with
    | some env' => .nx env'
    | none => .bad) := rfl
theorem exS_asgt0 (ts : List Tg) (e : E) (env : PEnv) : exS p cf fu (.asg (.t ts) e) env = ((evB p cf e env).st fun r env => match bindT false (.t ts) r.1 env with
    | some env' => .nx env'
    | none => .bad) := rfl
theorem exS_setix0 (o : E) (k : E) (e : E) (env : PEnv) : exS p cf fu (.setix o k e) env = ((evE p cf e env).st fun v env => (pathR p cf o env).st fun a env => if k.quiet && o.quiet then (evB p cf k env).st fun vk env =>
      (mutP env a.1 a.2 (fun w => (setI w vk.1 v).map fun w' => (w', ()))).st fun _ env => .nx env
    else .bad) := rfl
theorem exS_aug0 (i : Nat) (op : Operator) (e : E) (env : PEnv) : exS p cf fu (.aug i op e) env = (match getS env i with
    | some v => (evB p cf e env).st fun r env => match augI op v r.1 with
        | some w => match bindT true (.v i) w env with
          | some env' => .nx env'
          | none => .bad
        | none => .bad
    | none => .bad) := rfl
theorem exS_augix0 (o : E) (k : E) (op : Operator) (e : E) (env : PEnv) : exS p cf fu (.augix o k op e) env = (if k.quiet && o.quiet && e.quiet then (pathR p cf o env).st fun a env => (evB p cf k env).st fun vk env => match getM env a.1 with
      | some v => match getP v a.2 with
        | some w => match ixI w vk.1 with
          | some old => if w.isBox then (evB p cf e env).st fun r env => match augI op old r.1 with
              | some new => (mutP env a.1 a.2 (fun w => (setI w vk.1 new).map fun w' => (w', ()))).st fun _ env => .nx env
              | none => .bad
            else .bad
          | none => .bad
        | none => .bad
      | none => .bad
    else .bad) := rfl
theorem exS_ex0 (e : E) (env : PEnv) : exS p cf fu (.ex e) env = ((evB p cf e env).st fun _ env => .nx env) := rfl
theorem exS_ret0 (e : E) (env : PEnv) : exS p cf fu (.ret e) env = ((evE p cf e env).st fun v env => .ret v env) := rfl
theorem exS_ife0 (c : E) (a : List S) (b : List S) (env : PEnv) : exS p cf fu (.ife c a b) env = ((evB p cf c env).st fun v env => match truthI v.1 with
    | some true => exSs p cf fu a env
    | some false => exSs p cf fu b env
    | none => .bad) := rfl
theorem exS_raise0 (c : Str) (es : List E) (env : PEnv) : exS p cf fu (.raise c es) env = ((evO p cf es env).st fun vs env => if knows p c && immL vs then .exc c vs env else .bad) := rfl
theorem evO_cons0 (e : E) (es : List E) (env : PEnv) : evO p cf (e :: es) env = (evB p cf e env).bind fun r env => (ownE e r env).bind fun v env => (evO p cf es env).bind fun vs env => .ok (v :: vs) env := rfl
theorem evA_cons0 (e : E) (es : List E) (env : PEnv) : evA p cf (e :: es) env = (evB p cf e env).bind fun r env => if r.1.imm || r.2 || quietL es then (evA p cf es env).bind fun vs env => .ok (r.1 :: vs) env else .bad := rfl
theorem evC_cons0 (m : Bool) (ms : List Bool) (e : E) (es : List E) (env : PEnv) : evC p cf (m :: ms) (e :: es) env = (match isBy m e env with | some i => (evC p cf ms es env).bind fun as env => .ok (.by i :: as) env | none => (evB p cf e env).bind fun r env => if (r.1.imm || r.2 || quietL es) && (!m || r.1.imm) then (evC p cf ms es env).bind fun as env => .ok (.v r.1 r.2 e.root :: as) env else .bad) := rfl
theorem evCs_cons0 (c : E) (cs : List E) (env : PEnv) : evCs p cf (c :: cs) env = ((evB p cf c env).bind fun v env => match truthI v.1 with | some true => evCs p cf cs env | some false => .ok false env | none => .bad) := rfl
theorem itI_seq0 (e : E) (env : PEnv) : itI p cf (.seq e) env = ((evB p cf e env).bind fun r env => match itemsI r.1, locksOf e r with | some vs, some l => .ok (vs, l) env | _, _ => .bad) := rfl
theorem itI_range0 (es : List E) (env : PEnv) : itI p cf (.range es) env = ((evA p cf es env).bind fun vs env => opt ((rangeI vs).map fun xs => (xs, [])) env) := rfl
theorem itI_enum0 (e : E) (env : PEnv) : itI p cf (.enum e) env = ((evB p cf e env).bind fun r env => match itemsI r.1, locksOf e r with | some vs, some l => .ok (enumL 0 vs, l) env | _, _ => .bad) := rfl
theorem itI_zip0 (a b : E) (env : PEnv) : itI p cf (.zip a b) env = ((evB p cf a env).bind fun r env => if r.1.imm || r.2 || b.quiet then (evB p cf b env).bind fun q env => match zipI r.1 q.1, locksOf a r, locksOf b q with | some vs, some l, some k => .ok (vs, l ++ k) env | _, _, _ => .bad else .bad) := rfl
theorem itI_rev0 (e : E) (env : PEnv) : itI p cf (.rev e) env = ((evB p cf e env).bind fun r env => match seqI r.1, locksOf e r with | some vs, some l => .ok (vs.reverse, l) env | _, _ => .bad) := rfl
theorem pathR_var0 (i : Nat) (env : PEnv) : pathR p cf (.var i) env = (if (getM env i).isSome then .ok (i, []) env else .bad) := rfl
theorem pathR_ix0 (a k : E) (env : PEnv) : pathR p cf (.ix a k) env = (if k.quiet then (pathR p cf a env).bind fun x env => (evB p cf k env).bind fun vk env => if vk.1.imm && pathOk env x.1 x.2 vk.1 then .ok (x.1, x.2 ++ [vk.1]) env else .bad else .bad) := rfl
theorem evB_fldI (i : Nat) (n : Str) (env : PEnv) : evB p cf (.fld i n) env = (match fldI p (erS env[i]?) n with | some v => .ok (v, true) env | none => .bad) := by
  rw [evB_fld0]
  cases env[i]? with
  | none => rfl
  | some s => cases s with
    | ro k v => cases k with
      | false => rfl
      | true => cases v with
        | err c fs =>
          simp only [erS, fldI]
          cases p.cls.lookup c with
          | none => rfl
          | some x =>
            obtain ⟨a, fl⟩ := x
            simp only []
            cases (fl.zip fs).lookup n with
            | none => rfl
            | some v => simp only []; split <;> rfl
        | _ => rfl
    | _ => rfl
theorem evB_isEI (i : Nat) (ds : List Str) (env : PEnv) : evB p cf (.isE i ds) env = (match isEI p (erS env[i]?) ds with | some v => .ok (v, true) env | none => .bad) := by
  rw [evB_isE0]
  cases env[i]? with
  | none => rfl
  | some s => cases s with
    | ro k v => cases k with
      | false => rfl
      | true => cases v with
        | err c fs => simp only [erS, isEI]; split <;> rfl
        | _ => rfl
    | _ => rfl
@[simp↓] theorem ev_non {γ : Type}  (env : PEnv) (f : PV × Bool → PEnv → γ) (g : Str → List PV → PEnv → γ) (z : γ) : (evB p cf (.non) env).elim f g z = f (.non, true) env := by
  exact (rfl)
@[simp↓] theorem ev_bl {γ : Type} (b : Bool) (env : PEnv) (f : PV × Bool → PEnv → γ) (g : Str → List PV → PEnv → γ) (z : γ) : (evB p cf (.bl b) env).elim f g z = f (.bl b, true) env := by
  exact (rfl)
@[simp↓] theorem ev_int {γ : Type} (i : Int) (env : PEnv) (f : PV × Bool → PEnv → γ) (g : Str → List PV → PEnv → γ) (z : γ) : (evB p cf (.int i) env).elim f g z = f (.int i, true) env := by
  exact (rfl)
@[simp↓] theorem ev_str {γ : Type} (x : Str) (env : PEnv) (f : PV × Bool → PEnv → γ) (g : Str → List PV → PEnv → γ) (z : γ) : (evB p cf (.str x) env).elim f g z = f (.str x, true) env := by
  exact (rfl)
@[simp↓] theorem ev_var {γ : Type} (i : Nat) (env : PEnv) (f : PV × Bool → PEnv → γ) (g : Str → List PV → PEnv → γ) (z : γ) : (evB p cf (.var i) env).elim f g z = (if (getS env i).isSome = true then (fun v => f (v, v.imm) env) (oget (getS env i)) else z) := by
  rw [evB_var0]; cases getS env i <;> rfl
@[simp↓] theorem ev_glob {γ : Type} (x : Str) (env : PEnv) (f : PV × Bool → PEnv → γ) (g : Str → List PV → PEnv → γ) (z : γ) : (evB p cf (.glob x) env).elim f g z = (if (p.globs.lookup x).isSome = true then (fun v => f (v, true) env) (oget (p.globs.lookup x)) else z) := by
  rw [evB_glob0]; cases p.globs.lookup x <;> rfl
@[simp↓] theorem ev_tup {γ : Type} (es : List E) (env : PEnv) (f : PV × Bool → PEnv → γ) (g : Str → List PV → PEnv → γ) (z : γ) : (evB p cf (.tup es) env).elim f g z = (evO p cf es env).elim (fun vs env1 => if vs.length ≤ sizeLine then f (.tup vs, true) env1 else z) g z := by
  simp only [evB_tup0, el_bind, el_ite, el_omap, el_ok, el_exc, el_bad]
@[simp↓] theorem ev_lst {γ : Type} (es : List E) (env : PEnv) (f : PV × Bool → PEnv → γ) (g : Str → List PV → PEnv → γ) (z : γ) : (evB p cf (.lst es) env).elim f g z = (evO p cf es env).elim (fun vs env1 => if vs.length ≤ sizeLine then f (.lst vs, true) env1 else z) g z := by
  simp only [evB_lst0, el_bind, el_ite, el_omap, el_ok, el_exc, el_bad]
@[simp↓] theorem ev_bin {γ : Type} (op : Operator) (a b : E) (env : PEnv) (f : PV × Bool → PEnv → γ) (g : Str → List PV → PEnv → γ) (z : γ) : (evB p cf (.bin op a b) env).elim f g z = (evB p cf a env).elim (fun x env1 => if x.1.imm || x.2 || b.quiet then (evB p cf b env1).elim (fun y env2 => (if (binI op x.1 y.1).isSome = true then (fun v => f (v, true) env2) (oget (binI op x.1 y.1)) else z)) g z else z) g z := by
  simp only [evB_bin0, two, el_bind, el_ite, el_bad]; congr 1; funext x e1; congr 1; congr 1; funext y e2; cases binI op x.1 y.1 <;> rfl
@[simp↓] theorem ev_cmp {γ : Type} (op : CmpOp) (a b : E) (env : PEnv) (f : PV × Bool → PEnv → γ) (g : Str → List PV → PEnv → γ) (z : γ) : (evB p cf (.cmp op a b) env).elim f g z = (evB p cf a env).elim (fun x env1 => if x.1.imm || x.2 || b.quiet then (evB p cf b env1).elim (fun y env2 => (if (cmpI op x.1 y.1).isSome = true then (fun v => f (v, true) env2) (oget (cmpI op x.1 y.1)) else z)) g z else z) g z := by
  simp only [evB_cmp0, two, el_bind, el_ite, el_bad]; congr 1; funext x e1; congr 1; congr 1; funext y e2; cases cmpI op x.1 y.1 <;> rfl
@[simp↓] theorem ev_neg {γ : Type} (a : E) (env : PEnv) (f : PV × Bool → PEnv → γ) (g : Str → List PV → PEnv → γ) (z : γ) : (evB p cf (.neg a) env).elim f g z = (evB p cf a env).elim (fun v env1 => (if (negI v.1).isSome = true then (fun w => f (w, true) env1) (oget (negI v.1)) else z)) g z := by
  rw [evB_neg0, el_bind]; congr 1; funext v e; cases v.1 <;> rfl
@[simp↓] theorem ev_not {γ : Type} (a : E) (env : PEnv) (f : PV × Bool → PEnv → γ) (g : Str → List PV → PEnv → γ) (z : γ) : (evB p cf (.not a) env).elim f g z = (evB p cf a env).elim (fun v env1 => (if (truthI v.1).isSome = true then (fun b => f (.bl (!b), true) env1) (oget (truthI v.1)) else z)) g z := by
  simp only [evB_not0, el_bind]; congr 1; funext v e; cases truthI v.1 <;> rfl
@[simp↓] theorem ev_isN {γ : Type} (a : E) (env : PEnv) (f : PV × Bool → PEnv → γ) (g : Str → List PV → PEnv → γ) (z : γ) : (evB p cf (.isN a) env).elim f g z = (evB p cf a env).elim (fun v env1 => f (.bl v.1.isNon, true) env1) g z := by
  simp only [evB_isN0, el_bind, el_ite, el_omap, el_ok, el_exc, el_bad]
@[simp↓] theorem ev_isNN {γ : Type} (a : E) (env : PEnv) (f : PV × Bool → PEnv → γ) (g : Str → List PV → PEnv → γ) (z : γ) : (evB p cf (.isNN a) env).elim f g z = (evB p cf a env).elim (fun v env1 => f (.bl (!v.1.isNon), true) env1) g z := by
  simp only [evB_isNN0, el_bind, el_ite, el_omap, el_ok, el_exc, el_bad]
@[simp↓] theorem ev_chain {γ : Type} (op op' : CmpOp) (a b c : E) (env : PEnv) (f : PV × Bool → PEnv → γ) (g : Str → List PV → PEnv → γ) (z : γ) : (evB p cf (.chain op op' a b c) env).elim f g z = (evB p cf a env).elim (fun va env1 => if va.1.imm then (evB p cf b env1).elim (fun vb env2 => if vb.1.imm then (if (blO (cmpI op va.1 vb.1)).isSome = true then (fun t => if t = true then (evB p cf c env2).elim (fun vc env3 => (if (cmpI op' vb.1 vc.1).isSome = true then (fun v => f (v, true) env3) (oget (cmpI op' vb.1 vc.1)) else z)) g z else f (.bl false, true) env2) (oget (blO (cmpI op va.1 vb.1))) else z) else z) g z else z) g z := by
  simp only [evB_chain0, el_bind, el_ite, el_bad]; congr 1; funext va e1; congr 1; congr 1; funext vb e2; congr 1; split
  · rename_i q; rw [q]; simp only [el_bind, blO, oget_some, Option.isSome_some, if_pos]; congr 1; funext vc e3; cases cmpI op' vb.1 vc.1 <;> rfl
  · rename_i q; rw [q]; rfl
  · rename_i q1 q2; rw [el_bad, if_neg]; intro h; unfold blO at h; split at h
    · rename_i b q; cases b
      · exact q2 q
      · exact q1 q
    · cases h
@[simp↓] theorem ev_and {γ : Type} (a b : E) (env : PEnv) (f : PV × Bool → PEnv → γ) (g : Str → List PV → PEnv → γ) (z : γ) : (evB p cf (.and a b) env).elim f g z = (evB p cf a env).elim (fun v env1 => (if (truthI v.1).isSome = true then (if oget (truthI v.1) = true then (evB p cf b env1).elim (fun w env2 => if w.1.imm || w.2 then f (w.1, true) env2 else z) g z else if v.1.imm then f (v.1, true) env1 else z) else z)) g z := by
  simp only [evB_and0, el_bind]; congr 1; funext v e; cases truthI v.1 with
  | none => rfl
  | some x => cases x <;> simp only [oget_some, Option.isSome_some, if_pos, el_bind, el_ite, el_omap, el_ok, el_exc, el_bad]; rfl
@[simp↓] theorem ev_or {γ : Type} (a b : E) (env : PEnv) (f : PV × Bool → PEnv → γ) (g : Str → List PV → PEnv → γ) (z : γ) : (evB p cf (.or a b) env).elim f g z = (evB p cf a env).elim (fun v env1 => (if (truthI v.1).isSome = true then (if oget (truthI v.1) = true then if v.1.imm then f (v.1, true) env1 else z else (evB p cf b env1).elim (fun w env2 => if w.1.imm || w.2 then f (w.1, true) env2 else z) g z) else z)) g z := by
  simp only [evB_or0, el_bind]; congr 1; funext v e; cases truthI v.1 with
  | none => rfl
  | some x => cases x <;> simp only [oget_some, Option.isSome_some, if_pos, el_bind, el_ite, el_omap, el_ok, el_exc, el_bad]; rfl
@[simp↓] theorem ev_ife {γ : Type} (c a b : E) (env : PEnv) (f : PV × Bool → PEnv → γ) (g : Str → List PV → PEnv → γ) (z : γ) : (evB p cf (.ife c a b) env).elim f g z = (evB p cf c env).elim (fun v env1 => (if (truthI v.1).isSome = true then (if oget (truthI v.1) = true then (evB p cf a env1).elim (fun w env2 => (ownE a w env2).elim (fun w env3 => f (w, true) env3) g z) g z else (evB p cf b env1).elim (fun w env2 => (ownE b w env2).elim (fun w env3 => f (w, true) env3) g z) g z) else z)) g z := by
  simp only [evB_ife0, el_bind]; congr 1; funext v e; cases truthI v.1 with
  | none => rfl
  | some x => cases x <;> simp only [oget_some, Option.isSome_some, if_pos, el_bind, el_ite, el_omap, el_ok, el_exc, el_bad]; rfl
@[simp↓] theorem ev_ix {γ : Type} (a k : E) (env : PEnv) (f : PV × Bool → PEnv → γ) (g : Str → List PV → PEnv → γ) (z : γ) : (evB p cf (.ix a k) env).elim f g z = (evB p cf a env).elim (fun va env1 => if va.1.imm || va.2 || k.quiet then (evB p cf k env1).elim (fun vk env2 => (if (ixI va.1 vk.1).isSome = true then (fun v => f (v, v.imm) env2) (oget (ixI va.1 vk.1)) else z)) g z else z) g z := by
  simp only [evB_ix0, el_bind, el_ite, el_bad]; congr 1; funext va e1; congr 1; congr 1; funext vk e2; cases ixI va.1 vk.1 <;> rfl
@[simp↓] theorem ev_sl {γ : Type} (a l h : E) (env : PEnv) (f : PV × Bool → PEnv → γ) (g : Str → List PV → PEnv → γ) (z : γ) : (evB p cf (.sl a l h) env).elim f g z = (evB p cf a env).elim (fun va env1 => if va.1.imm || (l.quiet && h.quiet) then (evB p cf l env1).elim (fun vl env2 => (if (partE l vl.1).isSome = true then (fun lo => (evB p cf h env2).elim (fun vh env3 => (if (partE h vh.1).isSome = true then (fun hi => (if (slI va.1 lo hi).isSome = true then (fun v => f (v, true) env3) (oget (slI va.1 lo hi)) else z)) (oget (partE h vh.1)) else z)) g z) (oget (partE l vl.1)) else z)) g z else z) g z := by
  simp only [evB_sl0, el_bind, el_ite, el_bad]; congr 1; funext va e1; congr 1; congr 1; funext vl e2; cases partE l vl.1 with
  | none => rfl
  | some lo => simp only [el_bind, oget_some, Option.isSome_some, if_pos]; congr 1; funext vh e3; cases partE h vh.1 with
    | none => rfl
    | some hi => simp only [oget_some, Option.isSome_some, if_pos]; cases slI va.1 lo hi <;> rfl
@[simp↓] theorem ev_call {γ : Type} (n : Str) (es : List E) (env : PEnv) (f : PV × Bool → PEnv → γ) (g : Str → List PV → PEnv → γ) (z : γ) : (evB p cf (.call n es) env).elim f g z = (if (p.defs.lookup n).isSome = true then (fun d => (evC p cf d.muts es env).elim (fun as env1 => (callR d (cf n) as env1).elim f g z) g z) (oget (p.defs.lookup n)) else z) := by
  rw [evB_call0]; cases p.defs.lookup n with
  | none => rfl
  | some d => simp only [el_bind, oget_some, Option.isSome_some, if_pos]
@[simp↓] theorem ev_callk {γ : Type} (n : Str) (perm : List Nat) (es ks : List E) (env : PEnv) (f : PV × Bool → PEnv → γ) (g : Str → List PV → PEnv → γ) (z : γ) : (evB p cf (.callk n perm es ks) env).elim f g z = (if (p.defs.lookup n).isSome = true then (fun d => (evA p cf es env).elim (fun as env1 => if as.all (fun v => v.imm) then (evA p cf ks env1).elim (fun bs env2 => if bs.all (fun v => v.imm) then (if (perm.mapM (fun j => (as ++ bs)[j]?)).isSome = true then (fun vs => (cf n vs).on (fun v _ => f (v, true) env2) (fun c fs _ => g c fs env2) z) (oget (perm.mapM (fun j => (as ++ bs)[j]?))) else z) else z) g z else z) g z) (oget (p.defs.lookup n)) else z) := by
  rw [evB_callk0]; cases p.defs.lookup n with
  | none => rfl
  | some d => simp only [el_bind, el_ite, el_bad, oget_some, Option.isSome_some, if_pos]; congr 1; funext as e1; congr 1; congr 1; funext bs e2; congr 1; cases perm.mapM (fun j => (as ++ bs)[j]?) with
    | none => rfl
    | some vs => simp only [oget_some, Option.isSome_some, if_pos]; cases cf n vs <;> rfl
@[simp↓] theorem ev_bi {γ : Type} (m : BI) (es : List E) (env : PEnv) (f : PV × Bool → PEnv → γ) (g : Str → List PV → PEnv → γ) (z : γ) : (evB p cf (.bi m es) env).elim f g z = (evA p cf es env).elim (fun vs env1 => (if (biI m vs).isSome = true then (fun v => f (v, true) env1) (oget (biI m vs)) else z)) g z := by
  simp only [evB_bi0, el_bind]; congr 1; funext v e; cases biI m v <;> rfl
@[simp↓] theorem ev_pop {γ : Type} (o : E) (es : List E) (env : PEnv) (f : PV × Bool → PEnv → γ) (g : Str → List PV → PEnv → γ) (z : γ) : (evB p cf (.pop o es) env).elim f g z = (pathR p cf o env).elim (fun a env1 => if lstAt env1 a.1 a.2 && (a.2.isEmpty || quietL es) then (evA p cf es env1).elim (fun vs env2 => (mutP env2 a.1 a.2 (popI vs)).elim (fun v env3 => f (v, true) env3) g z) g z else z) g z := by
  simp only [evB_pop0, el_bind, el_ite, el_omap, el_ok, el_exc, el_bad]
@[simp↓] theorem ev_tupI {γ : Type} (it : It) (env : PEnv) (f : PV × Bool → PEnv → γ) (g : Str → List PV → PEnv → γ) (z : γ) : (evB p cf (.tupI it) env).elim f g z = (itI p cf it env).elim (fun a env1 => if a.2.isEmpty && immL a.1 && decide (a.1.length ≤ 16777216) then f (.tup a.1, true) env1 else z) g z := by
  simp only [evB_tupI0, el_bind, el_ite, el_omap, el_ok, el_exc, el_bad]
@[simp↓] theorem ev_lstI {γ : Type} (it : It) (env : PEnv) (f : PV × Bool → PEnv → γ) (g : Str → List PV → PEnv → γ) (z : γ) : (evB p cf (.lstI it) env).elim f g z = (itI p cf it env).elim (fun a env1 => if a.2.isEmpty && immL a.1 && decide (a.1.length ≤ 16777216) then f (.lst a.1, true) env1 else z) g z := by
  simp only [evB_lstI0, el_bind, el_ite, el_omap, el_ok, el_exc, el_bad]
@[simp↓] theorem ev_isi {γ : Type} (a : E) (ts : List Ty) (env : PEnv) (f : PV × Bool → PEnv → γ) (g : Str → List PV → PEnv → γ) (z : γ) : (evB p cf (.isi a ts) env).elim f g z = (evB p cf a env).elim (fun v env1 => (if (isiI p v.1 ts).isSome = true then (fun b => f (.bl b, true) env1) (oget (isiI p v.1 ts)) else z)) g z := by
  simp only [evB_isi0, el_bind]; congr 1; funext v e; cases isiI p v.1 ts <;> rfl
@[simp↓] theorem ev_fld {γ : Type} (i : Nat) (n : Str) (env : PEnv) (f : PV × Bool → PEnv → γ) (g : Str → List PV → PEnv → γ) (z : γ) : (evB p cf (.fld i n) env).elim f g z = (if (fldI p (erS env[i]?) n).isSome = true then (fun v => f (v, true) env) (oget (fldI p (erS env[i]?) n)) else z) := by
  rw [evB_fldI]; cases fldI p (erS env[i]?) n <;> rfl
@[simp↓] theorem ev_isE {γ : Type} (i : Nat) (ds : List Str) (env : PEnv) (f : PV × Bool → PEnv → γ) (g : Str → List PV → PEnv → γ) (z : γ) : (evB p cf (.isE i ds) env).elim f g z = (if (isEI p (erS env[i]?) ds).isSome = true then (fun v => f (v, true) env) (oget (isEI p (erS env[i]?) ds)) else z) := by
  rw [evB_isEI]; cases isEI p (erS env[i]?) ds <;> rfl
@[simp↓] theorem ev_binv {γ : Type} (op : Operator) (i : Nat) (b : E) (env : PEnv) (f : PV × Bool → PEnv → γ) (g : Str → List PV → PEnv → γ) (z : γ) : (evB p cf (.binv op i b) env).elim f g z = (if (getS env i).isSome = true then (evB p cf b env).elim (fun y env2 => (if (getS env2 i).isSome = true then (fun v => (if (binI op v y.1).isSome = true then (fun w => f (w, true) env2) (oget (binI op v y.1)) else z)) (oget (getS env2 i)) else z)) g z else z) := by
  rw [evB_binv0]; cases getS env i with
  | none => rfl
  | some _ =>
    simp only [el_bind, Option.isSome_some, if_pos]; congr 1; funext y e2; cases getS e2 i with
    | none => rfl
    | some v => simp only [Option.isSome_some, if_pos, oget_some]; cases binI op v y.1 <;> rfl
@[simp↓] theorem ev_ixv {γ : Type} (i : Nat) (b : E) (env : PEnv) (f : PV × Bool → PEnv → γ) (g : Str → List PV → PEnv → γ) (z : γ) : (evB p cf (.ixv i b) env).elim f g z = (if (getS env i).isSome = true then (evB p cf b env).elim (fun y env2 => (if (getS env2 i).isSome = true then (fun v => (if (ixI v y.1).isSome = true then (fun w => (if w.imm = true then f (w, true) env2 else z)) (oget (ixI v y.1)) else z)) (oget (getS env2 i)) else z)) g z else z) := by
  rw [evB_ixv0]; cases getS env i with
  | none => rfl
  | some _ =>
    simp only [el_bind, Option.isSome_some, if_pos]; congr 1; funext y e2; cases getS e2 i with
    | none => rfl
    | some v =>
      simp only [Option.isSome_some, if_pos, oget_some]; unfold ixV; cases ixI v y.1 with
      | none => rfl
      | some w => simp only [Option.bind, Option.isSome_some, if_pos, oget_some]; cases w.imm <;> rfl
@[simp↓] theorem ev_rep {γ : Type} (a k : E) (env : PEnv) (f : PV × Bool → PEnv → γ) (g : Str → List PV → PEnv → γ) (z : γ) : (evB p cf (.rep a k) env).elim f g z = (evB p cf a env).elim (fun ra env1 => if ra.2 && k.quiet then (evB p cf k env1).elim (fun rk env2 => (if (repI ra.1 rk.1).isSome = true then (fun v => f (v, true) env2) (oget (repI ra.1 rk.1)) else z)) g z else z) g z := by
  rw [evB_rep0, el_bind]; congr 1; funext v e; simp only [el_ite, el_bind, el_bad]; congr 1; congr 1; funext w e2; cases repI v.1 w.1 <;> rfl
@[simp↓] theorem ev_frz {γ : Type} (a : E) (env : PEnv) (f : PV × Bool → PEnv → γ) (g : Str → List PV → PEnv → γ) (z : γ) : (evB p cf (.frz a) env).elim f g z = (evB p cf a env).elim (fun r env1 => (if (frI r).isSome = true then (fun v => f (v, true) env1) (oget (frI r)) else z)) g z := by
  rw [evB_frz0, el_bind]; congr 1; funext v e; obtain ⟨v, b⟩ := v; cases v <;> first | rfl | (unfold frI; simp only [el_ite]; split <;> rfl)
@[simp↓] theorem ev_rvs {γ : Type} (a : E) (env : PEnv) (f : PV × Bool → PEnv → γ) (g : Str → List PV → PEnv → γ) (z : γ) : (evB p cf (.rvs a) env).elim f g z = (evB p cf a env).elim (fun r env1 => (if (rvI r.1).isSome = true then (fun v => f (v, true) env1) (oget (rvI r.1)) else z)) g z := by
  rw [evB_rvs0, el_bind]; congr 1; funext v e; cases v.1 <;> first | rfl | (unfold rvI; simp only [el_ite]; split <;> rfl)
@[simp↓] theorem ev_chn3 {γ : Type} (o1 o2 o3 : CmpOp) (a b c d : E) (env : PEnv) (f : PV × Bool → PEnv → γ) (g : Str → List PV → PEnv → γ) (z : γ) : (evB p cf (.chn3 o1 o2 o3 a b c d) env).elim f g z = (evB p cf a env).elim (fun va env1 => if va.1.imm then (evB p cf b env1).elim (fun vb env2 => if vb.1.imm then (if (blO (cmpI o1 va.1 vb.1)).isSome = true then (fun t => if t = true then (evB p cf c env2).elim (fun vc env3 => if vc.1.imm then (if (blO (cmpI o2 vb.1 vc.1)).isSome = true then (fun t2 => if t2 = true then (evB p cf d env3).elim (fun vd env4 => (if (cmpI o3 vc.1 vd.1).isSome = true then (fun v => f (v, true) env4) (oget (cmpI o3 vc.1 vd.1)) else z)) g z else f (.bl false, true) env3) (oget (blO (cmpI o2 vb.1 vc.1))) else z) else z) g z else f (.bl false, true) env2) (oget (blO (cmpI o1 va.1 vb.1))) else z) else z) g z else z) g z := by
  simp only [evB_chn30, el_bind, el_ite, el_bad]; congr 1; funext va e1; congr 1; congr 1; funext vb e2; congr 1; split
  · rename_i q; rw [q, blO_bl]; simp only [el_bind, oget_some, Option.isSome_some, if_pos]; congr 1; funext vc e3; rw [el_ite]; congr 1; split
    · rename_i q; rw [q, blO_bl]; simp only [el_bind, oget_some, Option.isSome_some, if_pos]; congr 1; funext vd e4; cases cmpI o3 vc.1 vd.1 <;> rfl
    · rename_i q; rw [q, blO_bl]; rfl
    · rename_i q1 q2; rw [el_bad, if_neg]; intro h; unfold blO at h; split at h
      · rename_i b q; cases b
        · exact q2 q
        · exact q1 q
      · cases h
  · rename_i q; rw [q, blO_bl]; rfl
  · rename_i q1 q2; rw [el_bad, if_neg]; intro h; unfold blO at h; split at h
    · rename_i b q; cases b
      · exact q2 q
      · exact q1 q
    · cases h
@[simp↓] theorem ev_dict {γ : Type} (es : List E) (env : PEnv) (f : PV × Bool → PEnv → γ) (g : Str → List PV → PEnv → γ) (z : γ) : (evB p cf (.dict es) env).elim f g z = (evO p cf es env).elim (fun vs env1 => (if (dictOf vs [] []).isSome = true then (fun v => f (v, true) env1) (oget (dictOf vs [] [])) else z)) g z := by
  simp only [evB_dict0, el_bind]; congr 1; funext v e; cases dictOf v [] [] <;> rfl
@[simp↓] theorem el_evO_nil {γ : Type} (env : PEnv) (f : List PV → PEnv → γ) (g : Str → List PV → PEnv → γ) (z : γ) : (evO p cf [] env).elim f g z = f [] env := by
  exact (rfl)
@[simp↓] theorem el_evO_cons {γ : Type} (a : E) (es : List E) (env : PEnv) (f : List PV → PEnv → γ) (g : Str → List PV → PEnv → γ) (z : γ) : (evO p cf (a :: es) env).elim f g z = (evB p cf a env).elim (fun r env1 => (ownE a r env1).elim (fun v env2 => (evO p cf es env2).elim (fun vs env3 => f (v :: vs) env3) g z) g z) g z := by
  simp only [evO_cons0, el_bind, el_ite, el_omap, el_ok, el_exc, el_bad]
@[simp↓] theorem el_evA_nil {γ : Type} (env : PEnv) (f : List PV → PEnv → γ) (g : Str → List PV → PEnv → γ) (z : γ) : (evA p cf [] env).elim f g z = f [] env := by
  exact (rfl)
@[simp↓] theorem el_evA_cons {γ : Type} (a : E) (es : List E) (env : PEnv) (f : List PV → PEnv → γ) (g : Str → List PV → PEnv → γ) (z : γ) : (evA p cf (a :: es) env).elim f g z = (evB p cf a env).elim (fun r env1 => if r.1.imm || r.2 || quietL es then (evA p cf es env1).elim (fun vs env2 => f (r.1 :: vs) env2) g z else z) g z := by
  simp only [evA_cons0, el_bind, el_ite, el_omap, el_ok, el_exc, el_bad]
@[simp↓] theorem el_evC_nil {γ : Type} (env : PEnv) (f : List AV → PEnv → γ) (g : Str → List PV → PEnv → γ) (z : γ) : (evC p cf [] [] env).elim f g z = f [] env := by
  exact (rfl)
@[simp↓] theorem el_evC_cons {γ : Type} (m : Bool) (ms : List Bool) (a : E) (es : List E) (env : PEnv) (f : List AV → PEnv → γ) (g : Str → List PV → PEnv → γ) (z : γ) : (evC p cf (m :: ms) (a :: es) env).elim f g z = (if (isBy m a env).isSome = true then (fun i => (evC p cf ms es env).elim (fun as env1 => f (.by i :: as) env1) g z) (oget (isBy m a env)) else (evB p cf a env).elim (fun r env1 => if (r.1.imm || r.2 || quietL es) && (!m || r.1.imm) then (evC p cf ms es env1).elim (fun as env2 => f (.v r.1 r.2 a.root :: as) env2) g z else z) g z) := by
  rw [evC_cons0]; cases isBy m a env with
  | none => simp only [el_bind, el_ite, el_omap, el_ok, el_exc, el_bad]; rfl
  | some i => simp only [oget_some, Option.isSome_some, if_pos, el_bind, el_ite, el_omap, el_ok, el_exc, el_bad]
@[simp↓] theorem el_evCs_nil {γ : Type} (env : PEnv) (f : Bool → PEnv → γ) (g : Str → List PV → PEnv → γ) (z : γ) : (evCs p cf [] env).elim f g z = f true env := by
  exact (rfl)
@[simp↓] theorem el_evCs_cons {γ : Type} (a : E) (es : List E) (env : PEnv) (f : Bool → PEnv → γ) (g : Str → List PV → PEnv → γ) (z : γ) : (evCs p cf (a :: es) env).elim f g z = (evB p cf a env).elim (fun v env1 => (if (truthI v.1).isSome = true then (if oget (truthI v.1) = true then (evCs p cf es env1).elim f g z else f false env1) else z)) g z := by
  rw [evCs_cons0, el_bind]; congr 1; funext v e; cases truthI v.1 with
  | none => rfl
  | some x => cases x <;> rfl
@[simp↓] theorem el_itI_seq {γ : Type} (a : E) (env : PEnv) (f : List PV × List Nat → PEnv → γ) (g : Str → List PV → PEnv → γ) (z : γ) : (itI p cf (.seq a) env).elim f g z = (evB p cf a env).elim (fun r env1 => (if (itemsI r.1).isSome = true then (fun vs => (if (locksOf a r).isSome = true then (fun l => f (vs, l) env1) (oget (locksOf a r)) else z)) (oget (itemsI r.1)) else z)) g z := by
  rw [itI_seq0, el_bind]; congr 1; funext v e; cases itemsI v.1 with
  | none => rfl
  | some vs => cases locksOf a v <;> rfl
@[simp↓] theorem el_itI_range {γ : Type} (es : List E) (env : PEnv) (f : List PV × List Nat → PEnv → γ) (g : Str → List PV → PEnv → γ) (z : γ) : (itI p cf (.range es) env).elim f g z = (evA p cf es env).elim (fun vs env1 => (if (rangeI vs).isSome = true then (fun xs => f (xs, []) env1) (oget (rangeI vs)) else z)) g z := by
  simp only [itI_range0, el_bind]; congr 1; funext v e; cases rangeI v <;> rfl
@[simp↓] theorem el_itI_enum {γ : Type} (a : E) (env : PEnv) (f : List PV × List Nat → PEnv → γ) (g : Str → List PV → PEnv → γ) (z : γ) : (itI p cf (.enum a) env).elim f g z = (evB p cf a env).elim (fun r env1 => (if (itemsI r.1).isSome = true then (fun vs => (if (locksOf a r).isSome = true then (fun l => f (enumL 0 vs, l) env1) (oget (locksOf a r)) else z)) (oget (itemsI r.1)) else z)) g z := by
  rw [itI_enum0, el_bind]; congr 1; funext v e; cases itemsI v.1 with
  | none => rfl
  | some vs => cases locksOf a v <;> rfl
@[simp↓] theorem el_itI_zip {γ : Type} (a b : E) (env : PEnv) (f : List PV × List Nat → PEnv → γ) (g : Str → List PV → PEnv → γ) (z : γ) : (itI p cf (.zip a b) env).elim f g z = (evB p cf a env).elim (fun r env1 => if r.1.imm || r.2 || b.quiet then (evB p cf b env1).elim (fun q env2 => (if (zipI r.1 q.1).isSome = true then (fun vs => (if (locksOf a r).isSome = true then (fun l => (if (locksOf b q).isSome = true then (fun k => f (vs, l ++ k) env2) (oget (locksOf b q)) else z)) (oget (locksOf a r)) else z)) (oget (zipI r.1 q.1)) else z)) g z else z) g z := by
  simp only [itI_zip0, el_bind, el_ite, el_bad]; congr 1; funext r e1; congr 1; congr 1; funext q e2; cases zipI r.1 q.1 with
  | none => rfl
  | some vs => cases locksOf a r with
    | none => rfl
    | some l => cases locksOf b q <;> rfl
@[simp↓] theorem el_itI_rev {γ : Type} (a : E) (env : PEnv) (f : List PV × List Nat → PEnv → γ) (g : Str → List PV → PEnv → γ) (z : γ) : (itI p cf (.rev a) env).elim f g z = (evB p cf a env).elim (fun r env1 => (if (seqI r.1).isSome = true then (fun vs => (if (locksOf a r).isSome = true then (fun l => f (vs.reverse, l) env1) (oget (locksOf a r)) else z)) (oget (seqI r.1)) else z)) g z := by
  rw [itI_rev0, el_bind]; congr 1; funext v e; cases seqI v.1 with
  | none => rfl
  | some vs => cases locksOf a v <;> rfl
@[simp↓] theorem el_pathR_var {γ : Type} (i : Nat) (env : PEnv) (f : Nat × List PV → PEnv → γ) (g : Str → List PV → PEnv → γ) (z : γ) : (pathR p cf (.var i) env).elim f g z = if (getM env i).isSome then f (i, []) env else z := by
  simp only [pathR_var0, el_bind, el_ite, el_omap, el_ok, el_exc, el_bad]
@[simp↓] theorem el_pathR_ix {γ : Type} (a k : E) (env : PEnv) (f : Nat × List PV → PEnv → γ) (g : Str → List PV → PEnv → γ) (z : γ) : (pathR p cf (.ix a k) env).elim f g z = if k.quiet then (pathR p cf a env).elim (fun x env1 => (evB p cf k env1).elim (fun vk env2 => if vk.1.imm && pathOk env2 x.1 x.2 vk.1 then f (x.1, x.2 ++ [vk.1]) env2 else z) g z) g z else z := by
  simp only [pathR_ix0, el_bind, el_ite, el_omap, el_ok, el_exc, el_bad]
@[simp↓] theorem el_evE {γ : Type} (a : E) (env : PEnv) (f : PV → PEnv → γ) (g : Str → List PV → PEnv → γ) (z : γ) : (evE p cf a env).elim f g z = (evB p cf a env).elim (fun r env1 => (ownE a r env1).elim f g z) g z := by
  unfold evE; rw [el_bind]
@[simp] theorem exS_pass  (env : PEnv) : exS p cf fu (.pass) env = .nx env := by
  exact (rfl)
@[simp] theorem exS_brk  (env : PEnv) : exS p cf fu (.brk) env = .brk env := by
  exact (rfl)
@[simp] theorem exS_cnt  (env : PEnv) : exS p cf fu (.cnt) env = .cnt env := by
  exact (rfl)
@[simp] theorem exS_wipe (ws : List Nat) (env : PEnv) : exS p cf fu (.wipe ws) env = .nx (wipeO env ws) := by
  exact (rfl)
@[simp] theorem exS_own (ws : List Nat) (env : PEnv) : exS p cf fu (.own ws) env = .nx (ownO env ws) := by
  exact (rfl)
@[simp] theorem exS_asg (i : Nat) (a : E) (env : PEnv) : exS p cf fu (.asg (.v i) a) env = (evE p cf a env).elim (fun v env1 => (if (bindT true (.v i) v env1).isSome = true then (fun env2 => .nx env2) (oget (bindT true (.v i) v env1)) else .bad)) .exc .bad := by
  rw [exS_asg0, st_elim]; congr 1; funext v e; cases bindT true (.v i) v e <;> rfl
@[simp] theorem exS_asgt (ts : List Tg) (a : E) (env : PEnv) : exS p cf fu (.asg (.t ts) a) env = (evB p cf a env).elim (fun r env1 => (if (bindT false (.t ts) r.1 env1).isSome = true then (fun env2 => .nx env2) (oget (bindT false (.t ts) r.1 env1)) else .bad)) .exc .bad := by
  rw [exS_asgt0, st_elim]; congr 1; funext r e; cases bindT false (.t ts) r.1 e <;> rfl
@[simp] theorem exS_setix (o k a : E) (env : PEnv) : exS p cf fu (.setix o k a) env = (evE p cf a env).elim (fun v env1 => (pathR p cf o env1).elim (fun x env2 => if k.quiet && o.quiet then (evB p cf k env2).elim (fun vk env3 => (mutP env3 x.1 x.2 (fun w => (setI w vk.1 v).map fun w' => (w', ()))).elim (fun _ env4 => .nx env4) .exc .bad) .exc .bad else .bad) .exc .bad) .exc .bad := by
  simp only [exS_setix0, st_elim]
@[simp] theorem exS_aug (i : Nat) (op : Operator) (a : E) (env : PEnv) : exS p cf fu (.aug i op a) env = (if (getS env i).isSome = true then (fun v => (evB p cf a env).elim (fun r env1 => (if (augI op v r.1).isSome = true then (fun w => (if (bindT true (.v i) w env1).isSome = true then (fun env2 => .nx env2) (oget (bindT true (.v i) w env1)) else .bad)) (oget (augI op v r.1)) else .bad)) .exc .bad) (oget (getS env i)) else .bad) := by
  rw [exS_aug0]; cases getS env i with
  | none => rfl
  | some v => simp only [st_elim, oget_some, Option.isSome_some, if_pos]; congr 1; funext r e; cases augI op v r.1 with
    | none => rfl
    | some w => simp only [oget_some, Option.isSome_some, if_pos]; cases bindT true (.v i) w e <;> rfl
@[simp] theorem exS_augix (o k : E) (op : Operator) (a : E) (env : PEnv) : exS p cf fu (.augix o k op a) env = if k.quiet && o.quiet && a.quiet then (pathR p cf o env).elim (fun x env1 => (evB p cf k env1).elim (fun vk env2 => (if (getM env2 x.1).isSome = true then (fun v => (if (getP v x.2).isSome = true then (fun w => (if (ixI w vk.1).isSome = true then (fun old => if w.isBox then (evB p cf a env2).elim (fun r env3 => (if (augI op old r.1).isSome = true then (fun new => (mutP env3 x.1 x.2 (fun w => (setI w vk.1 new).map fun w' => (w', ()))).elim (fun _ env4 => .nx env4) .exc .bad) (oget (augI op old r.1)) else .bad)) .exc .bad else .bad) (oget (ixI w vk.1)) else .bad)) (oget (getP v x.2)) else .bad)) (oget (getM env2 x.1)) else .bad)) .exc .bad) .exc .bad else .bad := by
  simp only [exS_augix0, st_elim]; congr 1; congr 1; funext x e1; congr 1; funext vk e2; cases getM e2 x.1 with
  | none => rfl
  | some v =>
    simp only [oget_some, Option.isSome_some, if_pos]
    cases getP v x.2 with
    | none => rfl
    | some w =>
      simp only [oget_some, Option.isSome_some, if_pos]
      cases ixI w vk.1 with
      | none => rfl
      | some old =>
        simp only [oget_some, Option.isSome_some, if_pos]
        congr 1; congr 1; funext r e3; cases augI op old r.1 <;> rfl
@[simp] theorem exS_mu_append (o : E) (es : List E) (env : PEnv) : exS p cf fu (.mu .append o es) env = (pathR p cf o env).elim (fun a env1 => if lstAt env1 a.1 a.2 && (a.2.isEmpty || quietL es) then (evO p cf es env1).elim (fun vs env2 => (mutP env2 a.1 a.2 (muI .append vs)).elim (fun _ env3 => .nx env3) .exc .bad) .exc .bad else .bad) .exc .bad := by
  rw [show exS p cf fu (.mu .append o es) env = ((pathR p cf o env).st fun a env => if lstAt env a.1 a.2 && (a.2.isEmpty || quietL es) then (evO p cf es env).st fun vs env => (mutP env a.1 a.2 (muI .append vs)).st fun _ env => .nx env else .bad) from rfl]; simp only [st_elim]
@[simp] theorem exS_mu_insert (o : E) (es : List E) (env : PEnv) : exS p cf fu (.mu .insert o es) env = (pathR p cf o env).elim (fun a env1 => if lstAt env1 a.1 a.2 && (a.2.isEmpty || quietL es) then (evO p cf es env1).elim (fun vs env2 => (mutP env2 a.1 a.2 (muI .insert vs)).elim (fun _ env3 => .nx env3) .exc .bad) .exc .bad else .bad) .exc .bad := by
  rw [show exS p cf fu (.mu .insert o es) env = ((pathR p cf o env).st fun a env => if lstAt env a.1 a.2 && (a.2.isEmpty || quietL es) then (evO p cf es env).st fun vs env => (mutP env a.1 a.2 (muI .insert vs)).st fun _ env => .nx env else .bad) from rfl]; simp only [st_elim]
@[simp] theorem exS_mu_reverse (o : E) (es : List E) (env : PEnv) : exS p cf fu (.mu .reverse o es) env = (pathR p cf o env).elim (fun a env1 => if lstAt env1 a.1 a.2 && (a.2.isEmpty || quietL es) then (evO p cf es env1).elim (fun vs env2 => (mutP env2 a.1 a.2 (muI .reverse vs)).elim (fun _ env3 => .nx env3) .exc .bad) .exc .bad else .bad) .exc .bad := by
  rw [show exS p cf fu (.mu .reverse o es) env = ((pathR p cf o env).st fun a env => if lstAt env a.1 a.2 && (a.2.isEmpty || quietL es) then (evO p cf es env).st fun vs env => (mutP env a.1 a.2 (muI .reverse vs)).st fun _ env => .nx env else .bad) from rfl]; simp only [st_elim]
@[simp] theorem exS_mu_sort (o : E) (es : List E) (env : PEnv) : exS p cf fu (.mu .sort o es) env = (pathR p cf o env).elim (fun a env1 => if lstAt env1 a.1 a.2 && (a.2.isEmpty || quietL es) then (evO p cf es env1).elim (fun vs env2 => (mutP env2 a.1 a.2 (muI .sort vs)).elim (fun _ env3 => .nx env3) .exc .bad) .exc .bad else .bad) .exc .bad := by
  rw [show exS p cf fu (.mu .sort o es) env = ((pathR p cf o env).st fun a env => if lstAt env a.1 a.2 && (a.2.isEmpty || quietL es) then (evO p cf es env).st fun vs env => (mutP env a.1 a.2 (muI .sort vs)).st fun _ env => .nx env else .bad) from rfl]; simp only [st_elim]
@[simp] theorem exS_mu_remove (o : E) (es : List E) (env : PEnv) : exS p cf fu (.mu .remove o es) env = (pathR p cf o env).elim (fun a env1 => if lstAt env1 a.1 a.2 && (a.2.isEmpty || quietL es) then (evO p cf es env1).elim (fun vs env2 => (mutP env2 a.1 a.2 (muI .remove vs)).elim (fun _ env3 => .nx env3) .exc .bad) .exc .bad else .bad) .exc .bad := by
  rw [show exS p cf fu (.mu .remove o es) env = ((pathR p cf o env).st fun a env => if lstAt env a.1 a.2 && (a.2.isEmpty || quietL es) then (evO p cf es env).st fun vs env => (mutP env a.1 a.2 (muI .remove vs)).st fun _ env => .nx env else .bad) from rfl]; simp only [st_elim]
@[simp] theorem exS_mu_clear (o : E) (es : List E) (env : PEnv) : exS p cf fu (.mu .clear o es) env = (pathR p cf o env).elim (fun a env1 => if lstAt env1 a.1 a.2 && (a.2.isEmpty || quietL es) then (evO p cf es env1).elim (fun vs env2 => (mutP env2 a.1 a.2 (muI .clear vs)).elim (fun _ env3 => .nx env3) .exc .bad) .exc .bad else .bad) .exc .bad := by
  rw [show exS p cf fu (.mu .clear o es) env = ((pathR p cf o env).st fun a env => if lstAt env a.1 a.2 && (a.2.isEmpty || quietL es) then (evO p cf es env).st fun vs env => (mutP env a.1 a.2 (muI .clear vs)).st fun _ env => .nx env else .bad) from rfl]; simp only [st_elim]
@[simp] theorem exS_mu_update (o : E) (es : List E) (env : PEnv) : exS p cf fu (.mu .update o es) env = (pathR p cf o env).elim (fun a env1 => if lstAt env1 a.1 a.2 && (a.2.isEmpty || quietL es) then (evO p cf es env1).elim (fun vs env2 => (mutP env2 a.1 a.2 (muI .update vs)).elim (fun _ env3 => .nx env3) .exc .bad) .exc .bad else .bad) .exc .bad := by
  rw [show exS p cf fu (.mu .update o es) env = ((pathR p cf o env).st fun a env => if lstAt env a.1 a.2 && (a.2.isEmpty || quietL es) then (evO p cf es env).st fun vs env => (mutP env a.1 a.2 (muI .update vs)).st fun _ env => .nx env else .bad) from rfl]; simp only [st_elim]
@[simp] theorem exS_mu_extend (o : E) (es : List E) (env : PEnv) : exS p cf fu (.mu .extend o es) env = (pathR p cf o env).elim (fun a env1 => if lstAt env1 a.1 a.2 && (a.2.isEmpty || quietL es) then (evA p cf es env1).elim (fun vs env2 => (mutP env2 a.1 a.2 (muI .extend vs)).elim (fun _ env3 => .nx env3) .exc .bad) .exc .bad else .bad) .exc .bad := by
  rw [show exS p cf fu (.mu .extend o es) env = ((pathR p cf o env).st fun a env => if lstAt env a.1 a.2 && (a.2.isEmpty || quietL es) then (evA p cf es env).st fun vs env => (mutP env a.1 a.2 (muI .extend vs)).st fun _ env => .nx env else .bad) from rfl]; simp only [st_elim]
@[simp] theorem exS_ex (a : E) (env : PEnv) : exS p cf fu (.ex a) env = (evB p cf a env).elim (fun _ env1 => .nx env1) .exc .bad := by
  rw [exS_ex0, st_elim]
@[simp] theorem exS_ret (a : E) (env : PEnv) : exS p cf fu (.ret a) env = (evE p cf a env).elim (fun v env1 => .ret v env1) .exc .bad := by
  rw [exS_ret0, st_elim]
@[simp] theorem exS_ife (c : E) (a b : List S) (env : PEnv) : exS p cf fu (.ife c a b) env = (evB p cf c env).elim (fun v env1 => (if (truthI v.1).isSome = true then (if oget (truthI v.1) = true then exSs p cf fu a env1 else exSs p cf fu b env1) else .bad)) .exc .bad := by
  rw [exS_ife0, st_elim]; congr 1; funext v e; cases truthI v.1 with
  | none => rfl
  | some x => cases x <;> rfl
@[simp] theorem exS_raise (c : Str) (es : List E) (env : PEnv) : exS p cf fu (.raise c es) env = (evO p cf es env).elim (fun vs env1 => if knows p c && immL vs then .exc c vs env1 else .bad) .exc .bad := by
  rw [exS_raise0, st_elim]
end
@[simp] theorem pb_L2_ixN_1 : type_of% @L2.ixN.eq_1 := id @L2.ixN.eq_1
@[simp] theorem pb_getS_1 : type_of% @getS.eq_1 := id @getS.eq_1
@[simp] theorem pb_getM_1 : type_of% @getM.eq_1 := id @getM.eq_1
@[simp] theorem pb_Slot_val_1 : type_of% @Slot.val.eq_1 := id @Slot.val.eq_1
@[simp] theorem pb_Slot_val_2 : type_of% @Slot.val.eq_2 := id @Slot.val.eq_2
@[simp] theorem pb_Slot_val_3 : type_of% @Slot.val.eq_3 := id @Slot.val.eq_3
@[simp] theorem pb_Slot_val_4 : type_of% @Slot.val.eq_4 := id @Slot.val.eq_4
@[simp] theorem pb_getP_1 : type_of% @getP.eq_1 := id @getP.eq_1
@[simp] theorem pb_getP_2 : type_of% @getP.eq_2 := id @getP.eq_2
@[simp] theorem pb_ixI_1 : type_of% @ixI.eq_1 := id @ixI.eq_1
@[simp] theorem pb_ixI_2 : type_of% @ixI.eq_2 := id @ixI.eq_2
theorem pb_ixI_3 : type_of% @ixI.eq_3 := id @ixI.eq_3
@[simp] theorem pb_ixI_4 : type_of% @ixI.eq_4 := id @ixI.eq_4
@[simp] theorem pb_ixI_5 : type_of% @ixI.eq_5 := id @ixI.eq_5
@[simp] theorem pb_ixI_6 : type_of% @ixI.eq_6 := id @ixI.eq_6
@[simp] theorem pb_truthI_1 : type_of% @truthI.eq_1 := id @truthI.eq_1
@[simp] theorem pb_truthI_2 : type_of% @truthI.eq_2 := id @truthI.eq_2
@[simp] theorem pb_truthI_3 : type_of% @truthI.eq_3 := id @truthI.eq_3
@[simp] theorem pb_truthI_4 : type_of% @truthI.eq_4 := id @truthI.eq_4
@[simp] theorem pb_truthI_5 : type_of% @truthI.eq_5 := id @truthI.eq_5
@[simp] theorem pb_truthI_6 : type_of% @truthI.eq_6 := id @truthI.eq_6
@[simp] theorem pb_truthI_7 : type_of% @truthI.eq_7 := id @truthI.eq_7
@[simp] theorem pb_quietL_1 : type_of% @quietL.eq_1 := id @quietL.eq_1
@[simp] theorem pb_quietL_2 : type_of% @quietL.eq_2 := id @quietL.eq_2
@[simp] theorem pb_It_quiet_1 : type_of% @It.quiet.eq_1 := id @It.quiet.eq_1
@[simp] theorem pb_It_quiet_2 : type_of% @It.quiet.eq_2 := id @It.quiet.eq_2
@[simp] theorem pb_It_quiet_3 : type_of% @It.quiet.eq_3 := id @It.quiet.eq_3
@[simp] theorem pb_It_quiet_4 : type_of% @It.quiet.eq_4 := id @It.quiet.eq_4
@[simp] theorem pb_It_quiet_5 : type_of% @It.quiet.eq_5 := id @It.quiet.eq_5
@[simp] theorem pb_setP_1 : type_of% @setP.eq_1 := id @setP.eq_1
@[simp] theorem pb_setP_2 : type_of% @setP.eq_2 := id @setP.eq_2
@[simp] theorem pb_putS_1 : type_of% @putS.eq_1 := id @putS.eq_1
@[simp] theorem pb_immL_1 : type_of% @immL.eq_1 := id @immL.eq_1
@[simp] theorem pb_immL_2 : type_of% @immL.eq_2 := id @immL.eq_2
@[simp] theorem pb_pathOk_1 : type_of% @pathOk.eq_1 := id @pathOk.eq_1
@[simp] theorem pb_augI_1 : type_of% @augI.eq_1 := id @augI.eq_1
@[simp] theorem pb_augI_2 : type_of% @augI.eq_2 := id @augI.eq_2
@[simp] theorem pb_augI_3 : type_of% @augI.eq_3 := id @augI.eq_3
@[simp] theorem pb_augI_4 : type_of% @augI.eq_4 := id @augI.eq_4
@[simp] theorem pb_augI_5 : type_of% @augI.eq_5 := id @augI.eq_5
@[simp] theorem pb_augI_6 : type_of% @augI.eq_6 := id @augI.eq_6
@[simp] theorem pb_binI_1 : type_of% @binI.eq_1 := id @binI.eq_1
@[simp] theorem pb_binI_2 : type_of% @binI.eq_2 := id @binI.eq_2
@[simp] theorem pb_binI_3 : type_of% @binI.eq_3 := id @binI.eq_3
@[simp] theorem pb_binI_4 : type_of% @binI.eq_4 := id @binI.eq_4
@[simp] theorem pb_binI_5 : type_of% @binI.eq_5 := id @binI.eq_5
@[simp] theorem pb_binI_6 : type_of% @binI.eq_6 := id @binI.eq_6
@[simp] theorem pb_binI_7 : type_of% @binI.eq_7 := id @binI.eq_7
@[simp] theorem pb_binI_8 : type_of% @binI.eq_8 := id @binI.eq_8
@[simp] theorem pb_binI_9 : type_of% @binI.eq_9 := id @binI.eq_9
@[simp] theorem pb_binI_10 : type_of% @binI.eq_10 := id @binI.eq_10
theorem pb_binI_11 : type_of% @binI.eq_11 := id @binI.eq_11
@[simp] theorem pb_binI_12 : type_of% @binI.eq_12 := id @binI.eq_12
@[simp] theorem pb_binI_13 : type_of% @binI.eq_13 := id @binI.eq_13
@[simp] theorem pb_binI_14 : type_of% @binI.eq_14 := id @binI.eq_14
@[simp] theorem pb_binI_15 : type_of% @binI.eq_15 := id @binI.eq_15
@[simp] theorem pb_callEnd_1 : type_of% @callEnd.eq_1 := id @callEnd.eq_1
@[simp] theorem pb_callEnd_2 : type_of% @callEnd.eq_2 := id @callEnd.eq_2
@[simp] theorem pb_callEnd_3 : type_of% @callEnd.eq_3 := id @callEnd.eq_3
@[simp] theorem pb_biI_1 : type_of% @biI.eq_1 := id @biI.eq_1
@[simp] theorem pb_biI_2 : type_of% @biI.eq_2 := id @biI.eq_2
@[simp] theorem pb_biI_3 : type_of% @biI.eq_3 := id @biI.eq_3
@[simp] theorem pb_biI_4 : type_of% @biI.eq_4 := id @biI.eq_4
@[simp] theorem pb_biI_5 : type_of% @biI.eq_5 := id @biI.eq_5
@[simp] theorem pb_biI_6 : type_of% @biI.eq_6 := id @biI.eq_6
@[simp] theorem pb_biI_7 : type_of% @biI.eq_7 := id @biI.eq_7
@[simp] theorem pb_biI_8 : type_of% @biI.eq_8 := id @biI.eq_8
@[simp] theorem pb_biI_9 : type_of% @biI.eq_9 := id @biI.eq_9
@[simp] theorem pb_biI_10 : type_of% @biI.eq_10 := id @biI.eq_10
theorem pb_biI_11 : type_of% @biI.eq_11 := id @biI.eq_11
@[simp] theorem pb_biI_12 : type_of% @biI.eq_12 := id @biI.eq_12
@[simp] theorem pb_biI_13 : type_of% @biI.eq_13 := id @biI.eq_13
@[simp] theorem pb_biI_14 : type_of% @biI.eq_14 := id @biI.eq_14
@[simp] theorem pb_biI_15 : type_of% @biI.eq_15 := id @biI.eq_15
@[simp] theorem pb_biI_16 : type_of% @biI.eq_16 := id @biI.eq_16
@[simp] theorem pb_biI_17 : type_of% @biI.eq_17 := id @biI.eq_17
@[simp] theorem pb_biI_18 : type_of% @biI.eq_18 := id @biI.eq_18
@[simp] theorem pb_biI_19 : type_of% @biI.eq_19 := id @biI.eq_19
@[simp] theorem pb_biI_20 : type_of% @biI.eq_20 := id @biI.eq_20
@[simp] theorem pb_biI_21 : type_of% @biI.eq_21 := id @biI.eq_21
@[simp] theorem pb_biI_22 : type_of% @biI.eq_22 := id @biI.eq_22
@[simp] theorem pb_biI_23 : type_of% @biI.eq_23 := id @biI.eq_23
@[simp] theorem pb_biI_24 : type_of% @biI.eq_24 := id @biI.eq_24
@[simp] theorem pb_biI_25 : type_of% @biI.eq_25 := id @biI.eq_25
@[simp] theorem pb_biI_26 : type_of% @biI.eq_26 := id @biI.eq_26
@[simp] theorem pb_biI_27 : type_of% @biI.eq_27 := id @biI.eq_27
@[simp] theorem pb_biI_28 : type_of% @biI.eq_28 := id @biI.eq_28
@[simp] theorem pb_lstAt_1 : type_of% @lstAt.eq_1 := id @lstAt.eq_1
@[simp] theorem pb_cmpI_1 : type_of% @cmpI.eq_1 := id @cmpI.eq_1
@[simp] theorem pb_cmpI_2 : type_of% @cmpI.eq_2 := id @cmpI.eq_2
@[simp] theorem pb_cmpI_3 : type_of% @cmpI.eq_3 := id @cmpI.eq_3
@[simp] theorem pb_cmpI_4 : type_of% @cmpI.eq_4 := id @cmpI.eq_4
@[simp] theorem pb_cmpI_5 : type_of% @cmpI.eq_5 := id @cmpI.eq_5
@[simp] theorem pb_cmpI_6 : type_of% @cmpI.eq_6 := id @cmpI.eq_6
@[simp] theorem pb_cmpI_7 : type_of% @cmpI.eq_7 := id @cmpI.eq_7
@[simp] theorem pb_cmpI_8 : type_of% @cmpI.eq_8 := id @cmpI.eq_8
@[simp] theorem pb_cmpI_9 : type_of% @cmpI.eq_9 := id @cmpI.eq_9
@[simp] theorem pb_cmpI_10 : type_of% @cmpI.eq_10 := id @cmpI.eq_10
@[simp] theorem pb_cmpI_11 : type_of% @cmpI.eq_11 := id @cmpI.eq_11
@[simp] theorem pb_cmpI_12 : type_of% @cmpI.eq_12 := id @cmpI.eq_12
@[simp] theorem pb_cmpI_13 : type_of% @cmpI.eq_13 := id @cmpI.eq_13
@[simp] theorem pb_cmpI_14 : type_of% @cmpI.eq_14 := id @cmpI.eq_14
@[simp] theorem pb_cmpI_15 : type_of% @cmpI.eq_15 := id @cmpI.eq_15
@[simp] theorem pb_cmpI_16 : type_of% @cmpI.eq_16 := id @cmpI.eq_16
@[simp] theorem pb_cmpI_17 : type_of% @cmpI.eq_17 := id @cmpI.eq_17
@[simp] theorem pb_cmpI_18 : type_of% @cmpI.eq_18 := id @cmpI.eq_18
@[simp] theorem pb_cmpI_19 : type_of% @cmpI.eq_19 := id @cmpI.eq_19
@[simp] theorem pb_bindT_1 : type_of% @bindT.eq_1 := id @bindT.eq_1
@[simp] theorem pb_bindT_2 : type_of% @bindT.eq_2 := id @bindT.eq_2
@[simp] theorem pb_bindTs_1 : type_of% @bindTs.eq_1 := id @bindTs.eq_1
@[simp] theorem pb_bindTs_2 : type_of% @bindTs.eq_2 := id @bindTs.eq_2
@[simp] theorem pb_seqI_1 : type_of% @seqI.eq_1 := id @seqI.eq_1
@[simp] theorem pb_seqI_2 : type_of% @seqI.eq_2 := id @seqI.eq_2
@[simp] theorem pb_itemsI_1 : type_of% @itemsI.eq_1 := id @itemsI.eq_1
@[simp] theorem pb_itemsI_2 : type_of% @itemsI.eq_2 := id @itemsI.eq_2
@[simp] theorem pb_itemsI_3 : type_of% @itemsI.eq_3 := id @itemsI.eq_3
@[simp] theorem pb_cmpOk_1 : type_of% @cmpOk.eq_1 := id @cmpOk.eq_1
@[simp] theorem pb_plainL_1 : type_of% @plainL.eq_1 := id @plainL.eq_1
@[simp] theorem pb_plainL_2 : type_of% @plainL.eq_2 := id @plainL.eq_2
@[simp] theorem pb_depthL_1 : type_of% @depthL.eq_1 := id @depthL.eq_1
@[simp] theorem pb_depthL_2 : type_of% @depthL.eq_2 := id @depthL.eq_2
@[simp] theorem pb_startE_1 : type_of% @startE.eq_1 := id @startE.eq_1
@[simp] theorem pb_initE_1 : type_of% @initE.eq_1 := id @initE.eq_1
@[simp] theorem pb_initE_2 : type_of% @initE.eq_2 := id @initE.eq_2
@[simp] theorem pb_initE_3 : type_of% @initE.eq_3 := id @initE.eq_3
@[simp] theorem pb_locksOf_1 : type_of% @locksOf.eq_1 := id @locksOf.eq_1
@[simp] theorem pb_lockS_1 : type_of% @lockS.eq_1 := id @lockS.eq_1
@[simp] theorem pb_lockS_2 : type_of% @lockS.eq_2 := id @lockS.eq_2
@[simp] theorem pb_unlockS_1 : type_of% @unlockS.eq_1 := id @unlockS.eq_1
@[simp] theorem pb_unlockS_2 : type_of% @unlockS.eq_2 := id @unlockS.eq_2
@[simp] theorem pb_keyI_1 : type_of% @keyI.eq_1 := id @keyI.eq_1
@[simp] theorem pb_keyI_2 : type_of% @keyI.eq_2 := id @keyI.eq_2
@[simp] theorem pb_intO_1 : type_of% @intO.eq_1 := id @intO.eq_1
@[simp] theorem pb_valsA_1 : type_of% @valsA.eq_1 := id @valsA.eq_1
@[simp] theorem pb_valsA_2 : type_of% @valsA.eq_2 := id @valsA.eq_2
@[simp] theorem pb_AV_val_1 : type_of% @AV.val.eq_1 := id @AV.val.eq_1
@[simp] theorem pb_AV_val_2 : type_of% @AV.val.eq_2 := id @AV.val.eq_2
@[simp] theorem pb_bysA_1 : type_of% @bysA.eq_1 := id @bysA.eq_1
@[simp] theorem pb_bysA_2 : type_of% @bysA.eq_2 := id @bysA.eq_2
@[simp] theorem pb_bysA_3 : type_of% @bysA.eq_3 := id @bysA.eq_3
@[simp] theorem pb_apart_1 : type_of% @apart.eq_1 := id @apart.eq_1
@[simp] theorem pb_apart_2 : type_of% @apart.eq_2 := id @apart.eq_2
@[simp] theorem pb_apart_3 : type_of% @apart.eq_3 := id @apart.eq_3
@[simp] theorem pb_apart_4 : type_of% @apart.eq_4 := id @apart.eq_4
@[simp] theorem pb_outsA_1 : type_of% @outsA.eq_1 := id @outsA.eq_1
@[simp] theorem pb_outsA_2 : type_of% @outsA.eq_2 := id @outsA.eq_2
@[simp] theorem pb_outsA_3 : type_of% @outsA.eq_3 := id @outsA.eq_3
@[simp] theorem pb_outsA_4 : type_of% @outsA.eq_4 := id @outsA.eq_4
@[simp] theorem pb_plainS_1 : type_of% @plainS.eq_1 := id @plainS.eq_1
@[simp] theorem pb_plainS_2 : type_of% @plainS.eq_2 := id @plainS.eq_2
@[simp] theorem pb_backS_1 : type_of% @backS.eq_1 := id @backS.eq_1
@[simp] theorem pb_backS_2 : type_of% @backS.eq_2 := id @backS.eq_2
@[simp] theorem pb_wipeS_1 : type_of% @wipeS.eq_1 := id @wipeS.eq_1
@[simp] theorem pb_wipeS_2 : type_of% @wipeS.eq_2 := id @wipeS.eq_2
@[simp] theorem pb_wipeO_1 : type_of% @wipeO.eq_1 := id @wipeO.eq_1
@[simp] theorem pb_wipeO_2 : type_of% @wipeO.eq_2 := id @wipeO.eq_2
@[simp] theorem pb_ownO_1 : type_of% @ownO.eq_1 := id @ownO.eq_1
@[simp] theorem pb_ownO_2 : type_of% @ownO.eq_2 := id @ownO.eq_2
@[simp] theorem pb_zipI_1 : type_of% @zipI.eq_1 := id @zipI.eq_1
@[simp] theorem pb_zipI_2 : type_of% @zipI.eq_2 := id @zipI.eq_2
@[simp] theorem pb_isiI_1 : type_of% @isiI.eq_1 := id @isiI.eq_1
@[simp] theorem pb_isiI_2 : type_of% @isiI.eq_2 := id @isiI.eq_2
@[simp] theorem pb_isiI_3 : type_of% @isiI.eq_3 := id @isiI.eq_3
@[simp] theorem pb_slI_1 : type_of% @slI.eq_1 := id @slI.eq_1
@[simp] theorem pb_slI_2 : type_of% @slI.eq_2 := id @slI.eq_2
@[simp] theorem pb_slI_3 : type_of% @slI.eq_3 := id @slI.eq_3
@[simp] theorem pb_repI_1 : type_of% @repI.eq_1 := id @repI.eq_1
@[simp] theorem pb_muI_1 : type_of% @muI.eq_1 := id @muI.eq_1
@[simp] theorem pb_muI_2 : type_of% @muI.eq_2 := id @muI.eq_2
@[simp] theorem pb_muI_3 : type_of% @muI.eq_3 := id @muI.eq_3
@[simp] theorem pb_muI_4 : type_of% @muI.eq_4 := id @muI.eq_4
@[simp] theorem pb_popI_1 : type_of% @popI.eq_1 := id @popI.eq_1
@[simp] theorem pb_popI_2 : type_of% @popI.eq_2 := id @popI.eq_2
@[simp] theorem pb_enumL_1 : type_of% @enumL.eq_1 := id @enumL.eq_1
@[simp] theorem pb_enumL_2 : type_of% @enumL.eq_2 := id @enumL.eq_2
@[simp] theorem pb_intsI_1 : type_of% @intsI.eq_1 := id @intsI.eq_1
@[simp] theorem pb_intsI_2 : type_of% @intsI.eq_2 := id @intsI.eq_2
@[simp] theorem pb_blsI_1 : type_of% @blsI.eq_1 := id @blsI.eq_1
@[simp] theorem pb_blsI_2 : type_of% @blsI.eq_2 := id @blsI.eq_2
@[simp] theorem pb_lookK_1 : type_of% @lookK.eq_1 := id @lookK.eq_1
@[simp] theorem pb_lookK_2 : type_of% @lookK.eq_2 := id @lookK.eq_2
@[simp] theorem imm_non  : PV.imm (.non) = true := (rfl)
@[simp] theorem plain_non  : PV.plain (.non) = true := (rfl)
@[simp] theorem depth_non  : PV.depth (.non) = 0 := (rfl)
@[simp] theorem isBox_non  : PV.isBox (.non) = false := (rfl)
@[simp] theorem isNon_non  : PV.isNon (.non) = true := (rfl)
@[simp] theorem imm_bl (b : Bool) : PV.imm (.bl b) = true := (rfl)
@[simp] theorem plain_bl (b : Bool) : PV.plain (.bl b) = true := (rfl)
@[simp] theorem depth_bl (b : Bool) : PV.depth (.bl b) = 0 := (rfl)
@[simp] theorem isBox_bl (b : Bool) : PV.isBox (.bl b) = false := (rfl)
@[simp] theorem isNon_bl (b : Bool) : PV.isNon (.bl b) = false := (rfl)
@[simp] theorem imm_int (i : Int) : PV.imm (.int i) = true := (rfl)
@[simp] theorem plain_int (i : Int) : PV.plain (.int i) = true := (rfl)
@[simp] theorem depth_int (i : Int) : PV.depth (.int i) = 0 := (rfl)
@[simp] theorem isBox_int (i : Int) : PV.isBox (.int i) = false := (rfl)
@[simp] theorem isNon_int (i : Int) : PV.isNon (.int i) = false := (rfl)
@[simp] theorem imm_str (x : Str) : PV.imm (.str x) = true := (rfl)
@[simp] theorem plain_str (x : Str) : PV.plain (.str x) = true := (rfl)
@[simp] theorem depth_str (x : Str) : PV.depth (.str x) = 0 := (rfl)
@[simp] theorem isBox_str (x : Str) : PV.isBox (.str x) = false := (rfl)
@[simp] theorem isNon_str (x : Str) : PV.isNon (.str x) = false := (rfl)
@[simp] theorem imm_tup (vs : List PV) : PV.imm (.tup vs) = immL vs := (rfl)
@[simp] theorem plain_tup (vs : List PV) : PV.plain (.tup vs) = plainL vs := (rfl)
@[simp] theorem depth_tup (vs : List PV) : PV.depth (.tup vs) = depthL vs + 1 := (rfl)
@[simp] theorem isBox_tup (vs : List PV) : PV.isBox (.tup vs) = false := (rfl)
@[simp] theorem isNon_tup (vs : List PV) : PV.isNon (.tup vs) = false := (rfl)
@[simp] theorem imm_lst (vs : List PV) : PV.imm (.lst vs) = false := (rfl)
@[simp] theorem plain_lst (vs : List PV) : PV.plain (.lst vs) = plainL vs := (rfl)
@[simp] theorem depth_lst (vs : List PV) : PV.depth (.lst vs) = depthL vs + 1 := (rfl)
@[simp] theorem isBox_lst (vs : List PV) : PV.isBox (.lst vs) = true := (rfl)
@[simp] theorem isNon_lst (vs : List PV) : PV.isNon (.lst vs) = false := (rfl)
@[simp] theorem imm_dct (ks : List Key) (vs : List PV) : PV.imm (.dct ks vs) = false := (rfl)
@[simp] theorem plain_dct (ks : List Key) (vs : List PV) : PV.plain (.dct ks vs) = false := (rfl)
@[simp] theorem depth_dct (ks : List Key) (vs : List PV) : PV.depth (.dct ks vs) = 0 := (rfl)
@[simp] theorem isBox_dct (ks : List Key) (vs : List PV) : PV.isBox (.dct ks vs) = true := (rfl)
@[simp] theorem isNon_dct (ks : List Key) (vs : List PV) : PV.isNon (.dct ks vs) = false := (rfl)
@[simp] theorem imm_set (vs : List PV) : PV.imm (.set vs) = false := (rfl)
@[simp] theorem plain_set (vs : List PV) : PV.plain (.set vs) = false := (rfl)
@[simp] theorem depth_set (vs : List PV) : PV.depth (.set vs) = 0 := (rfl)
@[simp] theorem isBox_set (vs : List PV) : PV.isBox (.set vs) = false := (rfl)
@[simp] theorem isNon_set (vs : List PV) : PV.isNon (.set vs) = false := (rfl)
@[simp] theorem imm_err (c : Str) (vs : List PV) : PV.imm (.err c vs) = false := (rfl)
@[simp] theorem plain_err (c : Str) (vs : List PV) : PV.plain (.err c vs) = false := (rfl)
@[simp] theorem depth_err (c : Str) (vs : List PV) : PV.depth (.err c vs) = 0 := (rfl)
@[simp] theorem isBox_err (c : Str) (vs : List PV) : PV.isBox (.err c vs) = false := (rfl)
@[simp] theorem isNon_err (c : Str) (vs : List PV) : PV.isNon (.err c vs) = false := (rfl)
@[simp] theorem imm_fls (vs : List PV) : PV.imm (.fls vs) = immL vs := (rfl)
@[simp] theorem plain_fls (vs : List PV) : PV.plain (.fls vs) = false := (rfl)
@[simp] theorem depth_fls (vs : List PV) : PV.depth (.fls vs) = 0 := (rfl)
@[simp] theorem isBox_fls (vs : List PV) : PV.isBox (.fls vs) = false := (rfl)
@[simp] theorem isNon_fls (vs : List PV) : PV.isNon (.fls vs) = false := (rfl)
@[simp] theorem quiet_non  : E.quiet (.non) = true := (rfl)
@[simp] theorem quiet_bl (b : Bool) : E.quiet (.bl b) = true := (rfl)
@[simp] theorem quiet_int (i : Int) : E.quiet (.int i) = true := (rfl)
@[simp] theorem quiet_str (x : Str) : E.quiet (.str x) = true := (rfl)
@[simp] theorem quiet_var (i : Nat) : E.quiet (.var i) = true := (rfl)
@[simp] theorem quiet_glob (x : Str) : E.quiet (.glob x) = true := (rfl)
@[simp] theorem quiet_tup (es : List E) : E.quiet (.tup es) = quietL es := (rfl)
@[simp] theorem quiet_lst (es : List E) : E.quiet (.lst es) = quietL es := (rfl)
@[simp] theorem quiet_dict (es : List E) : E.quiet (.dict es) = quietL es := (rfl)
@[simp] theorem quiet_bin (op : Operator) (a b : E) : E.quiet (.bin op a b) = (a.quiet && b.quiet) := (rfl)
@[simp] theorem quiet_cmp (op : CmpOp) (a b : E) : E.quiet (.cmp op a b) = (a.quiet && b.quiet) := (rfl)
@[simp] theorem quiet_neg (a : E) : E.quiet (.neg a) = a.quiet := (rfl)
@[simp] theorem quiet_not (a : E) : E.quiet (.not a) = a.quiet := (rfl)
@[simp] theorem quiet_isN (a : E) : E.quiet (.isN a) = a.quiet := (rfl)
@[simp] theorem quiet_isNN (a : E) : E.quiet (.isNN a) = a.quiet := (rfl)
@[simp] theorem quiet_and (a b : E) : E.quiet (.and a b) = (a.quiet && b.quiet) := (rfl)
@[simp] theorem quiet_or (a b : E) : E.quiet (.or a b) = (a.quiet && b.quiet) := (rfl)
@[simp] theorem quiet_ix (a b : E) : E.quiet (.ix a b) = (a.quiet && b.quiet) := (rfl)
@[simp] theorem quiet_ife (c a b : E) : E.quiet (.ife c a b) = (c.quiet && a.quiet && b.quiet) := (rfl)
@[simp] theorem quiet_sl (a l h : E) : E.quiet (.sl a l h) = (a.quiet && l.quiet && h.quiet) := (rfl)
@[simp] theorem quiet_chain (op op' : CmpOp) (a b c : E) : E.quiet (.chain op op' a b c) = (a.quiet && b.quiet && c.quiet) := (rfl)
@[simp] theorem quiet_chn3 (o1 o2 o3 : CmpOp) (a b c d : E) : E.quiet (.chn3 o1 o2 o3 a b c d) = (a.quiet && b.quiet && c.quiet && d.quiet) := (rfl)
@[simp] theorem quiet_rvs (a : E) : E.quiet (.rvs a) = a.quiet := (rfl)
@[simp] theorem quiet_binv (op : Operator) (i : Nat) (b : E) : E.quiet (.binv op i b) = b.quiet := (rfl)
@[simp] theorem quiet_rep (a k : E) : E.quiet (.rep a k) = false := (rfl)
@[simp] theorem quiet_frz (a : E) : E.quiet (.frz a) = false := (rfl)
@[simp] theorem quiet_ixv (i : Nat) (b : E) : E.quiet (.ixv i b) = b.quiet := (rfl)
@[simp] theorem quiet_isE (i : Nat) (ds : List Str) : E.quiet (.isE i ds) = true := (rfl)
@[simp] theorem quiet_call (f : Str) (es : List E) : E.quiet (.call f es) = false := (rfl)
@[simp] theorem quiet_callk (f : Str) (l : List Nat) (es ks : List E) : E.quiet (.callk f l es ks) = false := (rfl)
@[simp] theorem quiet_bi (f : BI) (es : List E) : E.quiet (.bi f es) = quietL es := (rfl)
@[simp] theorem quiet_pop (o : E) (es : List E) : E.quiet (.pop o es) = false := (rfl)
@[simp] theorem quiet_pm (m : PM) (o : E) (es : List E) : E.quiet (.pm m o es) = (o.quiet && quietL es) := (rfl)
@[simp] theorem quiet_comp (a : E) (t : Tg) (it : It) (cs : List E) (ow : List Nat) : E.quiet (.comp a t it cs ow) = false := (rfl)
@[simp] theorem quiet_tupI (it : It) : E.quiet (.tupI it) = it.quiet := (rfl)
@[simp] theorem quiet_lstI (it : It) : E.quiet (.lstI it) = it.quiet := (rfl)
@[simp] theorem quiet_isi (a : E) (t : List Ty) : E.quiet (.isi a t) = a.quiet := (rfl)
@[simp] theorem quiet_fld (i : Nat) (f : Str) : E.quiet (.fld i f) = true := (rfl)
@[simp] theorem root_non  : E.root (.non) = none := (rfl)
@[simp] theorem isBy_non  (m9 : Bool) (env : PEnv) : isBy m9 (.non) env = none := by cases m9 <;> rfl
@[simp] theorem ownE_non  (v : PV) (b9 : Bool) (env : PEnv) : ownE (.non) (v, b9) env = if b9 then .ok v env else .bad := by cases b9 <;> rfl
@[simp] theorem root_bl (b : Bool) : E.root (.bl b) = none := (rfl)
@[simp] theorem isBy_bl (b : Bool) (m9 : Bool) (env : PEnv) : isBy m9 (.bl b) env = none := by cases m9 <;> rfl
@[simp] theorem partE_bl (b : Bool) (v : PV) : partE (.bl b) v = intO v := (rfl)
@[simp] theorem ownE_bl (b : Bool) (v : PV) (b9 : Bool) (env : PEnv) : ownE (.bl b) (v, b9) env = if b9 then .ok v env else .bad := by cases b9 <;> rfl
@[simp] theorem root_int (i : Int) : E.root (.int i) = none := (rfl)
@[simp] theorem isBy_int (i : Int) (m9 : Bool) (env : PEnv) : isBy m9 (.int i) env = none := by cases m9 <;> rfl
@[simp] theorem partE_int (i : Int) (v : PV) : partE (.int i) v = intO v := (rfl)
@[simp] theorem ownE_int (i : Int) (v : PV) (b9 : Bool) (env : PEnv) : ownE (.int i) (v, b9) env = if b9 then .ok v env else .bad := by cases b9 <;> rfl
@[simp] theorem root_str (x : Str) : E.root (.str x) = none := (rfl)
@[simp] theorem isBy_str (x : Str) (m9 : Bool) (env : PEnv) : isBy m9 (.str x) env = none := by cases m9 <;> rfl
@[simp] theorem partE_str (x : Str) (v : PV) : partE (.str x) v = intO v := (rfl)
@[simp] theorem ownE_str (x : Str) (v : PV) (b9 : Bool) (env : PEnv) : ownE (.str x) (v, b9) env = if b9 then .ok v env else .bad := by cases b9 <;> rfl
@[simp] theorem root_glob (x : Str) : E.root (.glob x) = none := (rfl)
@[simp] theorem isBy_glob (x : Str) (m9 : Bool) (env : PEnv) : isBy m9 (.glob x) env = none := by cases m9 <;> rfl
@[simp] theorem partE_glob (x : Str) (v : PV) : partE (.glob x) v = intO v := (rfl)
@[simp] theorem ownE_glob (x : Str) (v : PV) (b9 : Bool) (env : PEnv) : ownE (.glob x) (v, b9) env = if b9 then .ok v env else .bad := by cases b9 <;> rfl
@[simp] theorem root_tup (es : List E) : E.root (.tup es) = none := (rfl)
@[simp] theorem isBy_tup (es : List E) (m9 : Bool) (env : PEnv) : isBy m9 (.tup es) env = none := by cases m9 <;> rfl
@[simp] theorem partE_tup (es : List E) (v : PV) : partE (.tup es) v = intO v := (rfl)
@[simp] theorem ownE_tup (es : List E) (v : PV) (b9 : Bool) (env : PEnv) : ownE (.tup es) (v, b9) env = if b9 then .ok v env else .bad := by cases b9 <;> rfl
@[simp] theorem root_lst (es : List E) : E.root (.lst es) = none := (rfl)
@[simp] theorem isBy_lst (es : List E) (m9 : Bool) (env : PEnv) : isBy m9 (.lst es) env = none := by cases m9 <;> rfl
@[simp] theorem partE_lst (es : List E) (v : PV) : partE (.lst es) v = intO v := (rfl)
@[simp] theorem ownE_lst (es : List E) (v : PV) (b9 : Bool) (env : PEnv) : ownE (.lst es) (v, b9) env = if b9 then .ok v env else .bad := by cases b9 <;> rfl
@[simp] theorem root_dict (es : List E) : E.root (.dict es) = none := (rfl)
@[simp] theorem isBy_dict (es : List E) (m9 : Bool) (env : PEnv) : isBy m9 (.dict es) env = none := by cases m9 <;> rfl
@[simp] theorem partE_dict (es : List E) (v : PV) : partE (.dict es) v = intO v := (rfl)
@[simp] theorem ownE_dict (es : List E) (v : PV) (b9 : Bool) (env : PEnv) : ownE (.dict es) (v, b9) env = if b9 then .ok v env else .bad := by cases b9 <;> rfl
@[simp] theorem root_bin (op : Operator) (a b : E) : E.root (.bin op a b) = none := (rfl)
@[simp] theorem isBy_bin (op : Operator) (a b : E) (m9 : Bool) (env : PEnv) : isBy m9 (.bin op a b) env = none := by cases m9 <;> rfl
@[simp] theorem partE_bin (op : Operator) (a b : E) (v : PV) : partE (.bin op a b) v = intO v := (rfl)
@[simp] theorem ownE_bin (op : Operator) (a b : E) (v : PV) (b9 : Bool) (env : PEnv) : ownE (.bin op a b) (v, b9) env = if b9 then .ok v env else .bad := by cases b9 <;> rfl
@[simp] theorem root_cmp (op : CmpOp) (a b : E) : E.root (.cmp op a b) = none := (rfl)
@[simp] theorem isBy_cmp (op : CmpOp) (a b : E) (m9 : Bool) (env : PEnv) : isBy m9 (.cmp op a b) env = none := by cases m9 <;> rfl
@[simp] theorem partE_cmp (op : CmpOp) (a b : E) (v : PV) : partE (.cmp op a b) v = intO v := (rfl)
@[simp] theorem ownE_cmp (op : CmpOp) (a b : E) (v : PV) (b9 : Bool) (env : PEnv) : ownE (.cmp op a b) (v, b9) env = if b9 then .ok v env else .bad := by cases b9 <;> rfl
@[simp] theorem root_neg (a : E) : E.root (.neg a) = none := (rfl)
@[simp] theorem isBy_neg (a : E) (m9 : Bool) (env : PEnv) : isBy m9 (.neg a) env = none := by cases m9 <;> rfl
@[simp] theorem partE_neg (a : E) (v : PV) : partE (.neg a) v = intO v := (rfl)
@[simp] theorem ownE_neg (a : E) (v : PV) (b9 : Bool) (env : PEnv) : ownE (.neg a) (v, b9) env = if b9 then .ok v env else .bad := by cases b9 <;> rfl
@[simp] theorem root_not (a : E) : E.root (.not a) = none := (rfl)
@[simp] theorem isBy_not (a : E) (m9 : Bool) (env : PEnv) : isBy m9 (.not a) env = none := by cases m9 <;> rfl
@[simp] theorem partE_not (a : E) (v : PV) : partE (.not a) v = intO v := (rfl)
@[simp] theorem ownE_not (a : E) (v : PV) (b9 : Bool) (env : PEnv) : ownE (.not a) (v, b9) env = if b9 then .ok v env else .bad := by cases b9 <;> rfl
@[simp] theorem root_isN (a : E) : E.root (.isN a) = none := (rfl)
@[simp] theorem isBy_isN (a : E) (m9 : Bool) (env : PEnv) : isBy m9 (.isN a) env = none := by cases m9 <;> rfl
@[simp] theorem partE_isN (a : E) (v : PV) : partE (.isN a) v = intO v := (rfl)
@[simp] theorem ownE_isN (a : E) (v : PV) (b9 : Bool) (env : PEnv) : ownE (.isN a) (v, b9) env = if b9 then .ok v env else .bad := by cases b9 <;> rfl
@[simp] theorem root_isNN (a : E) : E.root (.isNN a) = none := (rfl)
@[simp] theorem isBy_isNN (a : E) (m9 : Bool) (env : PEnv) : isBy m9 (.isNN a) env = none := by cases m9 <;> rfl
@[simp] theorem partE_isNN (a : E) (v : PV) : partE (.isNN a) v = intO v := (rfl)
@[simp] theorem ownE_isNN (a : E) (v : PV) (b9 : Bool) (env : PEnv) : ownE (.isNN a) (v, b9) env = if b9 then .ok v env else .bad := by cases b9 <;> rfl
@[simp] theorem root_and (a b : E) : E.root (.and a b) = none := (rfl)
@[simp] theorem isBy_and (a b : E) (m9 : Bool) (env : PEnv) : isBy m9 (.and a b) env = none := by cases m9 <;> rfl
@[simp] theorem partE_and (a b : E) (v : PV) : partE (.and a b) v = intO v := (rfl)
@[simp] theorem ownE_and (a b : E) (v : PV) (b9 : Bool) (env : PEnv) : ownE (.and a b) (v, b9) env = if b9 then .ok v env else .bad := by cases b9 <;> rfl
@[simp] theorem root_or (a b : E) : E.root (.or a b) = none := (rfl)
@[simp] theorem isBy_or (a b : E) (m9 : Bool) (env : PEnv) : isBy m9 (.or a b) env = none := by cases m9 <;> rfl
@[simp] theorem partE_or (a b : E) (v : PV) : partE (.or a b) v = intO v := (rfl)
@[simp] theorem ownE_or (a b : E) (v : PV) (b9 : Bool) (env : PEnv) : ownE (.or a b) (v, b9) env = if b9 then .ok v env else .bad := by cases b9 <;> rfl
@[simp] theorem root_ife (c a b : E) : E.root (.ife c a b) = none := (rfl)
@[simp] theorem isBy_ife (c a b : E) (m9 : Bool) (env : PEnv) : isBy m9 (.ife c a b) env = none := by cases m9 <;> rfl
@[simp] theorem partE_ife (c a b : E) (v : PV) : partE (.ife c a b) v = intO v := (rfl)
@[simp] theorem ownE_ife (c a b : E) (v : PV) (b9 : Bool) (env : PEnv) : ownE (.ife c a b) (v, b9) env = if b9 then .ok v env else .bad := by cases b9 <;> rfl
@[simp] theorem root_sl (a l h : E) : E.root (.sl a l h) = none := (rfl)
@[simp] theorem isBy_sl (a l h : E) (m9 : Bool) (env : PEnv) : isBy m9 (.sl a l h) env = none := by cases m9 <;> rfl
@[simp] theorem partE_sl (a l h : E) (v : PV) : partE (.sl a l h) v = intO v := (rfl)
@[simp] theorem ownE_sl (a l h : E) (v : PV) (b9 : Bool) (env : PEnv) : ownE (.sl a l h) (v, b9) env = if b9 then .ok v env else .bad := by cases b9 <;> rfl
@[simp] theorem root_chain (op op' : CmpOp) (a b c : E) : E.root (.chain op op' a b c) = none := (rfl)
@[simp] theorem isBy_chain (op op' : CmpOp) (a b c : E) (m9 : Bool) (env : PEnv) : isBy m9 (.chain op op' a b c) env = none := by cases m9 <;> rfl
@[simp] theorem partE_chain (op op' : CmpOp) (a b c : E) (v : PV) : partE (.chain op op' a b c) v = intO v := (rfl)
@[simp] theorem ownE_chain (op op' : CmpOp) (a b c : E) (v : PV) (b9 : Bool) (env : PEnv) : ownE (.chain op op' a b c) (v, b9) env = if b9 then .ok v env else .bad := by cases b9 <;> rfl
@[simp] theorem root_chn3 (o1 o2 o3 : CmpOp) (a b c d : E) : E.root (.chn3 o1 o2 o3 a b c d) = none := (rfl)
@[simp] theorem isBy_chn3 (o1 o2 o3 : CmpOp) (a b c d : E) (m9 : Bool) (env : PEnv) : isBy m9 (.chn3 o1 o2 o3 a b c d) env = none := by cases m9 <;> rfl
@[simp] theorem partE_chn3 (o1 o2 o3 : CmpOp) (a b c d : E) (v : PV) : partE (.chn3 o1 o2 o3 a b c d) v = intO v := (rfl)
@[simp] theorem ownE_chn3 (o1 o2 o3 : CmpOp) (a b c d : E) (v : PV) (b9 : Bool) (env : PEnv) : ownE (.chn3 o1 o2 o3 a b c d) (v, b9) env = if b9 then .ok v env else .bad := by cases b9 <;> rfl
@[simp] theorem root_rvs (a : E) : E.root (.rvs a) = none := (rfl)
@[simp] theorem isBy_rvs (a : E) (m9 : Bool) (env : PEnv) : isBy m9 (.rvs a) env = none := by cases m9 <;> rfl
@[simp] theorem partE_rvs (a : E) (v : PV) : partE (.rvs a) v = intO v := (rfl)
@[simp] theorem ownE_rvs (a : E) (v : PV) (b9 : Bool) (env : PEnv) : ownE (.rvs a) (v, b9) env = if b9 then .ok v env else .bad := by cases b9 <;> rfl
@[simp] theorem root_rep (a k : E) : E.root (.rep a k) = none := (rfl)
@[simp] theorem isBy_rep (a k : E) (m9 : Bool) (env : PEnv) : isBy m9 (.rep a k) env = none := by cases m9 <;> rfl
@[simp] theorem partE_rep (a k : E) (v : PV) : partE (.rep a k) v = intO v := (rfl)
@[simp] theorem ownE_rep (a k : E) (v : PV) (b9 : Bool) (env : PEnv) : ownE (.rep a k) (v, b9) env = if b9 then .ok v env else .bad := by cases b9 <;> rfl
@[simp] theorem root_frz (a : E) : E.root (.frz a) = none := (rfl)
@[simp] theorem isBy_frz (a : E) (m9 : Bool) (env : PEnv) : isBy m9 (.frz a) env = none := by cases m9 <;> rfl
@[simp] theorem partE_frz (a : E) (v : PV) : partE (.frz a) v = intO v := (rfl)
@[simp] theorem ownE_frz (a : E) (v : PV) (b9 : Bool) (env : PEnv) : ownE (.frz a) (v, b9) env = if b9 then .ok v env else .bad := by cases b9 <;> rfl
@[simp] theorem root_ixv (i : Nat) (b : E) : E.root (.ixv i b) = none := (rfl)
@[simp] theorem isBy_ixv (i : Nat) (b : E) (m9 : Bool) (env : PEnv) : isBy m9 (.ixv i b) env = none := by cases m9 <;> rfl
@[simp] theorem partE_ixv (i : Nat) (b : E) (v : PV) : partE (.ixv i b) v = intO v := (rfl)
@[simp] theorem ownE_ixv (i : Nat) (b : E) (v : PV) (b9 : Bool) (env : PEnv) : ownE (.ixv i b) (v, b9) env = if b9 then .ok v env else .bad := by cases b9 <;> rfl
@[simp] theorem root_binv (op : Operator) (i : Nat) (b : E) : E.root (.binv op i b) = none := (rfl)
@[simp] theorem isBy_binv (op : Operator) (i : Nat) (b : E) (m9 : Bool) (env : PEnv) : isBy m9 (.binv op i b) env = none := by cases m9 <;> rfl
@[simp] theorem partE_binv (op : Operator) (i : Nat) (b : E) (v : PV) : partE (.binv op i b) v = intO v := (rfl)
@[simp] theorem ownE_binv (op : Operator) (i : Nat) (b : E) (v : PV) (b9 : Bool) (env : PEnv) : ownE (.binv op i b) (v, b9) env = if b9 then .ok v env else .bad := by cases b9 <;> rfl
@[simp] theorem root_isE (i : Nat) (ds : List Str) : E.root (.isE i ds) = none := (rfl)
@[simp] theorem isBy_isE (i : Nat) (ds : List Str) (m9 : Bool) (env : PEnv) : isBy m9 (.isE i ds) env = none := by cases m9 <;> rfl
@[simp] theorem partE_isE (i : Nat) (ds : List Str) (v : PV) : partE (.isE i ds) v = intO v := (rfl)
@[simp] theorem ownE_isE (i : Nat) (ds : List Str) (v : PV) (b9 : Bool) (env : PEnv) : ownE (.isE i ds) (v, b9) env = if b9 then .ok v env else .bad := by cases b9 <;> rfl
@[simp] theorem root_call (f : Str) (es : List E) : E.root (.call f es) = none := (rfl)
@[simp] theorem isBy_call (f : Str) (es : List E) (m9 : Bool) (env : PEnv) : isBy m9 (.call f es) env = none := by cases m9 <;> rfl
@[simp] theorem partE_call (f : Str) (es : List E) (v : PV) : partE (.call f es) v = intO v := (rfl)
@[simp] theorem ownE_call (f : Str) (es : List E) (v : PV) (b9 : Bool) (env : PEnv) : ownE (.call f es) (v, b9) env = if b9 then .ok v env else .bad := by cases b9 <;> rfl
@[simp] theorem root_callk (f : Str) (l : List Nat) (es ks : List E) : E.root (.callk f l es ks) = none := (rfl)
@[simp] theorem isBy_callk (f : Str) (l : List Nat) (es ks : List E) (m9 : Bool) (env : PEnv) : isBy m9 (.callk f l es ks) env = none := by cases m9 <;> rfl
@[simp] theorem partE_callk (f : Str) (l : List Nat) (es ks : List E) (v : PV) : partE (.callk f l es ks) v = intO v := (rfl)
@[simp] theorem ownE_callk (f : Str) (l : List Nat) (es ks : List E) (v : PV) (b9 : Bool) (env : PEnv) : ownE (.callk f l es ks) (v, b9) env = if b9 then .ok v env else .bad := by cases b9 <;> rfl
@[simp] theorem root_bi (f : BI) (es : List E) : E.root (.bi f es) = none := (rfl)
@[simp] theorem isBy_bi (f : BI) (es : List E) (m9 : Bool) (env : PEnv) : isBy m9 (.bi f es) env = none := by cases m9 <;> rfl
@[simp] theorem partE_bi (f : BI) (es : List E) (v : PV) : partE (.bi f es) v = intO v := (rfl)
@[simp] theorem ownE_bi (f : BI) (es : List E) (v : PV) (b9 : Bool) (env : PEnv) : ownE (.bi f es) (v, b9) env = if b9 then .ok v env else .bad := by cases b9 <;> rfl
@[simp] theorem root_pop (o : E) (es : List E) : E.root (.pop o es) = none := (rfl)
@[simp] theorem isBy_pop (o : E) (es : List E) (m9 : Bool) (env : PEnv) : isBy m9 (.pop o es) env = none := by cases m9 <;> rfl
@[simp] theorem partE_pop (o : E) (es : List E) (v : PV) : partE (.pop o es) v = intO v := (rfl)
@[simp] theorem ownE_pop (o : E) (es : List E) (v : PV) (b9 : Bool) (env : PEnv) : ownE (.pop o es) (v, b9) env = if b9 then .ok v env else .bad := by cases b9 <;> rfl
@[simp] theorem root_pm (m : PM) (o : E) (es : List E) : E.root (.pm m o es) = none := (rfl)
@[simp] theorem isBy_pm (m : PM) (o : E) (es : List E) (m9 : Bool) (env : PEnv) : isBy m9 (.pm m o es) env = none := by cases m9 <;> rfl
@[simp] theorem partE_pm (m : PM) (o : E) (es : List E) (v : PV) : partE (.pm m o es) v = intO v := (rfl)
@[simp] theorem ownE_pm (m : PM) (o : E) (es : List E) (v : PV) (b9 : Bool) (env : PEnv) : ownE (.pm m o es) (v, b9) env = if b9 then .ok v env else .bad := by cases b9 <;> rfl
@[simp] theorem root_comp (a : E) (t : Tg) (it : It) (cs : List E) (ow : List Nat) : E.root (.comp a t it cs ow) = none := (rfl)
@[simp] theorem isBy_comp (a : E) (t : Tg) (it : It) (cs : List E) (ow : List Nat) (m9 : Bool) (env : PEnv) : isBy m9 (.comp a t it cs ow) env = none := by cases m9 <;> rfl
@[simp] theorem partE_comp (a : E) (t : Tg) (it : It) (cs : List E) (ow : List Nat) (v : PV) : partE (.comp a t it cs ow) v = intO v := (rfl)
@[simp] theorem ownE_comp (a : E) (t : Tg) (it : It) (cs : List E) (ow : List Nat) (v : PV) (b9 : Bool) (env : PEnv) : ownE (.comp a t it cs ow) (v, b9) env = if b9 then .ok v env else .bad := by cases b9 <;> rfl
@[simp] theorem root_tupI (it : It) : E.root (.tupI it) = none := (rfl)
@[simp] theorem isBy_tupI (it : It) (m9 : Bool) (env : PEnv) : isBy m9 (.tupI it) env = none := by cases m9 <;> rfl
@[simp] theorem partE_tupI (it : It) (v : PV) : partE (.tupI it) v = intO v := (rfl)
@[simp] theorem ownE_tupI (it : It) (v : PV) (b9 : Bool) (env : PEnv) : ownE (.tupI it) (v, b9) env = if b9 then .ok v env else .bad := by cases b9 <;> rfl
@[simp] theorem root_lstI (it : It) : E.root (.lstI it) = none := (rfl)
@[simp] theorem isBy_lstI (it : It) (m9 : Bool) (env : PEnv) : isBy m9 (.lstI it) env = none := by cases m9 <;> rfl
@[simp] theorem partE_lstI (it : It) (v : PV) : partE (.lstI it) v = intO v := (rfl)
@[simp] theorem ownE_lstI (it : It) (v : PV) (b9 : Bool) (env : PEnv) : ownE (.lstI it) (v, b9) env = if b9 then .ok v env else .bad := by cases b9 <;> rfl
@[simp] theorem root_isi (a : E) (t : List Ty) : E.root (.isi a t) = none := (rfl)
@[simp] theorem isBy_isi (a : E) (t : List Ty) (m9 : Bool) (env : PEnv) : isBy m9 (.isi a t) env = none := by cases m9 <;> rfl
@[simp] theorem partE_isi (a : E) (t : List Ty) (v : PV) : partE (.isi a t) v = intO v := (rfl)
@[simp] theorem ownE_isi (a : E) (t : List Ty) (v : PV) (b9 : Bool) (env : PEnv) : ownE (.isi a t) (v, b9) env = if b9 then .ok v env else .bad := by cases b9 <;> rfl
@[simp] theorem root_fld (i : Nat) (f : Str) : E.root (.fld i f) = none := (rfl)
@[simp] theorem isBy_fld (i : Nat) (f : Str) (m9 : Bool) (env : PEnv) : isBy m9 (.fld i f) env = none := by cases m9 <;> rfl
@[simp] theorem partE_fld (i : Nat) (f : Str) (v : PV) : partE (.fld i f) v = intO v := (rfl)
@[simp] theorem ownE_fld (i : Nat) (f : Str) (v : PV) (b9 : Bool) (env : PEnv) : ownE (.fld i f) (v, b9) env = if b9 then .ok v env else .bad := by cases b9 <;> rfl
@[simp] theorem root_var (i : Nat) : E.root (.var i) = some i := (rfl)
@[simp] theorem root_ix (a k : E) : E.root (.ix a k) = a.root := (rfl)
@[simp] theorem isBy_ix (a k : E) (m : Bool) (env : PEnv) : isBy m (.ix a k) env = none := by cases m <;> rfl
@[simp] theorem isBy_var (i : Nat) (m : Bool) (env : PEnv) : isBy m (.var i) env = if m then (match getM env i with | some v => if v.imm then none else some i | none => none) else none := (rfl)
@[simp] theorem partE_non (v : PV) : partE .non v = some none := (rfl)
@[simp] theorem partE_var (i : Nat) (v : PV) : partE (.var i) v = intO v := (rfl)
@[simp] theorem partE_ix (a k : E) (v : PV) : partE (.ix a k) v = intO v := (rfl)
@[simp] theorem ownE_ix (a k : E) (v : PV) (b : Bool) (env : PEnv) : ownE (.ix a k) (v, b) env = if b then .ok v env else .bad := by cases b <;> rfl
@[simp] theorem ownE_var (i : Nat) (v : PV) (b : Bool) (env : PEnv) : ownE (.var i) (v, b) env = if b then .ok v env else (match env[i]? with | some (.ow v) => .ok v (env.set i .un) | _ => .bad) := by cases b <;> rfl
/-- what stands behind ownE where a value is not its own -/
def ownN (e : E) (env : PEnv) : R PV := match e with
  | .var i => match env[i]? with
    | some (.ow v) => .ok v (env.set i .un)
    | _ => .bad
  | _ => .bad
@[simp] theorem ownN_var (i : Nat) (env : PEnv) : ownN (.var i) env = (match env[i]? with
    | some (.ow v) => .ok v (env.set i .un)
    | _ => .bad) := (rfl)
@[simp↓] theorem el_ownE {γ : Type} (e : E) (r : PV × Bool) (env : PEnv) (f : PV → PEnv → γ) (g : Str → List PV → PEnv → γ) (z : γ) : (ownE e r env).elim f g z = if r.2 = true then f r.1 env else (ownN e env).elim f g z := by
  unfold ownE ownN
  by_cases h : r.2 = true
  · rw [if_pos h, if_pos h]
    all_goals rfl
  · rw [if_neg h, if_neg h]
    all_goals (cases e <;> rfl)
@[simp↓] theorem el_callR {γ : Type} (d : Def) (cf : List PV → CR) (as : List AV) (env : PEnv) (f : PV × Bool → PEnv → γ) (g : Str → List PV → PEnv → γ) (z : γ) : (callR d cf as env).elim f g z =
    (if (valsA env as).isSome = true then (fun vs => if (bysA as).Nodup ∧ apart (bysA as) as = true then
        (cf vs).on (fun v outs => if (outsA env d.muts as outs).isSome = true then f (v, true) (oget (outsA env d.muts as outs)) else z)
          (fun c fs outs => if (outsA env d.muts as outs).isSome = true then g c fs (oget (outsA env d.muts as outs)) else z) z
      else z) (oget (valsA env as)) else z) := by
  unfold callR
  cases valsA env as with
  | none => rfl
  | some vs =>
    simp only [oget_some, Option.isSome_some, if_pos]
    rw [el_ite]
    congr 1
    cases cf vs with
    | bad => rfl
    | ok v os => dsimp only [CR.on]; cases outsA env d.muts as os <;> rfl
    | exc c fs os => dsimp only [CR.on]; cases outsA env d.muts as os <;> rfl
@[simp↓] theorem el_mutP {α γ : Type} [Inhabited α] (env : PEnv) (i : Nat) (ks : List PV) (h : PV → Option (PV × α)) (f : α → PEnv → γ) (g : Str → List PV → PEnv → γ) (z : γ) : (mutP env i ks h).elim f g z =
    (if (getM env i).isSome = true then (fun v => if (getP v ks).isSome = true then (fun r => if r.isSome = true then (fun s => if s.isSome = true then f (oget r).2 (putS env i (oget s)) else z) (setP v ks (oget r).1) else z) (h (oget (getP v ks))) else z) (oget (getM env i)) else z) := by
  unfold mutP
  cases getM env i with
  | none => rfl
  | some v =>
    simp only [oget_some, Option.isSome_some, if_pos]
    cases getP v ks with
    | none => rfl
    | some w =>
      simp only [oget_some, Option.isSome_some, if_pos]
      cases h w with
      | none => rfl
      | some r =>
        obtain ⟨w', r⟩ := r
        simp only [oget_some, Option.isSome_some, if_pos]
        cases setP v ks w' <;> rfl
@[simp] theorem setI_lst (vs : List PV) (i : Int) (x : PV) : setI (.lst vs) (.int i) x = (ixN vs.length i).map fun j => .lst (vs.set j x) := (rfl)
@[simp] theorem setI_dct (ks : List Key) (vs : List PV) (k x : PV) : setI (.dct ks vs) k x = (keyI k).bind fun q => if ks.length < sizeLine then some (let r := setK q x ks vs; .dct r.1 r.2) else none := (rfl)
@[simp] theorem pb_atI {α : Type} (xs : List α) (i : Int) : atI xs i = (ixN xs.length i).bind fun j => xs[j]? := (rfl)
@[simp] theorem exHs_nil (p : Prog) (cf : Str → List PV → CR) (fu : Nat) (c : Str) (fs : List PV) (env : PEnv) : exHs p cf fu [] c fs env = .exc c fs env := (rfl)
@[simp] theorem exHs_none (p : Prog) (cf : Str → List PV → CR) (fu : Nat) (ds : List Str) (suite : List S) (hs : List (List Str × Option Nat × List S)) (c : Str) (fs : List PV) (env : PEnv) : exHs p cf fu ((ds, none, suite) :: hs) c fs env = if isUnder p c ds then (exSs p cf fu suite env).nox else exHs p cf fu hs c fs env := by
  have e : exHs p cf fu ((ds, none, suite) :: hs) c fs env = (if isUnder p c ds then (match exSs p cf fu suite env with | .exc _ _ _ => .bad | r => r) else exHs p cf fu hs c fs env) := rfl
  rw [e]; cases exSs p cf fu suite env <;> rfl
@[simp] theorem outs_nil (env : PEnv) : outs [] env = some [] := by cases env <;> rfl
@[simp] theorem outs_t (ms : List Bool) (v : PV) (env : PEnv) : outs (true :: ms) (.rf v :: env) = (outs ms env).map (v :: ·) := (rfl)
@[simp] theorem outs_f (ms : List Bool) (s : Slot) (env : PEnv) : outs (false :: ms) (s :: env) = outs ms env := (rfl)
@[simp] theorem callEnd_exc (d : Def) (c : Str) (fs : List PV) (env : PEnv) : DI.callEnd d (.exc c fs env) = (match outs d.muts env with | some os => .exc c fs os | none => .bad) := (rfl)
@[simp] theorem zipL_nil (l : List PV) : zipL [] l = [] := by cases l <;> rfl
@[simp] theorem zipL_cons (a b : PV) (l m : List PV) : zipL (a :: l) (b :: m) = .tup [a, b] :: zipL l m := (rfl)
@[simp] theorem tyOf_non (t : Ty) : tyOf .non t = (match t with | .cls _ => none | t => some (decide (t = .none))) := by cases t <;> rfl
@[simp] theorem tyOf_bl (b : Bool) (t : Ty) : tyOf (.bl b) t = (match t with | .cls _ => none | t => some (decide (t = .bool) || decide (t = .int))) := by cases t <;> rfl
@[simp] theorem tyOf_int (i : Int) (t : Ty) : tyOf (.int i) t = (match t with | .cls _ => none | t => some (decide (t = .int))) := by cases t <;> rfl
@[simp] theorem tyOf_str (x : Str) (t : Ty) : tyOf (.str x) t = (match t with | .cls _ => none | t => some (decide (t = .str))) := by cases t <;> rfl
@[simp] theorem tyOf_tup (vs : List PV) (t : Ty) : tyOf (.tup vs) t = (match t with | .cls _ => none | t => some (decide (t = .tuple))) := by cases t <;> rfl
@[simp] theorem tyOf_lst (vs : List PV) (t : Ty) : tyOf (.lst vs) t = (match t with | .cls _ => none | t => some (decide (t = .list))) := by cases t <;> rfl
@[simp] theorem tyOf_fls (vs : List PV) (t : Ty) : tyOf (.fls vs) t = (match t with | .cls _ => none | t => some (decide (t = .list))) := by cases t <;> rfl
@[simp] theorem fix_un : Slot.un.fix = false := (rfl)
@[simp] theorem fix_ow (v : PV) : (Slot.ow v).fix = false := (rfl)
@[simp] theorem fix_rf (v : PV) : (Slot.rf v).fix = true := (rfl)
@[simp] theorem fix_ro (k : Bool) (v : PV) : (Slot.ro k v).fix = k := by cases k <;> rfl
theorem le_line {n : Nat} (h : n ≤ 16000000) : n ≤ sizeLine := Nat.le_trans h (by decide)
theorem lt_line {n : Nat} (h : n < 16000000) : n < sizeLine := Nat.lt_of_lt_of_le h (by decide)
@[simp] theorem le_lineS {n : Nat} (h : n ≤ 16000000) : (n ≤ sizeLine) = True := eq_true (le_line h)
@[simp] theorem lt_lineS {n : Nat} (h : n < 16000000) : (n < sizeLine) = True := eq_true (lt_line h)
@[simp] theorem eqv_int (a b : Int) : (PV.int a).eqv (.int b) = (a == b) := by unfold PV.eqv; rfl
@[simp] theorem eqv_str (a b : Str) : (PV.str a).eqv (.str b) = decide (a = b) := by unfold PV.eqv; rfl
@[simp] theorem eqv_bl (a b : Bool) : (PV.bl a).eqv (.bl b) = (a == b) := by unfold PV.eqv; rfl
@[simp] theorem eqv_tup (a b : List PV) : (PV.tup a).eqv (.tup b) = eqvL a b := by unfold PV.eqv; rfl
@[simp] theorem eqv_lst (a b : List PV) : (PV.lst a).eqv (.lst b) = eqvL a b := by unfold PV.eqv; rfl
@[simp] theorem eqvL_nil : eqvL [] [] = true := by unfold eqvL; rfl
@[simp] theorem eqvL_cons (a b : PV) (r q : List PV) : eqvL (a :: r) (b :: q) = (a.eqv b && eqvL r q) := by simp only [eqvL]
@[simp] theorem eqvL_nc (b : PV) (q : List PV) : eqvL [] (b :: q) = false := by unfold eqvL; rfl
@[simp] theorem eqvL_cn (b : PV) (q : List PV) : eqvL (b :: q) [] = false := by unfold eqvL; rfl
@[simp] theorem rangeI_one (n : Int) : rangeI [.int n] = (if fits62 n then some (rangeL 0 n.toNat) else none) := (rfl)
@[simp] theorem rangeI_two (a b : Int) : rangeI [.int a, .int b] = (if fits62 a && fits62 b then some (rangeL a (b - a).toNat) else none) := (rfl)
theorem fits62_of {i : Int} (h : -4000000000000000000 ≤ i) (h' : i ≤ 4000000000000000000) : fits62 i = true := by
  cases i with
  | ofNat n =>
    have e : Int.ofNat n = (n : Int) := rfl
    rw [e] at h h'
    exact Nat.ble_eq_true_of_le (by omega)
  | negSucc n =>
    rw [Int.negSucc_eq] at h h'
    exact Nat.ble_eq_true_of_le (by omega)
theorem fits64_of {i : Int} (h : -4000000000000000000 ≤ i) (h' : i ≤ 4000000000000000000) : fits64 i = true := by
  cases i with
  | ofNat n =>
    have e : Int.ofNat n = (n : Int) := rfl
    rw [e] at h h'
    exact Nat.ble_eq_true_of_le (by omega)
  | negSucc n =>
    rw [Int.negSucc_eq] at h h'
    exact Nat.ble_eq_true_of_le (by omega)
theorem rangeL_map (lo : Int) : ∀ n : Nat, rangeL lo n = (List.range n).map fun (i : Nat) => PV.int (lo + (i : Int)) := by
  intro n
  induction n generalizing lo with
  | zero => rfl
  | succ n ih =>
    rw [List.range_succ_eq_map, List.map_cons, List.map_map]
    show PV.int lo :: rangeL (lo + 1) n = _
    rw [ih]
    congr 1
    · simp
    · apply List.map_congr_left
      intro i _
      simp only [Function.comp]
      congr 1
      simp
      omega
/-- a question that is not looked into -/
@[irreducible] def Prx (P : Prop) : Prop := P
@[simp↓] theorem Prx_eq (P : Prop) : Prx P = P := by unfold Prx; rfl
theorem Prx.of {P : Prop} (h : Prx P) : P := by rwa [Prx_eq] at h
theorem el_eq {α : Type} {r : R α} {a : α} {e : PEnv} (h : r.elim (fun x y => x = a ∧ y = e) (fun _ _ _ => False) False) : r = .ok a e := by
  cases r with
  | ok x y => obtain ⟨rfl, rfl⟩ := h; rfl
  | exc => exact h.elim
  | bad => exact h.elim
/-! ### what follows a body -/
section
variable {p : Prog} {cf : Str → List PV → CR} {fu : Nat}
@[simp] theorem exS_par (ws : List Nat) (es : List E) (env : PEnv) : exS p cf fu (.par ws es) env = (evO p cf es env).elim (fun vs env1 => if (bindTs true (ws.map .v) vs env1).isSome = true then .nx (oget (bindTs true (ws.map .v) vs env1)) else .bad) .exc .bad := by
  have e : exS p cf fu (.par ws es) env = (evO p cf es env).st fun vs env => match bindTs true (ws.map .v) vs env with | some env' => .nx env' | none => .bad := rfl
  rw [e, st_elim]; congr 1; funext vs e1; cases bindTs true (ws.map .v) vs e1 <;> rfl
/-- K holds of an end -/
def Kp (K : SR → Prop) (r : SR) : Prop := K r
/-- the rows that are left, then K -/
def Kc (p : Prog) (cf : Str → List PV → CR) (fu : Nat) (K : SR → Prop) (ss : List S) : SR → Prop
  | .nx env => K (exSs p cf fu ss env)
  | r => K r
@[simp] theorem Kp_nil (K : SR → Prop) (env : PEnv) : Kp K (exSs p cf fu [] env) = Kp K (.nx env) := (rfl)
@[simp] theorem Kp_cons (K : SR → Prop) (s : S) (ss : List S) (env : PEnv) : Kp K (exSs p cf fu (s :: ss) env) = Kp (Kc p cf fu K ss) (exS p cf fu s env) := by
  unfold Kp
  have e : exSs p cf fu (s :: ss) env = (match exS p cf fu s env with | .nx env => exSs p cf fu ss env | r => r) := rfl
  rw [e]
  cases exS p cf fu s env <;> rfl
@[simp] theorem Kc_nx (K : SR → Prop) (ss : List S) (env : PEnv) : Kp (Kc p cf fu K ss) (.nx env) = Kp K (exSs p cf fu ss env) := (rfl)
@[simp] theorem Kc_ret (K : SR → Prop) (ss : List S) (v : PV) (env : PEnv) : Kp (Kc p cf fu K ss) (.ret v env) = Kp K (.ret v env) := (rfl)
@[simp] theorem Kc_brk (K : SR → Prop) (ss : List S) (env : PEnv) : Kp (Kc p cf fu K ss) (.brk env) = Kp K (.brk env) := (rfl)
@[simp] theorem Kc_cnt (K : SR → Prop) (ss : List S) (env : PEnv) : Kp (Kc p cf fu K ss) (.cnt env) = Kp K (.cnt env) := (rfl)
@[simp] theorem Kc_exc (K : SR → Prop) (ss : List S) (c : Str) (fs : List PV) (env : PEnv) : Kp (Kc p cf fu K ss) (.exc c fs env) = Kp K (.exc c fs env) := (rfl)
/-- a turn's end: the next turn N, or what is behind the loop -/
def KL (N : PEnv → Prop) (K : SR → Prop) : SR → Prop
  | .nx env => N env
  | .cnt env => N env
  | .brk env => K (.nx env)
  | .ret v env => K (.ret v env)
  | .exc c fs env => K (.exc c fs env)
  | .bad => False
@[simp] theorem KL_nx (N : PEnv → Prop) (K : SR → Prop) (env : PEnv) : Kp (KL N K) (.nx env) = N env := (rfl)
@[simp] theorem KL_cnt (N : PEnv → Prop) (K : SR → Prop) (env : PEnv) : Kp (KL N K) (.cnt env) = N env := (rfl)
@[simp] theorem KL_brk (N : PEnv → Prop) (K : SR → Prop) (env : PEnv) : Kp (KL N K) (.brk env) = Kp K (.nx env) := (rfl)
@[simp] theorem KL_ret (N : PEnv → Prop) (K : SR → Prop) (v : PV) (env : PEnv) : Kp (KL N K) (.ret v env) = Kp K (.ret v env) := (rfl)
@[simp] theorem KL_exc (N : PEnv → Prop) (K : SR → Prop) (c : Str) (fs : List PV) (env : PEnv) : Kp (KL N K) (.exc c fs env) = Kp K (.exc c fs env) := (rfl)
/-- a lock is taken away -/
def KU (env0 : PEnv) (lk : List Nat) (K : SR → Prop) (r : SR) : Prop := K (r.unlock env0 lk)
@[simp] theorem unlock_nil (env0 : PEnv) (r : SR) : r.unlock env0 [] = r := by cases r <;> rfl
@[simp] theorem KU_nil (env0 : PEnv) (K : SR → Prop) (r : SR) : Kp (KU env0 [] K) r = Kp K r := by unfold Kp KU; rw [unlock_nil]
@[simp] theorem KU_nx (env0 : PEnv) (i : Nat) (lk : List Nat) (K : SR → Prop) (env : PEnv) : Kp (KU env0 (i :: lk) K) (.nx env) = Kp K (if (unlockS env0 env (i :: lk)).isSome = true then .nx (oget (unlockS env0 env (i :: lk))) else .bad) := by show K (match unlockS env0 env (i :: lk) with | some e => .nx e | none => .bad) = K _; cases unlockS env0 env (i :: lk) <;> rfl
@[simp] theorem KU_ret (env0 : PEnv) (i : Nat) (lk : List Nat) (K : SR → Prop) (v : PV) (env : PEnv) : Kp (KU env0 (i :: lk) K) (.ret v env) = Kp K (if (unlockS env0 env (i :: lk)).isSome = true then .ret v (oget (unlockS env0 env (i :: lk))) else .bad) := by show K (match unlockS env0 env (i :: lk) with | some e => .ret v e | none => .bad) = K _; cases unlockS env0 env (i :: lk) <;> rfl
@[simp] theorem KU_exc (env0 : PEnv) (i : Nat) (lk : List Nat) (K : SR → Prop) (c : Str) (fs : List PV) (env : PEnv) : Kp (KU env0 (i :: lk) K) (.exc c fs env) = Kp K (if (unlockS env0 env (i :: lk)).isSome = true then .exc c fs (oget (unlockS env0 env (i :: lk))) else .bad) := by show K (match unlockS env0 env (i :: lk) with | some e => .exc c fs e | none => .bad) = K _; cases unlockS env0 env (i :: lk) <;> rfl
/-- a handler -/
def KT (p : Prog) (cf : Str → List PV → CR) (fu : Nat) (hs : List (List Str × Option Nat × List S)) (K : SR → Prop) : SR → Prop
  | .exc c fs env => K (exHs p cf fu hs c fs env)
  | r => K r
@[simp] theorem Kp_try (K : SR → Prop) (body : List S) (hs : List (List Str × Option Nat × List S)) (env : PEnv) : Kp K (exS p cf fu (.try body hs) env) = Kp (KT p cf fu hs K) (exSs p cf fu body env) := by
  unfold Kp
  have e : exS p cf fu (.try body hs) env = (match exSs p cf fu body env with | .exc c fs env => exHs p cf fu hs c fs env | r => r) := rfl
  rw [e]
  cases exSs p cf fu body env <;> rfl
@[simp] theorem KT_nx (hs : List (List Str × Option Nat × List S)) (K : SR → Prop) (env : PEnv) : Kp (KT p cf fu hs K) (.nx env) = Kp K (.nx env) := (rfl)
@[simp] theorem KT_ret (hs : List (List Str × Option Nat × List S)) (K : SR → Prop) (v : PV) (env : PEnv) : Kp (KT p cf fu hs K) (.ret v env) = Kp K (.ret v env) := (rfl)
@[simp] theorem KT_brk (hs : List (List Str × Option Nat × List S)) (K : SR → Prop) (env : PEnv) : Kp (KT p cf fu hs K) (.brk env) = Kp K (.brk env) := (rfl)
@[simp] theorem KT_cnt (hs : List (List Str × Option Nat × List S)) (K : SR → Prop) (env : PEnv) : Kp (KT p cf fu hs K) (.cnt env) = Kp K (.cnt env) := (rfl)
@[simp] theorem KT_exc (hs : List (List Str × Option Nat × List S)) (K : SR → Prop) (c : Str) (fs : List PV) (env : PEnv) : Kp (KT p cf fu hs K) (.exc c fs env) = Kp K (exHs p cf fu hs c fs env) := (rfl)
/-- an unnamed handler's suite -/
def KNx (K : SR → Prop) (r : SR) : Prop := K r.nox
@[simp] theorem Kp_nox (K : SR → Prop) (r : SR) : Kp K r.nox = Kp (KNx K) r := (rfl)
@[simp] theorem KNx_nx (K : SR → Prop) (env : PEnv) : Kp (KNx K) (.nx env) = Kp K (.nx env) := (rfl)
@[simp] theorem KNx_ret (K : SR → Prop) (v : PV) (env : PEnv) : Kp (KNx K) (.ret v env) = Kp K (.ret v env) := (rfl)
@[simp] theorem KNx_brk (K : SR → Prop) (env : PEnv) : Kp (KNx K) (.brk env) = Kp K (.brk env) := (rfl)
@[simp] theorem KNx_cnt (K : SR → Prop) (env : PEnv) : Kp (KNx K) (.cnt env) = Kp K (.cnt env) := (rfl)
/-- a named handler -/
def KH (i : Nat) (K : SR → Prop) : SR → Prop
  | .nx env => K (.nx (env.set i .un))
  | .brk env => K (.brk (env.set i .un))
  | .cnt env => K (.cnt (env.set i .un))
  | .ret v env => K (.ret v (env.set i .un))
  | _ => K .bad
@[simp] theorem KH_nx (i : Nat) (K : SR → Prop) (env : PEnv) : Kp (KH i K) (.nx env) = Kp K (.nx (env.set i .un)) := (rfl)
@[simp] theorem KH_ret (i : Nat) (K : SR → Prop) (v : PV) (env : PEnv) : Kp (KH i K) (.ret v env) = Kp K (.ret v (env.set i .un)) := (rfl)
def slE : Option Slot → Bool
  | some .un => true
  | some (.ow _) => true
  | some (.ro false _) => true
  | _ => false
@[simp] theorem slE_un : slE (some .un) = true := (rfl)
@[simp] theorem slE_ow (v : PV) : slE (some (.ow v)) = true := (rfl)
@[simp] theorem slE_ro (v : PV) : slE (some (.ro false v)) = true := (rfl)
@[simp] theorem Kp_exHs_some (ds : List Str) (i : Nat) (K : SR → Prop) (c : Str) (fs : List PV) (suite : List S) (hs : List (List Str × Option Nat × List S)) (env : PEnv) : Kp K (exHs p cf fu ((ds, some i, suite) :: hs) c fs env) =
    if isUnder p c ds = true then (if slE env[i]? = true then Kp (KH i K) (exSs p cf fu suite (env.set i (.ro true (.err c fs)))) else Kp K .bad) else Kp K (exHs p cf fu hs c fs env) := by
  have e : exHs p cf fu ((ds, some i, suite) :: hs) c fs env = (if isUnder p c ds then (match env[i]? with
        | some (.rf _) => .bad
        | some (.ro true _) => .bad
        | some _ => match exSs p cf fu suite (env.set i (.ro true (.err c fs))) with
          | .nx env => .nx (env.set i .un)
          | .brk env => .brk (env.set i .un)
          | .cnt env => .cnt (env.set i .un)
          | .ret v env => .ret v (env.set i .un)
          | _ => .bad
        | none => .bad) else exHs p cf fu hs c fs env) := rfl
  rw [e]
  have g : Kp K (match exSs p cf fu suite (env.set i (.ro true (.err c fs))) with
          | .nx env => .nx (env.set i .un)
          | .brk env => .brk (env.set i .un)
          | .cnt env => .cnt (env.set i .un)
          | .ret v env => .ret v (env.set i .un)
          | _ => .bad) = Kp (KH i K) (exSs p cf fu suite (env.set i (.ro true (.err c fs)))) := by
    cases exSs p cf fu suite (env.set i (.ro true (.err c fs))) <;> rfl
  by_cases hu : isUnder p c ds = true
  · rw [if_pos hu, if_pos hu, ← g]
    cases env[i]? with
    | none => rfl
    | some s => cases s with
      | un => rfl
      | ow v => rfl
      | rf v => rfl
      | ro k v => cases k <;> rfl
  · rw [if_neg hu, if_neg hu]
/-! ### loops -/
theorem for_run {α : Type} {tg : Tg} {body : List S} {K : SR → Prop} (f : α → PV) (I : List α → PEnv → Prop)
    (step : ∀ (a : α) (r : List α) (e : PEnv) (N : PEnv → Prop), I (a :: r) e → (∀ e', I r e' → N e') → Kp (KL N K) (if (bindT false tg (f a) e).isSome = true then exSs p cf fu body (oget (bindT false tg (f a) e)) else .bad))
    (fin : ∀ e, I [] e → Kp K (.nx e)) : ∀ (l : List α) (env : PEnv), I l env → Kp K (forI (bindT false tg) (exSs p cf fu body) (l.map f) env)
  | [], env, h => fin env h
  | a :: l, env, h => by
    have hs := step a l env (fun e' => Kp K (forI (bindT false tg) (exSs p cf fu body) (l.map f) e')) h fun e' h' => for_run f I step fin l e' h'
    rw [List.map_cons]
    unfold forI
    revert hs
    cases bindT false tg (f a) env with
    | none => exact fun h => h.elim
    | some e1 =>
      simp only [oget_some, Option.isSome_some, if_pos]
      cases exSs p cf fu body e1 <;> exact fun h => (by first | exact h | exact h.elim)
theorem K_for {α : Type} {tg : Tg} {it : It} {body : List S} {K : SR → Prop} {env : PEnv} (l : List α) (f : α → PV) (lk : List Nat) (I : List α → PEnv → Prop) (hit : Prx ((itI p cf it env).elim (fun a e => a = (l.map f, lk) ∧ e = env) (fun _ _ _ => False) False)) (h0 : I l (lockS env lk))
    (step : ∀ (a : α) (r : List α) (e : PEnv) (N : PEnv → Prop), I (a :: r) e → (∀ e', I r e' → N e') → Kp (KL N (KU env lk K)) (if (bindT false tg (f a) e).isSome = true then exSs p cf fu body (oget (bindT false tg (f a) e)) else .bad))
    (fin : ∀ e, I [] e → Kp (KU env lk K) (.nx e)) : Kp K (exS p cf fu (.for tg it body) env) := by
  have e : exS p cf fu (.for tg it body) env = (itI p cf it env).st fun a env => (forI (bindT false tg) (exSs p cf fu body) a.1 (lockS env a.2)).unlock env a.2 := rfl
  rw [e, el_eq (Prx.of hit)]
  exact for_run (K := KU env lk K) f I step fin l _ h0
/-- a loop over what is drawn ahead of it -/
theorem K_forE {α : Type} {tg : Tg} {it : It} {body : List S} {K : SR → Prop} {env env0 : PEnv} (l : List α) (f : α → PV) (I : List α → PEnv → Prop) (hit : Prx ((itI p cf it env).elim (fun a e => a = (l.map f, []) ∧ e = env0) (fun _ _ _ => False) False)) (h0 : I l env0)
    (step : ∀ (a : α) (r : List α) (e : PEnv) (N : PEnv → Prop), I (a :: r) e → (∀ e', I r e' → N e') → Kp (KL N K) (if (bindT false tg (f a) e).isSome = true then exSs p cf fu body (oget (bindT false tg (f a) e)) else .bad))
    (fin : ∀ e, I [] e → Kp K (.nx e)) : Kp K (exS p cf fu (.for tg it body) env) := by
  have e : exS p cf fu (.for tg it body) env = (itI p cf it env).st fun a env => (forI (bindT false tg) (exSs p cf fu body) a.1 (lockS env a.2)).unlock env a.2 := rfl
  rw [e, el_eq (Prx.of hit)]
  show Kp K ((forI (bindT false tg) (exSs p cf fu body) (l.map f) env0).unlock env0 [])
  rw [unlock_nil]
  exact for_run (K := K) f I step fin l _ h0
theorem rng_run {tg : Tg} {body : List S} {K : SR → Prop} (lo : Int) (n : Nat) (I : Nat → PEnv → Prop)
    (step : ∀ (i : Nat) (e : PEnv) (N : PEnv → Prop), i < n → I i e → (∀ e', I (i + 1) e' → N e') → Kp (KL N K) (if (bindT false tg (.int (lo + (i : Int))) e).isSome = true then exSs p cf fu body (oget (bindT false tg (.int (lo + (i : Int))) e)) else .bad))
    (fin : ∀ e, I n e → Kp K (.nx e)) : ∀ (m i : Nat) (env : PEnv), i + m = n → I i env → Kp K (forI (bindT false tg) (exSs p cf fu body) (rangeL (lo + (i : Int)) m) env)
  | 0, i, env, hm, h => fin env (by have : i = n := by omega
                                    subst this; exact h)
  | m + 1, i, env, hm, h => by
    have hs := step i env (fun e' => Kp K (forI (bindT false tg) (exSs p cf fu body) (rangeL (lo + (i : Int) + 1) m) e')) (by omega) h fun e' h' => by
      have := rng_run lo n I step fin m (i + 1) e' (by omega) h'
      rwa [show lo + ((i + 1 : Nat) : Int) = lo + (i : Int) + 1 by omega] at this
    show Kp K (forI (bindT false tg) (exSs p cf fu body) (.int (lo + (i : Int)) :: rangeL (lo + (i : Int) + 1) m) env)
    unfold forI
    revert hs
    cases bindT false tg (.int (lo + (i : Int))) env with
    | none => exact fun h => h.elim
    | some e1 =>
      simp only [oget_some, Option.isSome_some, if_pos]
      cases exSs p cf fu body e1 <;> exact fun h => (by first | exact h | exact h.elim)
theorem K_rng {tg : Tg} {it : It} {body : List S} {K : SR → Prop} {env : PEnv} (lo : Int) (n : Nat) (I : Nat → PEnv → Prop) (hit : Prx ((itI p cf it env).elim (fun a e => a = (rangeL lo n, []) ∧ e = env) (fun _ _ _ => False) False)) (h0 : I 0 env)
    (step : ∀ (i : Nat) (e : PEnv) (N : PEnv → Prop), i < n → I i e → (∀ e', I (i + 1) e' → N e') → Kp (KL N K) (if (bindT false tg (.int (lo + (i : Int))) e).isSome = true then exSs p cf fu body (oget (bindT false tg (.int (lo + (i : Int))) e)) else .bad))
    (fin : ∀ e, I n e → Kp K (.nx e)) : Kp K (exS p cf fu (.for tg it body) env) := by
  have e : exS p cf fu (.for tg it body) env = (itI p cf it env).st fun a env => (forI (bindT false tg) (exSs p cf fu body) a.1 (lockS env a.2)).unlock env a.2 := rfl
  rw [e, el_eq (Prx.of hit)]
  show Kp K ((forI (bindT false tg) (exSs p cf fu body) (rangeL lo n) env).unlock env [])
  rw [unlock_nil]
  have := rng_run lo n I step fin n 0 env (by omega) h0
  simpa using this
theorem whl_run {c : E} {body : List S} {K : SR → Prop} (I : Nat → PEnv → Prop)
    (step : ∀ (m : Nat) (e : PEnv) (N : PEnv → Prop), I m e → (∀ m' e', m' < m → I m' e' → N e') → Kp (KL N K) ((evB p cf c e).elim (fun v e1 => if (truthI v.1).isSome = true then (if oget (truthI v.1) = true then exSs p cf fu body e1 else .brk e1) else .bad) .exc .bad)) :
    ∀ (n m : Nat) (env : PEnv), m < n → I m env → Kp K (whlI (evB p cf c) (exSs p cf fu body) n env)
  | 0, m, env, hm, h => absurd hm (by omega)
  | n + 1, m, env, hm, h => by
    have hs := step m env (fun e' => Kp K (whlI (evB p cf c) (exSs p cf fu body) n e')) h fun m' e' hlt h' => whl_run I step n m' e' (by omega) h'
    unfold whlI
    revert hs
    cases evB p cf c env with
    | ok v e1 =>
      simp only [el_ok]
      dsimp only [R.st]
      cases truthI v.1 with
      | none => exact fun h => h.elim
      | some b =>
        cases b with
        | false => exact fun h => h
        | true =>
          simp only [oget_some, Option.isSome_some, if_pos]
          cases exSs p cf fu body e1 <;> exact fun h => (by first | exact h | exact h.elim)
    | exc c fs e => exact fun h => h
    | bad => exact fun h => h.elim
theorem K_whl {c : E} {body : List S} {K : SR → Prop} {env : PEnv} (m : Nat) (I : Nat → PEnv → Prop) (hm : m < fu) (h0 : I m env)
    (step : ∀ (m : Nat) (e : PEnv) (N : PEnv → Prop), I m e → (∀ m' e', m' < m → I m' e' → N e') → Kp (KL N K) ((evB p cf c e).elim (fun v e1 => if (truthI v.1).isSome = true then (if oget (truthI v.1) = true then exSs p cf fu body e1 else .brk e1) else .bad) .exc .bad)) :
    Kp K (exS p cf fu (.whl c body) env) := whl_run I step fu m env hm h0
/-! ### calls -/
theorem callI_of {p : Prog} {fu k : Nat} {f : Str} {d : Def} {vs : List PV} (h : p.defs.lookup f = some d) (h1 : vs.length = d.np) (h2 : d.muts.length = d.np) (h3 : d.np ≤ d.nl) : callI p fu (k + 1) f vs = DI.callEnd d (exSs p (callI p fu k) fu d.body (startE d vs)) := by
  show (match p.defs.lookup f with | none => DI.CR.bad | some d => if vs.length = d.np ∧ d.muts.length = d.np ∧ d.np ≤ d.nl then DI.callEnd d (exSs p (callI p fu k) fu d.body (startE d vs)) else .bad) = _
  rw [h]
  exact if_pos ⟨h1, h2, h3⟩
theorem call_K {p : Prog} {fu k : Nat} {f : Str} {vs : List PV} (d : Def) (P : CR → Prop) (h : p.defs.lookup f = some d) (h1 : vs.length = d.np) (h2 : d.muts.length = d.np) (h3 : d.np ≤ d.nl)
    (hb : ∀ K : SR → Prop, (∀ r, P (DI.callEnd d r) → Kp K r) → Kp K (exSs p (callI p fu k) fu d.body (startE d vs))) : P (callI p fu (k + 1) f vs) := by
  rw [callI_of h h1 h2 h3]
  exact hb (fun r => P (DI.callEnd d r)) fun r h => h
theorem call_eq {p : Prog} {fu k : Nat} {f : Str} {vs : List PV} {R : CR} (d : Def) (h : p.defs.lookup f = some d) (h1 : vs.length = d.np) (h2 : d.muts.length = d.np) (h3 : d.np ≤ d.nl)
    (hb : ∀ K : SR → Prop, (∀ r, DI.callEnd d r = R → Kp K r) → Kp K (exSs p (callI p fu k) fu d.body (startE d vs))) : callI p fu (k + 1) f vs = R := call_K d (fun r => r = R) h h1 h2 h3 hb
/-! ### comprehensions -/
theorem wipeS_len' : ∀ (own : List Nat) (env : PEnv), (wipeS env own).length = env.length
  | [], _ => rfl
  | i :: is, env => by
    show ((wipeS env is).set i .un).length = _
    rw [List.length_set, wipeS_len' is]
theorem wipe_get : ∀ (own : List Nat) (env : PEnv) (j : Nat), j ∉ own → (wipeS env own)[j]? = env[j]?
  | [], env, j, h => rfl
  | i :: is, env, j, h => by
    show ((wipeS env is).set i .un)[j]? = _
    rw [List.getElem?_set_ne (fun e => h (by rw [e]; exact List.mem_cons_self)), wipe_get is env j fun q => h (List.mem_cons_of_mem _ q)]
theorem back_get : ∀ (own : List Nat) (env0 env : PEnv) (j : Nat), env0.length = env.length → ((j ∈ own → (backS env0 env own)[j]? = env0[j]?) ∧ (j ∉ own → (backS env0 env own)[j]? = env[j]?)) ∧ (backS env0 env own).length = env.length
  | [], env0, env, j, hl => ⟨⟨fun h => (by cases h), fun _ => rfl⟩, rfl⟩
  | i :: is, env0, env, j, hl => by
    obtain ⟨⟨h1, h2⟩, h3⟩ := back_get is env0 env j hl
    unfold backS
    cases e : env0[i]? with
    | none =>
      refine ⟨⟨fun h => ?_, fun h => h2 fun q => h (List.mem_cons_of_mem _ q)⟩, h3⟩
      dsimp only
      by_cases q : j ∈ is
      · exact h1 q
      · have : j = i := by
          rcases List.mem_cons.mp h with h | h
          · exact h
          · exact absurd h q
        subst this
        rw [h2 q, e]
        have hn : env.length ≤ j := by rw [← hl]; exact List.getElem?_eq_none_iff.mp e
        exact List.getElem?_eq_none hn
    | some s =>
      dsimp only
      refine ⟨⟨fun h => ?_, fun h => ?_⟩, by rw [List.length_set, h3]⟩
      · by_cases q : j = i
        · subst q
          have hlt : j < env0.length := by
            rcases Nat.lt_or_ge j env0.length with z | z
            · exact z
            · rw [List.getElem?_eq_none z] at e; cases e
          rw [List.getElem?_set_self (by rw [h3, ← hl]; exact hlt), e]
        · rw [List.getElem?_set_ne (fun z => q z.symm)]
          rcases List.mem_cons.mp h with h | h
          · exact absurd h q
          · exact h1 h
      · rw [List.getElem?_set_ne (fun z => h (by rw [z]; exact List.mem_cons_self))]
        exact h2 fun q => h (List.mem_cons_of_mem _ q)
theorem back_of {own : List Nat} {env0 env : PEnv} (h : wipeS env own = wipeS env0 own) : backS env0 env own = env0 := by
  have hl : env0.length = env.length := by rw [← wipeS_len' own env0, ← h, wipeS_len']
  apply List.ext_getElem?
  intro j
  obtain ⟨⟨h1, h2⟩, _⟩ := back_get own env0 env j hl
  by_cases q : j ∈ own
  · exact h1 q
  · rw [h2 q, ← wipe_get own env j q, h, wipe_get own env0 j q]
theorem comp_run {α : Type} {tg : Tg} {own : List Nat} {cs : List E} {elt : E} {E0 : PEnv} (f : α → PV) (c : α → Bool) (g : α → PV) : ∀ (l : List α) (acc : List PV) (env : PEnv), wipeS env own = E0 → acc.length + l.length ≤ 16000000 →
    (∀ a ∈ l, ∃ e1, bindT false tg (f a) E0 = some e1 ∧ wipeS e1 own = E0 ∧ (evCs p cf cs e1).elim (fun b e => b = c a ∧ e = e1) (fun _ _ _ => False) False ∧ (c a = true → (evE p cf elt e1).elim (fun w e => w = g a ∧ e = e1) (fun _ _ _ => False) False)) →
    ∃ env', wipeS env' own = E0 ∧ compLoop tg own (evCs p cf cs) (fun env => (evB p cf elt env).bind fun w env => ownE elt w env) (l.map f) acc env = .ok (acc ++ (l.filter c).map g) env'
  | [], acc, env, h, _, _ => ⟨env, h, by simp [compLoop]⟩
  | a :: l, acc, env, h, hl, step => by
    obtain ⟨e1, h1, h2, h3, h4⟩ := step a List.mem_cons_self
    have hl' : acc.length + (l.length + 1) ≤ 16000000 := by simpa using hl
    rw [List.map_cons]
    unfold compLoop
    rw [h, h1]
    dsimp only
    rw [el_eq h3]
    cases hc : c a with
    | false =>
      dsimp only
      rw [List.filter_cons_of_neg (by rw [hc]; decide)]
      exact comp_run f c g l acc e1 h2 (by omega) fun b hb => step b (List.mem_cons_of_mem _ hb)
    | true =>
      dsimp only
      have h5 : ((evB p cf elt e1).bind fun w env => ownE elt w env) = .ok (g a) e1 := el_eq (h4 hc)
      rw [h5]
      dsimp only
      rw [if_pos (lt_line (by omega)), List.filter_cons_of_pos hc, List.map_cons]
      obtain ⟨env', q1, q2⟩ := comp_run f c g l (acc ++ [g a]) e1 h2 (by simp; omega) fun b hb => step b (List.mem_cons_of_mem _ hb)
      exact ⟨env', q1, by rw [q2]; simp⟩
/-- a comprehension that changes nothing -/
theorem comp_pure {α : Type} {tg : Tg} {own : List Nat} {it : It} {cs : List E} {elt : E} {env : PEnv} (l : List α) (f : α → PV) (lk : List Nat) (c : α → Bool) (g : α → PV) (hit : Prx ((itI p cf it env).elim (fun a e => a = (l.map f, lk) ∧ e = env) (fun _ _ _ => False) False)) (hp : Prx (plainS (lockS env lk) own = true))
    (hu : Prx (unlockS env (lockS env lk) lk = some env)) (hl : l.length ≤ 16000000)
    (step : ∀ a ∈ l, (bindT false tg (f a) (wipeS (lockS env lk) own)).isSome = true ∧ wipeS (oget (bindT false tg (f a) (wipeS (lockS env lk) own))) own = wipeS (lockS env lk) own ∧ (evCs p cf cs (oget (bindT false tg (f a) (wipeS (lockS env lk) own)))).elim (fun b e => b = c a ∧ e = oget (bindT false tg (f a) (wipeS (lockS env lk) own))) (fun _ _ _ => False) False ∧ (c a = true → (evE p cf elt (oget (bindT false tg (f a) (wipeS (lockS env lk) own)))).elim (fun w e => w = g a ∧ e = oget (bindT false tg (f a) (wipeS (lockS env lk) own))) (fun _ _ _ => False) False)) :
    evB p cf (.comp elt tg it cs own) env = .ok (.lst ((l.filter c).map g), true) env := by
  have e : evB p cf (.comp elt tg it cs own) env = ((itI p cf it env).bind fun a env1 => let envL := lockS env1 a.2; if plainS envL own then compEnd env1 envL a.2 own (compLoop tg own (evCs p cf cs) (fun env => (evB p cf elt env).bind fun w env => ownE elt w env) a.1 [] envL) else .bad) := rfl
  rw [e, el_eq (Prx.of hit)]
  show (if plainS (lockS env lk) own then compEnd env (lockS env lk) lk own (compLoop tg own (evCs p cf cs) (fun env => (evB p cf elt env).bind fun w env => ownE elt w env) (l.map f) [] (lockS env lk)) else .bad) = _
  rw [if_pos hp.of]
  obtain ⟨env', h1, h2⟩ := comp_run (p := p) (cf := cf) (tg := tg) (own := own) (cs := cs) (elt := elt) f c g l [] (lockS env lk) rfl (by simpa using hl) fun a ha => by
    obtain ⟨s1, s2, s3, s4⟩ := step a ha
    cases hb : bindT false tg (f a) (wipeS (lockS env lk) own) with
    | none => rw [hb] at s1; cases s1
    | some e1 =>
      rw [hb] at s2 s3 s4
      exact ⟨e1, rfl, s2, s3, s4⟩
  rw [h2]
  show (match unlockS env (backS (lockS env lk) env' own) lk with | some env' => R.ok (PV.lst ([] ++ (l.filter c).map g), true) env' | none => .bad) = _
  rw [back_of h1, hu.of]
  rfl
theorem compI_run {α : Type} {tg : Tg} {own : List Nat} {cs : List E} {elt : E} (f : α → PV) (I : List α → List PV → PEnv → Prop) : ∀ (l : List α) (acc : List PV) (env : PEnv), I l acc env → acc.length + l.length ≤ 16000000 →
    (∀ a r acc env (N : List PV → PEnv → Prop), I (a :: r) acc env → (∀ acc' e', I r acc' e' → N acc' e') → ∃ e1, bindT false tg (f a) (wipeS env own) = some e1 ∧ (evCs p cf cs e1).elim (fun b e2 => if b then (evE p cf elt e2).elim (fun w e3 => N (acc ++ [w]) e3) (fun _ _ _ => False) False else N acc e2) (fun _ _ _ => False) False) →
    ∃ ws env', I [] ws env' ∧ compLoop tg own (evCs p cf cs) (fun env => (evB p cf elt env).bind fun w env => ownE elt w env) (l.map f) acc env = .ok ws env'
  | [], acc, env, h, _, _ => ⟨acc, env, h, by simp [compLoop]⟩
  | a :: l, acc, env, h, hl, step => by
    obtain ⟨e1, h1, h2⟩ := step a l acc env (I l) h fun _ _ h => h
    have hl' : acc.length + (l.length + 1) ≤ 16000000 := by simpa using hl
    rw [List.map_cons]
    unfold compLoop
    rw [h1]
    dsimp only
    cases hc : evCs p cf cs e1 with
    | bad => rw [hc] at h2; exact h2.elim
    | exc c fs e => rw [hc] at h2; exact h2.elim
    | ok b e2 =>
      rw [hc] at h2
      cases b with
      | false =>
        dsimp only
        exact compI_run f I l acc e2 h2 (by omega) step
      | true =>
        dsimp only
        have h2 : (evE p cf elt e2).elim (fun w e3 => I l (acc ++ [w]) e3) (fun _ _ _ => False) False := h2
        cases he : evE p cf elt e2 with
        | bad => rw [he] at h2; exact h2.elim
        | exc c fs e => rw [he] at h2; exact h2.elim
        | ok w e3 =>
          rw [he] at h2
          have h5 : ((evB p cf elt e2).bind fun w env => ownE elt w env) = .ok w e3 := he
          rw [h5]
          dsimp only
          rw [if_pos (lt_line (by omega))]
          exact compI_run f I l (acc ++ [w]) e3 h2 (by simp; omega) step
/-- a comprehension that changes what is lent -/
theorem comp_inv {α : Type} {tg : Tg} {own : List Nat} {it : It} {cs : List E} {elt : E} {env env0 : PEnv} (l : List α) (f : α → PV) (I : List α → List PV → PEnv → Prop) (hit : Prx ((itI p cf it env).elim (fun a e => a = (l.map f, []) ∧ e = env0) (fun _ _ _ => False) False)) (hp : Prx (plainS env0 own = true))
    (hl : l.length ≤ 16000000) (h0 : I l [] env0)
    (step : ∀ a r acc env (N : List PV → PEnv → Prop), I (a :: r) acc env → (∀ acc' e', I r acc' e' → N acc' e') → (bindT false tg (f a) (wipeS env own)).isSome = true ∧ (evCs p cf cs (oget (bindT false tg (f a) (wipeS env own)))).elim (fun b e2 => if b then (evE p cf elt e2).elim (fun w e3 => N (acc ++ [w]) e3) (fun _ _ _ => False) False else N acc e2) (fun _ _ _ => False) False) :
    ∃ ws env', I [] ws env' ∧ evB p cf (.comp elt tg it cs own) env = .ok (.lst ws, true) (backS env0 env' own) := by
  have e : evB p cf (.comp elt tg it cs own) env = ((itI p cf it env).bind fun a env1 => let envL := lockS env1 a.2; if plainS envL own then compEnd env1 envL a.2 own (compLoop tg own (evCs p cf cs) (fun env => (evB p cf elt env).bind fun w env => ownE elt w env) a.1 [] envL) else .bad) := rfl
  obtain ⟨ws, env', h1, h2⟩ := compI_run (p := p) (cf := cf) (tg := tg) (own := own) (cs := cs) (elt := elt) f I l [] env0 h0 (by simpa using hl) fun a r acc env N h hN => by
    obtain ⟨s1, s2⟩ := step a r acc env N h hN
    cases hb : bindT false tg (f a) (wipeS env own) with
    | none => rw [hb] at s1; cases s1
    | some e1 =>
      rw [hb] at s2
      exact ⟨e1, rfl, s2⟩
  refine ⟨ws, env', h1, ?_⟩
  rw [e, el_eq (Prx.of hit)]
  show (if plainS env0 own then compEnd env0 env0 [] own (compLoop tg own (evCs p cf cs) (fun env => (evB p cf elt env).bind fun w env => ownE elt w env) (l.map f) [] env0) else .bad) = _
  rw [if_pos hp.of, h2]
  rfl
theorem comp_K {α : Type} {tg : Tg} {own : List Nat} {it : It} {cs : List E} {elt : E} {env env0 : PEnv} (l : List α) (f : α → PV) (I : List α → List PV → PEnv → Prop) (hit : Prx ((itI p cf it env).elim (fun a e => a = (l.map f, []) ∧ e = env0) (fun _ _ _ => False) False)) (hp : Prx (plainS env0 own = true))
    (hl : l.length ≤ 16000000) (h0 : I l [] env0)
    (step : ∀ a r acc env (N : List PV → PEnv → Prop), I (a :: r) acc env → (∀ acc' e', I r acc' e' → N acc' e') → (bindT false tg (f a) (wipeS env own)).isSome = true ∧ (evCs p cf cs (oget (bindT false tg (f a) (wipeS env own)))).elim (fun b e2 => if b then (evE p cf elt e2).elim (fun w e3 => N (acc ++ [w]) e3) (fun _ _ _ => False) False else N acc e2) (fun _ _ _ => False) False)
    {K : SR → Prop} {f2 : PV × Bool → PEnv → SR} {g2 : Str → List PV → PEnv → SR} {z2 : SR} (fin : ∀ ws env', I [] ws env' → Kp K (f2 (.lst ws, true) (backS env0 env' own))) : Kp K ((evB p cf (.comp elt tg it cs own) env).elim f2 g2 z2) := by
  obtain ⟨ws, env', h1, h2⟩ := comp_inv (p := p) (cf := cf) (tg := tg) (own := own) (cs := cs) (elt := elt) l f I hit hp hl h0 step
  rw [h2]
  exact fin ws env' h1
end
/-! ### data -/
@[simp] theorem imm_ints : ∀ ns : List Int, immL (ns.map PV.int) = true
  | [] => rfl
  | n :: ns => by
    show (true && immL (ns.map PV.int)) = true
    rw [imm_ints]; rfl
theorem immL_map {α : Type} (f : α → PV) : ∀ (l : List α), (∀ a ∈ l, (f a).imm = true) → immL (l.map f) = true
  | [], _ => rfl
  | a :: l, h => by
    show ((f a).imm && immL (l.map f)) = true
    rw [h a List.mem_cons_self, immL_map f l fun b hb => h b (List.mem_cons_of_mem _ hb)]; rfl
theorem immL_app : ∀ (a b : List PV), immL (a ++ b) = (immL a && immL b)
  | [], b => rfl
  | v :: a, b => by
    show (v.imm && immL (a ++ b)) = ((v.imm && immL a) && immL b)
    rw [immL_app a b, Bool.and_assoc]
@[simp] theorem plain_ints : ∀ ns : List Int, plainL (ns.map PV.int) = true
  | [] => rfl
  | n :: ns => by
    show (true && plainL (ns.map PV.int)) = true
    rw [plain_ints]; rfl
theorem plainL_map {α : Type} (f : α → PV) : ∀ (l : List α), (∀ a ∈ l, (f a).plain = true) → plainL (l.map f) = true
  | [], _ => rfl
  | a :: l, h => by
    show ((f a).plain && plainL (l.map f)) = true
    rw [h a List.mem_cons_self, plainL_map f l fun b hb => h b (List.mem_cons_of_mem _ hb)]; rfl
@[simp] theorem depth_ints : ∀ ns : List Int, depthL (ns.map PV.int) = 0
  | [] => rfl
  | n :: ns => by
    show max 0 (depthL (ns.map PV.int)) = 0
    rw [depth_ints]; rfl
theorem depthL_map {α : Type} (f : α → PV) (k : Nat) : ∀ (l : List α), (∀ a ∈ l, (f a).depth ≤ k) → depthL (l.map f) ≤ k
  | [], _ => Nat.zero_le _
  | a :: l, h => by
    show max (f a).depth (depthL (l.map f)) ≤ k
    exact Nat.max_le.mpr ⟨h a List.mem_cons_self, depthL_map f k l fun b hb => h b (List.mem_cons_of_mem _ hb)⟩
@[simp] theorem memK_nil (q : Key) : memK q [] = false := (rfl)
@[simp] theorem memK_cons (q k : Key) (ks : List Key) : memK q (k :: ks) = (decide (q = k) || memK q ks) := (rfl)
end DI
set_option Elab.async false
set_option linter.all false
set_option maxRecDepth 100000
set_option maxHeartbeats 4000000
/-! MB: boards as data, and what is told of lists of numbers. -/
namespace DI
open PySem L2
/-- a board -/
structure Bd where
  sh : List (Str × List Int)
  pl : List Int
  bk : Bool
  st : Int
  lo : Int
  hi : Int
  br : Int
def shp (x : Str × List Int) : PV := .tup [.str x.1, .tup (x.2.map .int)]
def Bd.pv (B : Bd) : PV := .tup [.tup (B.sh.map shp), .tup (B.pl.map .int), .bl B.bk, .int B.st, .tup [.int B.lo, .int B.hi], .int B.br]
@[simp] theorem imm_shp (x : Str × List Int) : (shp x).imm = true := by simp [shp]
@[simp] theorem imm_sh (l : List (Str × List Int)) : immL (l.map shp) = true := immL_map shp l fun a _ => imm_shp a
@[simp] theorem pv_imm (B : Bd) : B.pv.imm = true := by simp [Bd.pv]
@[simp] theorem pv0 (B : Bd) : ixI B.pv (.int 0) = some (.tup (B.sh.map shp)) := rfl
@[simp] theorem pv1 (B : Bd) : ixI B.pv (.int 1) = some (.tup (B.pl.map .int)) := rfl
@[simp] theorem pv2 (B : Bd) : ixI B.pv (.int 2) = some (.bl B.bk) := rfl
@[simp] theorem pv3 (B : Bd) : ixI B.pv (.int 3) = some (.int B.st) := rfl
@[simp] theorem pv4 (B : Bd) : ixI B.pv (.int 4) = some (.tup [.int B.lo, .int B.hi]) := rfl
@[simp] theorem pv5 (B : Bd) : ixI B.pv (.int 5) = some (.int B.br) := rfl
@[simp] theorem pv_seq (B : Bd) : seqI B.pv = some [.tup (B.sh.map shp), .tup (B.pl.map .int), .bl B.bk, .int B.st, .tup [.int B.lo, .int B.hi], .int B.br] := rfl
@[simp] theorem shp_seq (x : Str × List Int) : seqI (shp x) = some [.str x.1, .tup (x.2.map .int)] := rfl
@[simp] theorem filter_tt {α : Type} (l : List α) : l.filter (fun _ => true) = l := List.filter_eq_self.mpr fun _ _ => rfl
/-- the product -/
def prd : List Int → Int
  | [] => 1
  | b :: l => b * prd l
theorem prd_pos : ∀ {l : List Int}, (∀ b ∈ l, 1 ≤ b) → 1 ≤ prd l
  | [], _ => Int.le_refl 1
  | b :: l, h => by
    have h1 := h b List.mem_cons_self
    have h2 := prd_pos (l := l) fun c hc => h c (List.mem_cons_of_mem _ hc)
    show 1 ≤ b * prd l
    have : 1 * 1 ≤ b * prd l := Int.mul_le_mul h1 h2 (by omega) (by omega)
    omega
theorem prd_le {m : Int} (hm : 1 ≤ m) : ∀ {l : List Int}, (∀ b ∈ l, 1 ≤ b ∧ b ≤ m) → prd l ≤ m ^ l.length
  | [], _ => by simp [prd]
  | b :: l, h => by
    have h1 := h b List.mem_cons_self
    have h2 := prd_le hm (l := l) fun c hc => h c (List.mem_cons_of_mem _ hc)
    have h3 := prd_pos (l := l) fun c hc => (h c (List.mem_cons_of_mem _ hc)).1
    show b * prd l ≤ m ^ (l.length + 1)
    rw [Int.pow_succ, Int.mul_comm]
    exact Int.mul_le_mul h2 h1.2 (by omega) (Int.le_trans (by omega) h2)
/-- all parts of a board are small -/
structure Bd.Ok (B : Bd) : Prop where
  b1 : ∀ b ∈ B.pl, 1 ≤ b ∧ b ≤ 1000
  pn : B.pl.length ≤ 60
  sz : prd B.pl ≤ 1000000
  sn : B.sh.length ≤ 60
  ln : ∀ s ∈ B.sh, s.2.length ≤ 60 ∧ ∀ x ∈ s.2, 0 ≤ x ∧ x ≤ 11
  s1 : 0 ≤ B.st ∧ B.st ≤ 1000000
theorem Bd.Ok.f64 {B : Bd} (h : B.Ok) : ∀ b ∈ B.pl, fits64 b = true := fun b hb => fits64_of (by have := h.b1 b hb; omega) (by have := h.b1 b hb; omega)
theorem Bd.Ok.pos {B : Bd} (h : B.Ok) : 1 ≤ prd B.pl := prd_pos fun b hb => (h.b1 b hb).1
/-- a board's size and step as naturals -/
theorem Bd.Ok.nat {B : Bd} (h : B.Ok) : ∃ N s : Nat, prd B.pl = (N : Int) ∧ B.st = (s : Int) ∧ 0 < N ∧ N ≤ 1000000 ∧ s ≤ 1000000 := by
  have h1 := h.pos
  have h2 := h.sz
  have h3 := h.s1
  exact ⟨(prd B.pl).toNat, B.st.toNat, by omega, by omega, by omega, by omega, by omega⟩
def flat (sh : List (Str × List Int)) : List Int := sh.flatMap (·.2)
theorem flat_len (n : Nat) : ∀ {sh : List (Str × List Int)}, (∀ s ∈ sh, s.2.length ≤ n) → (flat sh).length ≤ sh.length * n
  | [], _ => by simp [flat]
  | s :: sh, h => by
    have h1 := h s List.mem_cons_self
    have h2 := flat_len n (sh := sh) fun c hc => h c (List.mem_cons_of_mem _ hc)
    show (s.2 ++ flat sh).length ≤ (sh.length + 1) * n
    rw [List.length_append, Nat.add_mul]
    omega
@[simp] theorem flat_nil : flat [] = [] := rfl
@[simp] theorem flat_cons (s : Str × List Int) (r : List (Str × List Int)) : flat (s :: r) = s.2 ++ flat r := by simp [flat]
theorem mem_flat {sh : List (Str × List Int)} {x : Int} : x ∈ flat sh ↔ ∃ s ∈ sh, x ∈ s.2 := by simp [flat]
/-! ### ascending lists -/
theorem asc_ext : ∀ {l m : List Int}, l.Pairwise (· < ·) → m.Pairwise (· < ·) → (∀ x, x ∈ l ↔ x ∈ m) → l = m
  | [], [], _, _, _ => rfl
  | [], b :: m, _, _, h => by have := (h b).mpr List.mem_cons_self; cases this
  | a :: l, [], _, _, h => by have := (h a).mp List.mem_cons_self; cases this
  | a :: l, b :: m, hl, hm, h => by
    rw [List.pairwise_cons] at hl hm
    have e : a = b := by
      rcases List.mem_cons.mp ((h a).mp List.mem_cons_self) with z | z
      · exact z
      · rcases List.mem_cons.mp ((h b).mpr List.mem_cons_self) with y | y
        · exact y.symm
        · have h1 := hm.1 a z
          have h2 := hl.1 b y
          omega
    subst e
    rw [asc_ext hl.2 hm.2 fun x => ⟨fun hx => ?_, fun hx => ?_⟩]
    · rcases List.mem_cons.mp ((h x).mp (List.mem_cons_of_mem _ hx)) with z | z
      · have := hl.1 x hx
        omega
      · exact z
    · rcases List.mem_cons.mp ((h x).mpr (List.mem_cons_of_mem _ hx)) with z | z
      · have := hm.1 x hx
        omega
      · exact z
theorem mem_insI' {i x : Int} : ∀ {l : List Int}, x ∈ insI i l ↔ x = i ∨ x ∈ l
  | [] => by simp [insI]
  | j :: l => by
    unfold insI
    split
    · simp
    · simp only [List.mem_cons, mem_insI' (l := l)]
      constructor
      · rintro (h | h | h)
        · exact .inr (.inl h)
        · exact .inl h
        · exact .inr (.inr h)
      · rintro (h | h | h)
        · exact .inr (.inl h)
        · exact .inl h
        · exact .inr (.inr h)
theorem mem_sortI' {x : Int} : ∀ {l : List Int}, x ∈ sortI l ↔ x ∈ l
  | [] => by simp [sortI]
  | i :: l => by unfold sortI; rw [mem_insI', mem_sortI', List.mem_cons]
theorem mem_dedI' {x : Int} : ∀ {l : List Int}, x ∈ dedI l ↔ x ∈ l
  | [] => by simp [dedI]
  | i :: l => by
    unfold dedI
    split
    · rename_i h
      rw [mem_dedI', List.mem_cons]
      exact ⟨.inr, fun h' => h'.elim (fun e => by rw [e]; exact h) fun h => h⟩
    · rw [List.mem_cons, mem_dedI', List.mem_cons]
theorem asc_insI {i : Int} : ∀ {l : List Int}, i ∉ l → l.Pairwise (· < ·) → (insI i l).Pairwise (· < ·)
  | [], _, _ => by simp [insI]
  | j :: l, hn, h => by
    have hij : i ≠ j := fun e => hn (by rw [e]; exact List.mem_cons_self)
    rw [List.pairwise_cons] at h
    unfold insI
    split
    · rename_i hle
      rw [List.pairwise_cons, List.pairwise_cons]
      refine ⟨fun x hx => ?_, h⟩
      rcases List.mem_cons.mp hx with e | hx
      · omega
      · have := h.1 x hx
        omega
    · rename_i hle
      rw [List.pairwise_cons]
      refine ⟨fun x hx => ?_, asc_insI (fun hm => hn (List.mem_cons_of_mem _ hm)) h.2⟩
      rcases mem_insI'.mp hx with e | hx
      · omega
      · exact h.1 x hx
theorem asc_sortD : ∀ l : List Int, (sortI (dedI l)).Pairwise (· < ·)
  | [] => by simp [dedI, sortI]
  | i :: l => by
    unfold dedI
    split
    · exact asc_sortD l
    · rename_i h
      show (insI i (sortI (dedI l))).Pairwise (· < ·)
      exact asc_insI (fun hm => h (mem_dedI'.mp (mem_sortI'.mp hm))) (asc_sortD l)
theorem insI_len {i : Int} : ∀ {l : List Int}, (insI i l).length = l.length + 1
  | [] => rfl
  | j :: l => by
    unfold insI
    split
    · rfl
    · rw [List.length_cons, insI_len, List.length_cons]
theorem sortI_len : ∀ {l : List Int}, (sortI l).length = l.length
  | [] => rfl
  | i :: l => by unfold sortI; rw [insI_len, sortI_len, List.length_cons]
theorem asc_len {b : Int} : ∀ {l : List Int} {a : Int}, l.Pairwise (· < ·) → (∀ x ∈ l, a ≤ x ∧ x < b) → a ≤ b → (l.length : Int) ≤ b - a
  | [], a, _, _, h => by simp; omega
  | x :: l, a, hp, hx, h => by
    rw [List.pairwise_cons] at hp
    have h1 := hx x List.mem_cons_self
    have h2 := asc_len (b := b) (l := l) (a := x + 1) hp.2 (fun y hy => ⟨hp.1 y hy, (hx y (List.mem_cons_of_mem _ hy)).2⟩) (by omega)
    rw [List.length_cons]
    omega
@[simp] theorem intsI_mapS : ∀ ns : List Int, intsI (ns.map PV.int) = some ns
  | [] => rfl
  | n :: ns => by
    show (intsI (ns.map PV.int)).map (n :: ·) = _
    rw [intsI_mapS]; rfl
/-- the lamps of shapes, ascending -/
def lampsL (sh : List (Str × List Int)) : List Int := sortI (dedI (flat sh))
theorem mem_lampsL {sh : List (Str × List Int)} {x : Int} : x ∈ lampsL sh ↔ ∃ s ∈ sh, x ∈ s.2 := by
  unfold lampsL
  rw [mem_sortI', mem_dedI', mem_flat]
theorem asc_lampsL (sh : List (Str × List Int)) : (lampsL sh).Pairwise (· < ·) := asc_sortD _
theorem lampsL_len {sh : List (Str × List Int)} (h : ∀ s ∈ sh, ∀ x ∈ s.2, 0 ≤ x ∧ x ≤ 11) : (lampsL sh).length ≤ 12 := by
  have := asc_len (b := 12) (a := 0) (asc_lampsL sh) (fun x hx => by
    obtain ⟨s, hs, hx⟩ := mem_lampsL.mp hx
    have := h s hs x hx
    omega) (by omega)
  omega
theorem ded_len {sh : List (Str × List Int)} (h : ∀ s ∈ sh, ∀ x ∈ s.2, 0 ≤ x ∧ x ≤ 11) : (dedI (flat sh)).length ≤ 12 := by
  have := lampsL_len h
  unfold lampsL at this
  rwa [sortI_len] at this
/-- 0, 1, .. below n, as numbers of the program -/
def nUp (n : Nat) : List Int := (List.range n).map fun (i : Nat) => (i : Int)
theorem rangeL_nUp (n : Nat) : rangeL 0 n = (nUp n).map .int := by
  rw [rangeL_map, nUp, List.map_map]
  apply List.map_congr_left
  intro i _
  simp
theorem mem_nUp {n : Nat} {x : Int} : x ∈ nUp n ↔ 0 ≤ x ∧ x < n := by
  unfold nUp
  rw [List.mem_map]
  constructor
  · rintro ⟨i, hi, rfl⟩
    have := List.mem_range.mp hi
    omega
  · rintro ⟨h1, h2⟩
    exact ⟨x.toNat, List.mem_range.mpr (by omega), by omega⟩
@[simp] theorem nUp_len (n : Nat) : (nUp n).length = n := by simp [nUp]
theorem nUp_asc (n : Nat) : (nUp n).Pairwise (· < ·) := by
  unfold nUp
  rw [List.pairwise_map]
  exact List.pairwise_lt_range.imp fun h => by omega
@[simp] theorem lookK_one (k : Key) (ks : List Key) (v : PV) (vs : List PV) : lookK k (k :: ks) (v :: vs) = some v := by simp [lookK]
theorem memV_ints (x : Int) : ∀ l : List Int, memV (.int x) (l.map .int) = decide (x ∈ l)
  | [] => rfl
  | y :: l => by
    have ih := memV_ints x l
    unfold memV at ih ⊢
    rw [List.map_cons, List.any_cons, ih, eqv_int]
    by_cases h : x = y
    · subst h; simp
    · simp [h, show ¬ y = x from fun e => h e.symm]
@[simp] theorem inOk_ints (x : Int) (l : List Int) : inOk (.int x) (l.map .int) = true := by simp [inOk]
@[simp] theorem memV_intsS (x : Int) (l : List Int) : memV (.int x) (l.map .int) = decide (x ∈ l) := memV_ints x l
@[simp] theorem pb_inOk (x : PV) (ys : List PV) : inOk x ys = (x.plain && plainL ys && decide (min (depthL ys) x.depth ≤ 100)) := rfl
theorem cut_head {i : Int} (h : 0 ≤ i) (f : Int → PV) (xs : List Int) : cutP (xs.map f) none (some i) = (xs.take i.toNat).map f := by
  unfold cutP HT.sIx
  simp only [if_neg (show ¬ i < 0 by omega), Nat.sub_zero, List.drop_zero, List.length_map]
  rw [← List.map_take]
  rcases Nat.le_total i.toNat xs.length with h | h
  · rw [Nat.min_eq_left h]
  · rw [Nat.min_eq_right h, List.take_of_length_le h, List.take_of_length_le (Nat.le_refl _)]
theorem lookK_app {q : Key} {x : PV} : ∀ {ks : List Key} {vs : List PV}, ks.length = vs.length → memK q ks = false → lookK q (ks ++ [q]) (vs ++ [x]) = some x
  | [], [], _, _ => by simp [lookK]
  | k :: ks, v :: vs, hl, hm => by
    simp only [memK, Bool.or_eq_false_iff, decide_eq_false_iff_not] at hm
    simp only [List.cons_append, lookK, if_neg hm.1]
    exact lookK_app (by simpa using hl) hm.2
theorem lookK_mem {q : Key} : ∀ {ks : List Key} {vs : List PV}, ks.length = vs.length → memK q ks = true → ∃ v ∈ vs, lookK q ks vs = some v
  | [], [], _, h => by cases h
  | k :: ks, v :: vs, hl, hm => by
    by_cases e : q = k
    · exact ⟨v, List.mem_cons_self, by simp [lookK, e]⟩
    · simp only [memK, Bool.or_eq_true, decide_eq_true_eq, e, false_or] at hm
      obtain ⟨u, hu, h⟩ := lookK_mem (by simpa using hl) hm
      exact ⟨u, List.mem_cons_of_mem _ hu, by simp only [lookK, if_neg e]; exact h⟩
theorem memK_app {q : Key} : ∀ ks : List Key, memK q (ks ++ [q]) = true
  | [] => by simp
  | k :: ks => by simp [memK_app ks]
theorem memK_grow {q r : Key} : ∀ {ks : List Key}, memK q ks = true → memK q (ks ++ [r]) = true
  | [], h => by cases h
  | k :: ks, h => by
    simp only [memK_cons, Bool.or_eq_true, List.cons_append] at h ⊢
    exact h.imp id memK_grow
/-- keys out of a few names -/
def KsOk (names ks : List Key) : Prop := ks.length ≤ (names.filter fun n => memK n ks).length
theorem KsOk.nil (names : List Key) : KsOk names [] := Nat.zero_le _
theorem KsOk.len {names ks : List Key} (h : KsOk names ks) : ks.length ≤ names.length := Nat.le_trans h (List.length_filter_le _ _)
theorem filter_grow {α : Type} {p q : α → Bool} {x : α} (hpq : ∀ y, p y = true → q y = true) (hp : p x = false) (hq : q x = true) : ∀ {l : List α}, x ∈ l → (l.filter p).length + 1 ≤ (l.filter q).length
  | [], h => by cases h
  | y :: l, h => by
    have mono : ∀ l : List α, (l.filter p).length ≤ (l.filter q).length := by
      intro l
      induction l with
      | nil => exact Nat.le_refl _
      | cons a l ih =>
        by_cases ha : p a = true
        · rw [List.filter_cons_of_pos ha, List.filter_cons_of_pos (hpq a ha)]
          simp; exact ih
        · rw [List.filter_cons_of_neg ha]
          by_cases hb : q a = true
          · rw [List.filter_cons_of_pos hb]; simp; omega
          · rw [List.filter_cons_of_neg hb]; exact ih
    rcases List.mem_cons.mp h with rfl | h
    · rw [List.filter_cons_of_neg (by rw [hp]; decide), List.filter_cons_of_pos hq]
      have := mono l
      simp; omega
    · have ih := filter_grow hpq hp hq h
      by_cases ha : p y = true
      · rw [List.filter_cons_of_pos ha, List.filter_cons_of_pos (hpq y ha)]
        simp; omega
      · rw [List.filter_cons_of_neg ha]
        by_cases hb : q y = true
        · rw [List.filter_cons_of_pos hb]; simp; omega
        · rw [List.filter_cons_of_neg hb]; exact ih
theorem memK_mem {q : Key} : ∀ {ks : List Key}, memK q ks = true → q ∈ ks
  | [], h => by cases h
  | k :: ks, h => by
    simp only [memK_cons, Bool.or_eq_true, decide_eq_true_eq] at h
    rcases h with rfl | h
    · exact List.mem_cons_self
    · exact List.mem_cons_of_mem _ (memK_mem h)
theorem KsOk.add {names ks : List Key} {q : Key} (h : KsOk names ks) (hq : memK q names = true) (hm : memK q ks = false) : KsOk names (ks ++ [q]) := by
  have := filter_grow (p := fun n => memK n ks) (q := fun n => memK n (ks ++ [q])) (fun y hy => memK_grow hy) hm (memK_app ks) (memK_mem hq)
  unfold KsOk at h ⊢
  rw [List.length_append]
  simp
  omega
end DI
set_option Elab.async false
set_option linter.all false
set_option maxRecDepth 100000
set_option maxHeartbeats 4000000
/-! MC: more on data: parts of tuples. -/
namespace DI
open PySem L2
theorem cutP_head {l : List PV} {i : Int} (h : 0 ≤ i) : cutP l none (some i) = l.take i.toNat := by
  have := cut_head h (fun k => l.getD k.toNat .non) (nUp l.length)
  have e : (nUp l.length).map (fun k => l.getD k.toNat .non) = l := by
    unfold nUp
    rw [List.map_map]
    apply List.ext_getElem
    · simp
    · intro j h1 h2
      simp
      rw [List.getElem?_eq_getElem h2]
      rfl
  rw [e] at this
  rw [this, List.map_take, e]
theorem cutP_tail {l : List PV} {i : Int} (h : 0 ≤ i) : cutP l (some i) none = l.drop i.toNat := by
  unfold cutP HT.sIx
  simp only [if_neg (show ¬ i < 0 by omega)]
  rcases Nat.le_total i.toNat l.length with h | h
  · rw [Nat.min_eq_left h]
    apply List.take_of_length_le
    rw [List.length_drop]
    exact Nat.le_refl _
  · rw [Nat.min_eq_right h, Nat.sub_self, List.take_zero, List.drop_eq_nil_of_le h]
theorem sl_head (l : List Int) {i : Int} (h : 0 ≤ i) : slI (.tup (l.map .int)) none (some i) = some (.tup ((l.take i.toNat).map .int)) := by
  show (if immL (l.map PV.int) = true then some (PV.tup (cutP (l.map .int) none (some i))) else none) = _
  rw [if_pos (imm_ints l), cutP_head h, List.map_take]
theorem sl_tail (l : List Int) {i : Int} (h : 0 ≤ i) : slI (.tup (l.map .int)) (some i) none = some (.tup ((l.drop i.toNat).map .int)) := by
  show (if immL (l.map PV.int) = true then some (PV.tup (cutP (l.map .int) (some i) none)) else none) = _
  rw [if_pos (imm_ints l), cutP_tail h, List.map_drop]
theorem sl_headP {l : List PV} (hi : immL l = true) {i : Int} (h : 0 ≤ i) : slI (.tup l) none (some i) = some (.tup (l.take i.toNat)) := by
  show (if immL l = true then some (PV.tup (cutP l none (some i))) else none) = _
  rw [if_pos hi, cutP_head h]
theorem sl_tailP {l : List PV} (hi : immL l = true) {i : Int} (h : 0 ≤ i) : slI (.tup l) (some i) none = some (.tup (l.drop i.toNat)) := by
  show (if immL l = true then some (PV.tup (cutP l (some i) none)) else none) = _
  rw [if_pos hi, cutP_tail h]
theorem blsI_mapf {α : Type} (f : α → Bool) : ∀ l : List α, blsI (l.map fun a => PV.bl (f a)) = some (l.map f)
  | [] => rfl
  | a :: l => by
    show (blsI (l.map fun a => PV.bl (f a))).map (f a :: ·) = _
    rw [blsI_mapf f l]; rfl
def pq2 (q : Int × Int) : PV := .tup [.int q.1, .int q.2]
@[simp] theorem pq2_seq (q : Int × Int) : seqI (pq2 q) = some [.int q.1, .int q.2] := rfl
@[simp] theorem pq2_imm (q : Int × Int) : (pq2 q).imm = true := rfl
theorem zip_pq2 : ∀ l m : List Int, zipL (l.map .int) (m.map .int) = (l.zip m).map pq2
  | [], m => by simp
  | _ :: _, [] => rfl
  | a :: l, b :: m => by simp [zip_pq2 l m, pq2]
theorem intsI_mapf {α : Type} (f : α → Int) : ∀ l : List α, intsI (l.map fun a => PV.int (f a)) = some (l.map f)
  | [] => rfl
  | a :: l => by
    show (intsI (l.map fun a => PV.int (f a))).map (f a :: ·) = _
    rw [intsI_mapf f l]; rfl
theorem ix_lst {us : List PV} {j : Nat} {w : PV} (h : us[j]? = some w) : ixI (.lst us) (.int j) = some w := by
  obtain ⟨hj, hw⟩ := List.getElem?_eq_some_iff.mp h
  show atI us j = _
  unfold atI L2.ixN
  simp [hj, hw]
theorem setI_ints {l : List Int} {i : Nat} (h : i < l.length) (x : Int) : setI (.lst (l.map .int)) (.int i) (.int x) = some (.lst ((l.set i x).map .int)) := by
  rw [setI_lst]
  unfold L2.ixN
  simp [h, List.map_set]
theorem set_mid {α : Type} : ∀ (A : List α) (x y : α) (D : List α), (A ++ x :: D).set A.length y = A ++ y :: D
  | [], _, _, _ => rfl
  | a :: A, x, y, D => by simp [set_mid A x y D]
@[simp] theorem pvh_1 (B : Bd) : slI B.pv none (some 1) = some (.tup [.tup (B.sh.map shp)]) := by simp [Bd.pv]; rfl
@[simp] theorem pvh_2 (B : Bd) : slI B.pv none (some 2) = some (.tup [.tup (B.sh.map shp), .tup (B.pl.map .int)]) := by simp [Bd.pv]; rfl
@[simp] theorem pvh_3 (B : Bd) : slI B.pv none (some 3) = some (.tup [.tup (B.sh.map shp), .tup (B.pl.map .int), .bl B.bk]) := by simp [Bd.pv]; rfl
@[simp] theorem pvh_4 (B : Bd) : slI B.pv none (some 4) = some (.tup [.tup (B.sh.map shp), .tup (B.pl.map .int), .bl B.bk, .int B.st]) := by simp [Bd.pv]; rfl
@[simp] theorem pvh_5 (B : Bd) : slI B.pv none (some 5) = some (.tup [.tup (B.sh.map shp), .tup (B.pl.map .int), .bl B.bk, .int B.st, .tup [.int B.lo, .int B.hi]]) := by simp [Bd.pv]; rfl
@[simp] theorem pvt_1 (B : Bd) : slI B.pv (some 1) none = some (.tup [.tup (B.pl.map .int), .bl B.bk, .int B.st, .tup [.int B.lo, .int B.hi], .int B.br]) := by simp [Bd.pv]; rfl
@[simp] theorem pvt_2 (B : Bd) : slI B.pv (some 2) none = some (.tup [.bl B.bk, .int B.st, .tup [.int B.lo, .int B.hi], .int B.br]) := by simp [Bd.pv]; rfl
@[simp] theorem pvt_3 (B : Bd) : slI B.pv (some 3) none = some (.tup [.int B.st, .tup [.int B.lo, .int B.hi], .int B.br]) := by simp [Bd.pv]; rfl
@[simp] theorem pvt_4 (B : Bd) : slI B.pv (some 4) none = some (.tup [.tup [.int B.lo, .int B.hi], .int B.br]) := by simp [Bd.pv]; rfl
@[simp] theorem pvt_5 (B : Bd) : slI B.pv (some 5) none = some (.tup [.int B.br]) := by simp [Bd.pv]; rfl
theorem mem_zipL {α β : Type} {a : α} {b : β} {l : List α} {m : List β} (h : (a, b) ∈ l.zip m) : a ∈ l ∧ b ∈ m := List.of_mem_zip h
end DI
set_option maxHeartbeats 4000000
namespace K15
open PySem DI
def d_is_integer : Def := ⟨1, [false], 1, [(.ret (.and (.isi (.var 0) [.int]) (.not (.isi (.var 0) [.bool]))))]⟩
def d_integer_within : Def := ⟨3, [false, false, false], 3, [(.ret (.and (.call ("is_integer") [(.var 0)]) (.chain .LtE .LtE (.var 1) (.var 0) (.var 2))))]⟩
def d_is_tuple : Def := ⟨2, [false, false], 2, [(.ret (.and (.isi (.var 0) [.tuple]) (.cmp .Eq (.bi .len [(.var 0)]) (.var 1))))]⟩
abbrev b_lamps_of_1 : List S := [(.mu .extend (.var 1) [(.var 3)]), (.wipe [2, 3])]
def d_lamps_of : Def := ⟨1, [false], 4, [(.asg (.v 1) (.lst [])), (.for (.t [(.v 2), (.v 3)]) (.seq (.ix (.var 0) (.int 0))) b_lamps_of_1), (.ret (.bi .tuple [(.bi .sorted [(.bi .set [(.var 1)])])]))]⟩
abbrev b_board_lamps_1 : List S := [(.mu .extend (.var 1) [(.comp (.tup [(.var 2), (.var 3)]) (.v 3) (.seq (.call ("lamps_of") [(.var 0)])) [] [3])]), (.wipe [2])]
def d_board_lamps : Def := ⟨1, [false], 4, [(.asg (.v 1) (.lst [])), (.for (.v 2) (.range [(.bi .len [(.ix (.var 0) (.int 1))])]) b_board_lamps_1), (.ret (.bi .tuple [(.var 1)]))]⟩
def d_triple_word : Def := ⟨3, [false, false, false], 4, [(.asg (.v 3) (.ix (.var 1) (.var 2))), (.ife (.or (.not (.call ("is_tuple") [(.var 3), (.int 3)])) (.or (.not (.call ("is_integer") [(.ix (.var 3) (.int 0))])) (.or (.not (.call ("is_integer") [(.ix (.var 3) (.int 1))])) (.not (.isi (.ix (.var 3) (.int 2)) [.bool]))))) [(.ret (.str ("triple")))] []), (.ife (.or (.cmp .Lt (.ix (.var 3) (.int 0)) (.int 0)) (.cmp .Lt (.ix (.var 3) (.int 1)) (.int 0))) [(.ret (.str ("triple")))] []), (.ife (.cmp .NotIn (.sl (.var 3) .non (.int 2)) (.call ("board_lamps") [(.var 0)])) [(.ret (.str ("lamp")))] []), (.ret (.ife (.and (.cmp .Gt (.var 2) (.int 0)) (.cmp .LtE (.sl (.var 3) .non (.int 2)) (.sl (.ix (.var 1) (.bin .Sub (.var 2) (.int 1))) .non (.int 2)))) (.str ("above")) .non))]⟩
abbrev b_breakage_fault_1 : List S := [(.asg (.v 3) (.call ("triple_word") [(.var 0), (.var 1), (.var 2)])), (.ife (.isNN (.var 3)) [(.ret (.tup [(.var 2), (.var 3)]))] []), (.wipe [2, 3])]
def d_breakage_fault : Def := ⟨2, [false, false], 4, [(.for (.v 2) (.range [(.bi .len [(.var 1)])]) b_breakage_fault_1), (.ret .non)]⟩
def d_story_fault : Def := ⟨2, [false, false], 2, [(.ife (.or (.not (.call ("is_tuple") [(.var 1), (.int 2)])) (.not (.isi (.ix (.var 1) (.int 1)) [.tuple]))) [(.ret (.tup [(.neg (.int 1)), (.str ("form"))]))] []), (.ife (.not (.call ("integer_within") [(.ix (.var 1) (.int 0)), (.ix (.ix (.var 0) (.int 4)) (.int 0)), (.ix (.ix (.var 0) (.int 4)) (.int 1))])) [(.ret (.tup [(.neg (.int 1)), (.str ("count"))]))] []), (.ife (.cmp .Gt (.bi .len [(.ix (.var 1) (.int 1))]) (.ix (.var 0) (.int 5))) [(.ret (.tup [(.neg (.int 1)), (.str ("many"))]))] []), (.ret (.call ("breakage_fault") [(.var 0), (.ix (.var 1) (.int 1))]))]⟩
def d_check_story : Def := ⟨2, [false, false], 3, [(.asg (.v 2) (.call ("story_fault") [(.var 0), (.var 1)])), (.ife (.isNN (.var 2)) [(.raise ("BadStory") [(.ix (.var 2) (.int 0)), (.ix (.var 2) (.int 1))])] []), (.ret (.bi .len [(.ix (.var 1) (.int 1))]))]⟩
def d_is_story : Def := ⟨2, [false, false], 2, [(.ret (.isN (.call ("story_fault") [(.var 0), (.var 1)])))]⟩
def d_is_breakage : Def := ⟨2, [false, false], 2, [(.ret (.and (.isi (.var 1) [.tuple]) (.isN (.call ("breakage_fault") [(.var 0), (.var 1)]))))]⟩
abbrev b_law_trunk_1 : List S := [(.ife (.cmp .Lt (.var 3) (.bin .Pow (.int 10) (.int 12))) [.brk] []), (.mu .append (.ix (.var 1) (.str ("digits"))) [(.bin .Mod (.bi .int [(.var 3)]) (.int 1021))]), (.asg (.v 3) (.bin .FloorDiv (.var 3) (.int 1021))), (.wipe [4])]
abbrev b_law_trunk_2 : List S := [(.asg (.v 3) (.bin .Mod (.bi .abs [(.bi .int [(.var 2)])]) (.bin .LShift (.int 1) (.int 1400)))), (.setix (.var 1) (.str ("mixed")) (.bin .Mod (.bi .int [(.bin .Add (.bin .Add (.bin .Mult (.ix (.var 1) (.str ("mixed"))) (.int 69621)) (.bin .Mod (.var 3) (.int 1000003))) (.bin .Mult (.int 5) (.bi .int [(.cmp .Lt (.var 2) (.int 0))])))]) (.int 2147483629))), (.for (.v 4) (.range [(.int 140)]) b_law_trunk_1), (.wipe [4]), (.wipe [2, 3, 4])]
def d_law_trunk : Def := ⟨1, [false], 5, [(.asg (.v 1) (.dict [(.str ("digits")), (.lst []), (.str ("mixed")), (.int 15013), (.str ("laps")), (.int 0), (.str ("habits")), (.dict [])])), (.for (.v 2) (.seq (.sl (.var 0) .non (.int 48))) b_law_trunk_2), (.ret (.var 1))]⟩
def d_law_pull : Def := ⟨3, [true, false, false], 5, [(.ife (.ix (.var 0) (.str ("digits"))) [(.ret (.bin .Mod (.bi .int [(.pop (.ix (.var 0) (.str ("digits"))) [])]) (.var 2)))] []), (.augix (.var 0) (.str ("laps")) .Add (.int 1)), (.setix (.var 0) (.str ("mixed")) (.bin .Mod (.bi .int [(.bin .Add (.bin .Add (.bin .Mult (.ix (.var 0) (.str ("mixed"))) (.int 69621)) (.bin .Mult (.ix (.var 0) (.str ("laps"))) (.int 15013))) (.int 3))]) (.int 2147483629))), (.ife (.cmp .NotIn (.var 1) (.ix (.var 0) (.str ("habits")))) [(.setix (.ix (.var 0) (.str ("habits"))) (.var 1) (.tup [(.bin .Mod (.bi .int [(.bin .FloorDiv (.ix (.var 0) (.str ("mixed"))) (.int 13))]) (.int 9)), (.bin .Mod (.bi .int [(.bin .FloorDiv (.ix (.var 0) (.str ("mixed"))) (.int 131))]) (.int 4001))]))] []), (.asg (.t [(.v 3), (.v 4)]) (.ix (.ix (.var 0) (.str ("habits"))) (.var 1))), (.ife (.cmp .Lt (.var 3) (.int 2)) [(.ret (.bin .Mult (.var 3) (.bin .Sub (.var 2) (.int 1))))] []), (.ret (.bin .Mod (.bi .int [(.ife (.cmp .Eq (.var 3) (.int 2)) (.var 4) (.bin .FloorDiv (.ix (.var 0) (.str ("mixed"))) (.int 47)))]) (.var 2)))]⟩
abbrev b_law_size_1 : List S := [(.asg (.v 1) (.bin .Mult (.var 1) (.var 2))), (.wipe [2])]
def d_law_size : Def := ⟨1, [false], 3, [(.asg (.v 1) (.int 1)), (.for (.v 2) (.seq (.ix (.var 0) (.int 1))) b_law_size_1), (.ret (.var 1))]⟩
abbrev b_law_lamps_1 : List S := [(.asg (.v 1) (.binv .Add 1 (.comp (.var 5) (.v 5) (.seq (.var 4)) [(.cmp .NotIn (.var 5) (.var 1))] [5]))), (.wipe [3, 4])]
abbrev b_law_lamps_2 : List S := [(.asg (.v 2) (.binv .Add 2 (.comp (.tup [(.var 6), (.var 5)]) (.v 5) (.seq (.bi .sorted [(.var 1)])) [] [5]))), (.wipe [6])]
def d_law_lamps : Def := ⟨1, [false], 7, [(.asg (.t [(.v 1), (.v 2)]) (.tup [(.frz (.lst [])), (.frz (.lst []))])), (.for (.t [(.v 3), (.v 4)]) (.seq (.ix (.var 0) (.int 0))) b_law_lamps_1), (.for (.v 6) (.range [(.bi .len [(.ix (.var 0) (.int 1))])]) b_law_lamps_2), (.ret (.var 2))]⟩
abbrev b_law_same_1 : List S := [(.mu .append (.var 2) [(.tup [(.ix (.var 4) (.var 6)), (.ix (.var 5) (.var 6))])]), (.wipe [6])]
abbrev b_law_same_2 : List S := [(.ife (.cmp .Eq (.bi .len [(.var 2)]) (.int 0)) [(.ret (.bl true))] []), (.asg (.t [(.v 4), (.v 5)]) (.pop (.var 2) [])), (.ife (.or (.isi (.var 5) [.tuple]) (.isi (.var 5) [.list])) [(.ife (.and (.isi (.var 5) [.tuple]) (.not (.isi (.var 4) [.tuple]))) [(.ret (.bl false))] []), (.ife (.and (.isi (.var 5) [.list]) (.not (.isi (.var 4) [.list]))) [(.ret (.bl false))] []), (.ife (.cmp .NotEq (.bi .len [(.var 4)]) (.bi .len [(.var 5)])) [(.ret (.bl false))] []), (.for (.v 6) (.range [(.bi .len [(.var 5)])]) b_law_same_1)] [(.ife (.isN (.var 5)) [(.ife (.isNN (.var 4)) [(.ret (.bl false))] [])] [(.ife (.isi (.var 5) [.bool]) [(.ife (.or (.not (.isi (.var 4) [.bool])) (.cmp .NotEq (.var 4) (.var 5))) [(.ret (.bl false))] [])] [(.ife (.isi (.var 5) [.int]) [(.ife (.or (.not (.isi (.var 4) [.int])) (.or (.isi (.var 4) [.bool]) (.cmp .NotEq (.var 4) (.var 5)))) [(.ret (.bl false))] [])] [(.ife (.or (.not (.isi (.var 5) [.str])) (.or (.not (.isi (.var 4) [.str])) (.cmp .NotEq (.var 4) (.var 5)))) [(.ret (.bl false))] [])])])])]), (.wipe [3, 4, 5, 6])]
def d_law_same : Def := ⟨2, [false, false], 7, [(.asg (.v 2) (.lst [(.tup [(.var 0), (.var 1)])])), (.for (.v 3) (.range [(.int 3000000)]) b_law_same_2), (.ret (.bl false))]⟩
abbrev b_law_board_1 : List S := [(.asg (.v 6) (.call ("_law_pull") [(.var 0), (.str ("shape")), (.bin .LShift (.int 1) (.bi .len [(.var 3)]))])), (.mu .append (.var 4) [(.tup [(.ix (.var 2) (.var 5)), (.bi .tuple [(.comp (.ix (.var 3) (.var 7)) (.v 7) (.range [(.bi .len [(.var 3)])]) [(.bin .BitAnd (.bin .RShift (.var 6) (.var 7)) (.int 1))] [7])])])]), (.wipe [5, 6])]
abbrev b_law_board_2 : List S := [(.asg (.v 11) (.bin .Add (.int 2) (.call ("_law_pull") [(.var 0), (.str ("base")), (.bin .Sub (.bi .len [(.var 4)]) (.int 1))]))), (.ife (.cmp .LtE (.bin .Mult (.var 9) (.var 11)) (.int 60)) [(.par [8, 9] [(.bin .Add (.var 8) (.tup [(.var 11)])), (.bin .Mult (.var 9) (.var 11))])] []), (.wipe [10, 11])]
def d_law_board : Def := ⟨2, [true, false], 15, [(.asg (.v 2) (.tup [(.str ("o")), (.str ("i")), (.str ("z")), (.str ("e4")), (.str ("abcdefgh")), (.str ("n"))])), (.asg (.v 3) (.ix (.tup [(.tup [(.int 0), (.int 1), (.int 2)]), (.tup [(.int 0), (.int 11)]), (.tup [(.int 3), (.int 5), (.int 6), (.int 9)]), (.tup [(.int 7)]), (.tup [(.int 0), (.int 1), (.int 2), (.int 3)])]) (.call ("_law_pull") [(.var 0), (.str ("lamps")), (.int 5)]))), (.asg (.v 4) (.lst [])), (.for (.v 5) (.range [(.bin .Add (.int 2) (.call ("_law_pull") [(.var 0), (.str ("shapes")), (.int 4)]))]) b_law_board_1), (.asg (.t [(.v 8), (.v 9)]) (.tup [(.tup []), (.int 1)])), (.for (.v 10) (.range [(.bin .Add (.int 1) (.call ("_law_pull") [(.var 0), (.str ("places")), (.var 1)]))]) b_law_board_2), (.asg (.v 12) (.ix (.tup [(.int 1), (.int 1), (.int 2), (.int 3), (.var 9), (.int 999), (.ife (.cmp .Gt (.var 9) (.int 2)) (.bin .Sub (.var 9) (.int 1)) (.int 1))]) (.call ("_law_pull") [(.var 0), (.str ("step")), (.int 7)]))), (.asg (.v 13) (.call ("_law_pull") [(.var 0), (.str ("low")), (.var 9)])), (.asg (.v 14) (.bi .min [(.bin .Sub (.var 9) (.int 1)), (.bin .Add (.var 13) (.call ("_law_pull") [(.var 0), (.str ("starts")), (.int 6)]))])), (.ret (.tup [(.bi .tuple [(.var 4)]), (.var 8), (.cmp .Eq (.call ("_law_pull") [(.var 0), (.str ("blank")), (.int 2)]) (.int 1)), (.var 12), (.tup [(.var 13), (.var 14)]), (.call ("_law_pull") [(.var 0), (.str ("broken")), (.int 4)])]))]⟩
abbrev b_law_breakage_1 : List S := [(.ife (.and (.cmp .Lt (.bi .len [(.var 3)]) (.var 2)) (.cmp .Eq (.call ("_law_pull") [(.var 0), (.str ("broken lamp")), (.int 3)]) (.int 0))) [(.mu .append (.var 3) [(.tup [(.var 4), (.var 5), (.cmp .Eq (.call ("_law_pull") [(.var 0), (.str ("lit")), (.int 2)]) (.int 1))])])] []), (.wipe [4, 5])]
def d_law_breakage : Def := ⟨3, [true, false, false], 6, [(.asg (.v 3) (.lst [])), (.for (.t [(.v 4), (.v 5)]) (.seq (.call ("_law_lamps") [(.var 1)])) b_law_breakage_1), (.ret (.bi .tuple [(.var 3)]))]⟩
def d_law_is_number : Def := ⟨1, [false], 1, [(.ret (.and (.isi (.var 0) [.int]) (.and (.not (.isi (.var 0) [.bool])) (.cmp .GtE (.var 0) (.int 0)))))]⟩
abbrev b_law_triples_1 : List S := [(.asg (.v 5) (.ix (.var 1) (.var 4))), (.ife (.or (.not (.isi (.var 5) [.tuple])) (.or (.cmp .NotEq (.bi .len [(.var 5)]) (.int 3)) (.not (.isi (.ix (.var 5) (.int 2)) [.bool])))) [(.ret (.tup [(.str ("raised")), (.var 4), (.str ("triple"))]))] []), (.ife (.or (.not (.call ("_law_is_number") [(.ix (.var 5) (.int 0))])) (.not (.call ("_law_is_number") [(.ix (.var 5) (.int 1))]))) [(.ret (.tup [(.str ("raised")), (.var 4), (.str ("triple"))]))] []), (.ife (.cmp .NotIn (.sl (.var 5) .non (.int 2)) (.var 2)) [(.ret (.tup [(.str ("raised")), (.var 4), (.str ("lamp"))]))] []), (.ife (.cmp .LtE (.sl (.var 5) .non (.int 2)) (.var 3)) [(.ret (.tup [(.str ("raised")), (.var 4), (.str ("above"))]))] []), (.asg (.v 3) (.sl (.var 5) .non (.int 2))), (.wipe [4, 5])]
def d_law_triples : Def := ⟨2, [false, false], 6, [(.par [2, 3] [(.call ("_law_lamps") [(.var 0)]), (.tup [(.neg (.int 1)), (.neg (.int 1))])]), (.for (.v 4) (.range [(.bi .len [(.var 1)])]) b_law_triples_1), (.ret .non)]⟩
def d_law_due : Def := ⟨2, [false, false], 3, [(.ife (.or (.not (.isi (.var 1) [.tuple])) (.or (.cmp .NotEq (.bi .len [(.var 1)]) (.int 2)) (.not (.isi (.ix (.var 1) (.int 1)) [.tuple])))) [(.ret (.tup [(.str ("raised")), (.neg (.int 1)), (.str ("form"))]))] []), (.ife (.or (.not (.call ("_law_is_number") [(.ix (.var 1) (.int 0))])) (.not (.chain .LtE .LtE (.ix (.ix (.var 0) (.int 4)) (.int 0)) (.ix (.var 1) (.int 0)) (.ix (.ix (.var 0) (.int 4)) (.int 1))))) [(.ret (.tup [(.str ("raised")), (.neg (.int 1)), (.str ("count"))]))] []), (.ife (.cmp .Gt (.bi .len [(.ix (.var 1) (.int 1))]) (.ix (.var 0) (.int 5))) [(.ret (.tup [(.str ("raised")), (.neg (.int 1)), (.str ("many"))]))] []), (.asg (.v 2) (.call ("_law_triples") [(.var 0), (.ix (.var 1) (.int 1))])), (.ret (.ife (.isN (.var 2)) (.tup [(.str ("told")), (.bi .len [(.ix (.var 1) (.int 1))])]) (.var 2)))]⟩
def d_law_heard : Def := ⟨2, [false, false], 3, [(.try [(.ret (.tup [(.str ("told")), (.call ("check_story") [(.var 0), (.var 1)])]))] [([("BadStory")], some 2, [(.ret (.ife (.and (.isE 2 [("DataError")]) (.isE 2 [("LampError")])) (.tup [(.str ("raised")), (.fld 2 ("at")), (.fld 2 ("word"))]) (.tup [(.str ("other"))])))])])]⟩
def d_law_judged : Def := ⟨2, [false, false], 5, [(.asg (.v 2) (.call ("_law_due") [(.var 0), (.var 1)])), (.ife (.not (.call ("_law_same") [(.tup [(.call ("_law_heard") [(.var 0), (.var 1)]), (.call ("is_story") [(.var 0), (.var 1)])]), (.tup [(.var 2), (.cmp .Eq (.ix (.var 2) (.int 0)) (.str ("told")))])])) [(.ret (.bl false))] []), (.asg (.v 3) (.ife (.and (.isi (.var 1) [.tuple]) (.cmp .Eq (.bi .len [(.var 1)]) (.int 2))) (.ix (.var 1) (.int 1)) (.var 1))), (.asg (.v 4) (.and (.isi (.var 3) [.tuple]) (.isN (.call ("_law_triples") [(.var 0), (.var 3)])))), (.ret (.call ("_law_same") [(.call ("is_breakage") [(.var 0), (.var 3)]), (.var 4)]))]⟩
def d_law_bent : Def := ⟨3, [true, false, false], 17, [(.asg (.t [(.v 3), (.v 4)]) (.var 2)), (.asg (.v 5) (.call ("_law_pull") [(.var 0), (.str ("way")), (.int 12)])), (.ife (.cmp .Eq (.var 5) (.int 0)) [(.asg (.v 6) (.tup [(.frz (.bi .list [(.var 2)])), (.tup [(.var 3)]), (.tup [(.var 3), (.frz (.bi .list [(.var 4)]))]), (.tup [(.var 3), (.var 4), (.tup [])]), .non, (.tup [(.var 4), (.var 3)]), (.str ("story")), (.tup [(.var 3), .non]), (.int 0), (.int 5)])), (.ret (.ixv 6 (.call ("_law_pull") [(.var 0), (.str ("shape kind")), (.int 10)])))] []), (.ife (.cmp .Eq (.var 5) (.int 1)) [(.asg (.t [(.v 7), (.v 8)]) (.ix (.var 1) (.int 4))), (.asg (.v 9) (.tup [(.bin .Sub (.var 7) (.int 1)), (.bin .Add (.var 8) (.int 1)), (.neg (.int 1)), (.bl true), (.bi .str [(.var 7)]), .non, (.tup [(.var 7)]), (.bin .Pow (.int 10) (.int 40)), (.cmp .Eq (.var 7) (.int 1))])), (.ret (.tup [(.ixv 9 (.call ("_law_pull") [(.var 0), (.str ("count kind")), (.int 9)])), (.var 4)]))] []), (.ife (.cmp .Eq (.var 5) (.int 2)) [(.ret (.tup [(.var 3), (.bin .Add (.var 4) (.bi .tuple [(.rep (.lst [(.tup [(.int 9), (.int 11), (.bl true)])]) (.bin .Add (.ix (.var 1) (.int 5)) (.int 1)))]))]))] []), (.ife (.cmp .Eq (.bi .len [(.var 4)]) (.int 0)) [(.ret (.tup [(.var 3), (.sl (.sl (.tup [(.tup [(.int 0), (.int 12), (.bl true)]), (.tup [(.bi .len [(.ix (.var 1) (.int 1))]), (.int 0), (.bl false)]), (.tup [(.int 0), (.int 0)]), (.str ("x"))]) (.call ("_law_pull") [(.var 0), (.str ("lone")), (.int 4)]) .non) .non (.int 1))]))] []), (.asg (.v 10) (.call ("_law_pull") [(.var 0), (.str ("at")), (.bi .len [(.var 4)])])), (.asg (.t [(.v 11), (.v 12), (.v 13)]) (.ix (.var 4) (.var 10))), (.asg (.v 14) (.comp (.var 15) (.v 15) (.range [(.int 13)]) [(.cmp .NotIn (.tup [(.int 0), (.var 15)]) (.call ("_law_lamps") [(.var 1)]))] [15])), (.asg (.v 16) (.tup [(.frz (.lst [(.var 11), (.var 12), (.var 13)])), (.tup [(.var 11), (.var 12)]), (.tup [(.var 11), (.var 12), (.bi .int [(.var 13)])]), (.tup [(.var 11), (.var 12), (.var 13), (.var 13)]), (.tup [(.cmp .Eq (.var 11) (.int 1)), (.var 12), (.var 13)]), (.tup [(.var 11), (.cmp .Eq (.var 12) (.int 1)), (.var 13)]), (.tup [(.var 11), .non, (.var 13)])])), (.asg (.v 16) (.bin .Add (.var 16) (.tup [(.tup [(.bi .len [(.ix (.var 1) (.int 1))]), (.var 12), (.var 13)]), (.tup [(.var 11), (.ix (.var 14) (.neg (.int 1))), (.var 13)]), (.tup [(.var 11), (.ix (.var 14) (.int 0)), (.var 13)]), (.tup [(.neg (.int 1)), (.var 12), (.var 13)]), (.tup [(.var 11), (.neg (.int 1)), (.var 13)]), .non, (.tup [(.var 11), (.var 12), .non])]))), (.ife (.cmp .Lt (.var 5) (.int 8)) [(.ret (.tup [(.var 3), (.bin .Add (.bin .Add (.sl (.var 4) .non (.var 10)) (.tup [(.ixv 16 (.call ("_law_pull") [(.var 0), (.str ("odd")), (.int 14)]))])) (.sl (.var 4) (.bin .Add (.var 10) (.int 1)) .non))]))] []), (.ife (.cmp .Eq (.var 5) (.int 8)) [(.ret (.tup [(.var 3), (.bin .Add (.bin .Add (.sl (.var 4) .non (.var 10)) (.tup [(.ix (.var 4) (.var 10))])) (.sl (.var 4) (.var 10) .non))]))] []), (.ife (.cmp .Eq (.var 5) (.int 9)) [(.ret (.tup [(.var 3), (.rvs (.var 4))]))] []), (.ife (.cmp .Eq (.var 5) (.int 10)) [(.ret (.tup [(.var 3), (.bin .Add (.bin .Add (.sl (.var 4) .non (.var 10)) (.tup [(.tup [(.var 11), (.var 12), (.not (.var 13))])])) (.sl (.var 4) (.bin .Add (.var 10) (.int 1)) .non))]))] []), (.ret (.tup [(.var 3), (.bin .Add (.bin .Add (.sl (.var 4) .non (.var 10)) (.tup [(.tup [(.var 11), (.var 12), (.not (.var 13))])])) (.sl (.var 4) (.var 10) .non))]))]⟩
def d_law_hand : Def := ⟨0, [], 4, [(.asg (.v 0) (.tup [(.tup [(.tup [(.str ("o")), (.tup [(.int 0), (.int 1), (.int 2)])]), (.tup [(.str ("i")), (.tup [(.int 1)])]), (.tup [(.str ("z")), (.tup [(.int 0), (.int 2)])])]), (.tup [(.int 3)]), (.bl false), (.int 1), (.tup [(.int 0), (.int 2)]), (.int 1)])), (.asg (.v 1) (.tup [(.tup [(.tup [(.str ("n")), (.tup [])]), (.tup [(.str ("e")), (.tup [(.int 0), (.int 1)])])]), (.tup [(.int 2), (.int 2)]), (.bl false), (.int 1), (.tup [(.int 0), (.int 3)]), (.int 1)])), (.asg (.v 2) (.tup [(.call ("check_story") [(.var 0), (.tup [(.int 1), (.tup [(.tup [(.int 0), (.int 2), (.bl true)])])])]), (.call ("is_breakage") [(.var 1), (.tup [(.tup [(.int 1), (.int 1), (.bl false)]), (.tup [(.int 1), (.int 0), (.bl true)])])]), (.callk ("is_breakage") [1, 0] [] [(.tup [(.tup [(.int 0), (.int 1), (.bl false)]), (.tup [(.int 1), (.int 0), (.bl true)])]), (.var 1)])])), (.ife (.not (.call ("_law_same") [(.var 2), (.tup [(.int 1), (.bl false), (.bl true)])])) [(.ret (.bl false))] []), (.asg (.v 2) (.tup [(.call ("_law_heard") [(.var 0), (.lst [(.int 9)])]), (.call ("_law_heard") [(.var 0), (.tup [(.int 9), (.tup [(.tup [(.int 0), (.int 1), (.int 1)]), (.int 5)])])]), (.call ("_law_heard") [(.var 0), (.tup [(.int 1), (.tup [(.tup [(.int 0), (.int 1), (.int 1)]), (.int 5)])])])])), (.asg (.v 2) (.bin .Add (.var 2) (.tup [(.call ("_law_heard") [(.bin .Add (.sl (.var 1) .non (.int 5)) (.tup [(.int 3)])), (.tup [(.int 1), (.tup [(.tup [(.int 0), (.int 0), (.bl true)]), (.tup [(.int 0), (.int 7), (.bl true)]), (.tup [(.int 0), (.int 0), (.int 1)])])])]), (.call ("_law_heard") [(.bin .Add (.sl (.var 1) .non (.int 5)) (.tup [(.int 2)])), (.tup [(.int 1), (.tup [(.tup [(.int 1), (.int 0), (.bl true)]), (.tup [(.int 0), (.int 1), (.bl true)])])])])]))), (.asg (.v 2) (.bin .Add (.var 2) (.tup [(.callk ("is_story") [1, 0] [] [(.tup [(.int 0), (.tup [])]), (.var 1)]), (.call ("is_story") [(.var 1), (.tup [(.int 0), (.tup [(.tup [(.int 0), (.int 0), (.bl true)]), (.tup [(.int 0), (.int 1), (.bl true)])])])]), (.call ("is_breakage") [(.var 0), (.tup [])]), (.call ("is_breakage") [(.var 0), (.lst [(.tup [(.int 0), (.int 1), (.bl true)])])])]))), (.asg (.v 3) (.tup [(.tup [(.str ("raised")), (.neg (.int 1)), (.str ("form"))]), (.tup [(.str ("raised")), (.neg (.int 1)), (.str ("count"))]), (.tup [(.str ("raised")), (.neg (.int 1)), (.str ("many"))]), (.tup [(.str ("raised")), (.int 1), (.str ("lamp"))]), (.tup [(.str ("raised")), (.int 1), (.str ("above"))]), (.bl true), (.bl false), (.bl true), (.bl false)])), (.ret (.call ("_law_same") [(.var 2), (.var 3)]))]⟩
abbrev b_law_1 : List S := [(.asg (.v 11) (.call ("_law_bent") [(.var 1), (.var 3), (.var 6)])), (.ife (.and (.cmp .Eq (.var 10) (.int 5)) (.and (.isi (.var 11) [.tuple]) (.cmp .Eq (.ix (.call ("_law_due") [(.var 3), (.var 11)]) (.int 0)) (.str ("told"))))) [(.asg (.v 11) (.call ("_law_bent") [(.var 1), (.var 3), (.var 11)]))] []), (.ife (.not (.call ("_law_judged") [(.var 3), (.var 11)])) [(.ret (.bl false))] []), (.wipe [10, 11])]
abbrev b_law_2 : List S := [(.asg (.v 3) (.call ("_law_board") [(.var 1), (.int 3)])), (.asg (.v 3) (.bin .Add (.sl (.var 3) .non (.int 5)) (.tup [(.ix (.tup [(.int 0), (.int 1), (.int 2), (.int 6)]) (.call ("_law_pull") [(.var 1), (.str ("room")), (.int 4)]))]))), (.asg (.t [(.v 4), (.v 5)]) (.ix (.var 3) (.int 4))), (.asg (.v 6) (.tup [(.bin .Add (.var 4) (.call ("_law_pull") [(.var 1), (.str ("count")), (.bin .Add (.bin .Sub (.var 5) (.var 4)) (.int 1))])), (.call ("_law_breakage") [(.var 1), (.var 3), (.ix (.var 3) (.int 5))])])), (.asg (.v 7) (.bi .tuple [(.comp (.tup [(.var 8), (.var 9), (.cmp .Eq (.call ("_law_pull") [(.var 1), (.str ("whole")), (.int 2)]) (.int 0))]) (.t [(.v 8), (.v 9)]) (.seq (.call ("_law_lamps") [(.var 3)])) [] [8, 9])])), (.ife (.or (.not (.call ("_law_judged") [(.var 3), (.var 6)])) (.not (.call ("_law_judged") [(.var 3), (.tup [(.var 4), (.var 7)])]))) [(.ret (.bl false))] []), (.for (.v 10) (.range [(.int 6)]) b_law_1), (.wipe [2, 3, 4, 5, 6, 7, 10, 11])]
def d_law : Def := ⟨1, [false], 12, [(.asg (.v 1) (.call ("_law_trunk") [(.var 0)])), (.ife (.not (.call ("_law_hand") [])) [(.ret (.bl false))] []), (.for (.v 2) (.range [(.int 4)]) b_law_2), (.ret (.bl true))]⟩
def prog : Prog := ⟨[(("is_integer" : Str), d_is_integer), (("integer_within" : Str), d_integer_within), (("is_tuple" : Str), d_is_tuple), (("lamps_of" : Str), d_lamps_of), (("board_lamps" : Str), d_board_lamps), (("triple_word" : Str), d_triple_word), (("breakage_fault" : Str), d_breakage_fault), (("story_fault" : Str), d_story_fault), (("check_story" : Str), d_check_story), (("is_story" : Str), d_is_story), (("is_breakage" : Str), d_is_breakage), (("_law_trunk" : Str), d_law_trunk), (("_law_pull" : Str), d_law_pull), (("_law_size" : Str), d_law_size), (("_law_lamps" : Str), d_law_lamps), (("_law_same" : Str), d_law_same), (("_law_board" : Str), d_law_board), (("_law_breakage" : Str), d_law_breakage), (("_law_is_number" : Str), d_law_is_number), (("_law_triples" : Str), d_law_triples), (("_law_due" : Str), d_law_due), (("_law_heard" : Str), d_law_heard), (("_law_judged" : Str), d_law_judged), (("_law_bent" : Str), d_law_bent), (("_law_hand" : Str), d_law_hand), (("law" : Str), d_law)], [], [(("LampError"), [("LampError"), ("ValueError"), ("Exception"), ("BaseException"), ("object")], []), (("DataError"), [("DataError"), ("LampError"), ("ValueError"), ("Exception"), ("BaseException"), ("object")], []), (("BadStory"), [("BadStory"), ("DataError"), ("LampError"), ("ValueError"), ("Exception"), ("BaseException"), ("object")], [("at"), ("word")])]⟩
@[simp] theorem lk_is_integer : prog.defs.lookup ("is_integer" : Str) = some d_is_integer := rfl
@[simp] theorem mu_is_integer : d_is_integer.muts = [false] := rfl
@[simp] theorem lk_integer_within : prog.defs.lookup ("integer_within" : Str) = some d_integer_within := rfl
@[simp] theorem mu_integer_within : d_integer_within.muts = [false, false, false] := rfl
@[simp] theorem lk_is_tuple : prog.defs.lookup ("is_tuple" : Str) = some d_is_tuple := rfl
@[simp] theorem mu_is_tuple : d_is_tuple.muts = [false, false] := rfl
@[simp] theorem lk_lamps_of : prog.defs.lookup ("lamps_of" : Str) = some d_lamps_of := rfl
@[simp] theorem mu_lamps_of : d_lamps_of.muts = [false] := rfl
@[simp] theorem lk_board_lamps : prog.defs.lookup ("board_lamps" : Str) = some d_board_lamps := rfl
@[simp] theorem mu_board_lamps : d_board_lamps.muts = [false] := rfl
@[simp] theorem lk_triple_word : prog.defs.lookup ("triple_word" : Str) = some d_triple_word := rfl
@[simp] theorem mu_triple_word : d_triple_word.muts = [false, false, false] := rfl
@[simp] theorem lk_breakage_fault : prog.defs.lookup ("breakage_fault" : Str) = some d_breakage_fault := rfl
@[simp] theorem mu_breakage_fault : d_breakage_fault.muts = [false, false] := rfl
@[simp] theorem lk_story_fault : prog.defs.lookup ("story_fault" : Str) = some d_story_fault := rfl
@[simp] theorem mu_story_fault : d_story_fault.muts = [false, false] := rfl
@[simp] theorem lk_check_story : prog.defs.lookup ("check_story" : Str) = some d_check_story := rfl
@[simp] theorem mu_check_story : d_check_story.muts = [false, false] := rfl
@[simp] theorem lk_is_story : prog.defs.lookup ("is_story" : Str) = some d_is_story := rfl
@[simp] theorem mu_is_story : d_is_story.muts = [false, false] := rfl
@[simp] theorem lk_is_breakage : prog.defs.lookup ("is_breakage" : Str) = some d_is_breakage := rfl
@[simp] theorem mu_is_breakage : d_is_breakage.muts = [false, false] := rfl
@[simp] theorem lk_law_trunk : prog.defs.lookup ("_law_trunk" : Str) = some d_law_trunk := rfl
@[simp] theorem mu_law_trunk : d_law_trunk.muts = [false] := rfl
@[simp] theorem lk_law_pull : prog.defs.lookup ("_law_pull" : Str) = some d_law_pull := rfl
@[simp] theorem mu_law_pull : d_law_pull.muts = [true, false, false] := rfl
@[simp] theorem lk_law_size : prog.defs.lookup ("_law_size" : Str) = some d_law_size := rfl
@[simp] theorem mu_law_size : d_law_size.muts = [false] := rfl
@[simp] theorem lk_law_lamps : prog.defs.lookup ("_law_lamps" : Str) = some d_law_lamps := rfl
@[simp] theorem mu_law_lamps : d_law_lamps.muts = [false] := rfl
@[simp] theorem lk_law_same : prog.defs.lookup ("_law_same" : Str) = some d_law_same := rfl
@[simp] theorem mu_law_same : d_law_same.muts = [false, false] := rfl
@[simp] theorem lk_law_board : prog.defs.lookup ("_law_board" : Str) = some d_law_board := rfl
@[simp] theorem mu_law_board : d_law_board.muts = [true, false] := rfl
@[simp] theorem lk_law_breakage : prog.defs.lookup ("_law_breakage" : Str) = some d_law_breakage := rfl
@[simp] theorem mu_law_breakage : d_law_breakage.muts = [true, false, false] := rfl
@[simp] theorem lk_law_is_number : prog.defs.lookup ("_law_is_number" : Str) = some d_law_is_number := rfl
@[simp] theorem mu_law_is_number : d_law_is_number.muts = [false] := rfl
@[simp] theorem lk_law_triples : prog.defs.lookup ("_law_triples" : Str) = some d_law_triples := rfl
@[simp] theorem mu_law_triples : d_law_triples.muts = [false, false] := rfl
@[simp] theorem lk_law_due : prog.defs.lookup ("_law_due" : Str) = some d_law_due := rfl
@[simp] theorem mu_law_due : d_law_due.muts = [false, false] := rfl
@[simp] theorem lk_law_heard : prog.defs.lookup ("_law_heard" : Str) = some d_law_heard := rfl
@[simp] theorem mu_law_heard : d_law_heard.muts = [false, false] := rfl
@[simp] theorem lk_law_judged : prog.defs.lookup ("_law_judged" : Str) = some d_law_judged := rfl
@[simp] theorem mu_law_judged : d_law_judged.muts = [false, false] := rfl
@[simp] theorem lk_law_bent : prog.defs.lookup ("_law_bent" : Str) = some d_law_bent := rfl
@[simp] theorem mu_law_bent : d_law_bent.muts = [true, false, false] := rfl
@[simp] theorem lk_law_hand : prog.defs.lookup ("_law_hand" : Str) = some d_law_hand := rfl
@[simp] theorem mu_law_hand : d_law_hand.muts = [] := rfl
@[simp] theorem lk_law : prog.defs.lookup ("law" : Str) = some d_law := rfl
@[simp] theorem mu_law : d_law.muts = [false] := rfl
@[simp] theorem f62_0 : fits62 0 = true := by decide
@[simp] theorem f64_0 : fits64 0 = true := by decide
@[simp] theorem f62_1 : fits62 1 = true := by decide
@[simp] theorem f64_1 : fits64 1 = true := by decide
@[simp] theorem f62_2 : fits62 2 = true := by decide
@[simp] theorem f64_2 : fits64 2 = true := by decide
@[simp] theorem f62_3 : fits62 3 = true := by decide
@[simp] theorem f64_3 : fits64 3 = true := by decide
@[simp] theorem f62_4 : fits62 4 = true := by decide
@[simp] theorem f64_4 : fits64 4 = true := by decide
@[simp] theorem f62_5 : fits62 5 = true := by decide
@[simp] theorem f64_5 : fits64 5 = true := by decide
@[simp] theorem f62_6 : fits62 6 = true := by decide
@[simp] theorem f64_6 : fits64 6 = true := by decide
@[simp] theorem f62_7 : fits62 7 = true := by decide
@[simp] theorem f64_7 : fits64 7 = true := by decide
@[simp] theorem f62_8 : fits62 8 = true := by decide
@[simp] theorem f64_8 : fits64 8 = true := by decide
@[simp] theorem f62_9 : fits62 9 = true := by decide
@[simp] theorem f64_9 : fits64 9 = true := by decide
@[simp] theorem f62_10 : fits62 10 = true := by decide
@[simp] theorem f64_10 : fits64 10 = true := by decide
@[simp] theorem f62_11 : fits62 11 = true := by decide
@[simp] theorem f64_11 : fits64 11 = true := by decide
@[simp] theorem f62_12 : fits62 12 = true := by decide
@[simp] theorem f64_12 : fits64 12 = true := by decide
@[simp] theorem f62_13 : fits62 13 = true := by decide
@[simp] theorem f64_13 : fits64 13 = true := by decide
@[simp] theorem f62_14 : fits62 14 = true := by decide
@[simp] theorem f64_14 : fits64 14 = true := by decide
@[simp] theorem f62_40 : fits62 40 = true := by decide
@[simp] theorem f64_40 : fits64 40 = true := by decide
@[simp] theorem f62_47 : fits62 47 = true := by decide
@[simp] theorem f64_47 : fits64 47 = true := by decide
@[simp] theorem f62_48 : fits62 48 = true := by decide
@[simp] theorem f64_48 : fits64 48 = true := by decide
@[simp] theorem f62_60 : fits62 60 = true := by decide
@[simp] theorem f64_60 : fits64 60 = true := by decide
@[simp] theorem f62_131 : fits62 131 = true := by decide
@[simp] theorem f64_131 : fits64 131 = true := by decide
@[simp] theorem f62_140 : fits62 140 = true := by decide
@[simp] theorem f64_140 : fits64 140 = true := by decide
@[simp] theorem f62_999 : fits62 999 = true := by decide
@[simp] theorem f64_999 : fits64 999 = true := by decide
@[simp] theorem f62_1021 : fits62 1021 = true := by decide
@[simp] theorem f64_1021 : fits64 1021 = true := by decide
@[simp] theorem f62_1400 : fits62 1400 = true := by decide
@[simp] theorem f64_1400 : fits64 1400 = true := by decide
@[simp] theorem f62_4001 : fits62 4001 = true := by decide
@[simp] theorem f64_4001 : fits64 4001 = true := by decide
@[simp] theorem f62_15013 : fits62 15013 = true := by decide
@[simp] theorem f64_15013 : fits64 15013 = true := by decide
@[simp] theorem f62_69621 : fits62 69621 = true := by decide
@[simp] theorem f64_69621 : fits64 69621 = true := by decide
@[simp] theorem f62_1000003 : fits62 1000003 = true := by decide
@[simp] theorem f64_1000003 : fits64 1000003 = true := by decide
@[simp] theorem f62_3000000 : fits62 3000000 = true := by decide
@[simp] theorem f64_3000000 : fits64 3000000 = true := by decide
@[simp] theorem f62_2147483629 : fits62 2147483629 = true := by decide
@[simp] theorem f64_2147483629 : fits64 2147483629 = true := by decide
@[simp] theorem kn_LampError : knows prog ("LampError") = true := rfl
@[simp] theorem kn_DataError : knows prog ("DataError") = true := rfl
@[simp] theorem kn_BadStory : knows prog ("BadStory") = true := rfl
@[simp] theorem fl_BadStory_at (a0 a1 : PV) : fldI prog (some (.err ("BadStory") [a0, a1])) ("at") = if a0.imm then some a0 else none := by with_unfolding_all rfl
@[simp] theorem fl_BadStory_word (a0 a1 : PV) : fldI prog (some (.err ("BadStory") [a0, a1])) ("word") = if a1.imm then some a1 else none := by with_unfolding_all rfl
@[simp] theorem ie_BadStory (fs : List PV) (ds : List Str) : isEI prog (some (.err ("BadStory") fs)) ds = some (.bl (isUnder prog ("BadStory") ds)) := by with_unfolding_all rfl
@[simp] theorem iu_LampError_BadStory (ds : List Str) : isUnder prog ("LampError") (("BadStory") :: ds) = isUnder prog ("LampError") ds := by rfl
@[simp] theorem iu_LampError_DataError (ds : List Str) : isUnder prog ("LampError") (("DataError") :: ds) = isUnder prog ("LampError") ds := by rfl
@[simp] theorem iu_LampError_LampError (ds : List Str) : isUnder prog ("LampError") (("LampError") :: ds) = true := by rfl
@[simp] theorem iu_LampError_ : isUnder prog ("LampError") [] = false := rfl
@[simp] theorem iu_DataError_BadStory (ds : List Str) : isUnder prog ("DataError") (("BadStory") :: ds) = isUnder prog ("DataError") ds := by rfl
@[simp] theorem iu_DataError_DataError (ds : List Str) : isUnder prog ("DataError") (("DataError") :: ds) = true := by rfl
@[simp] theorem iu_DataError_LampError (ds : List Str) : isUnder prog ("DataError") (("LampError") :: ds) = true := by rfl
@[simp] theorem iu_DataError_ : isUnder prog ("DataError") [] = false := rfl
@[simp] theorem iu_BadStory_BadStory (ds : List Str) : isUnder prog ("BadStory") (("BadStory") :: ds) = true := by rfl
@[simp] theorem iu_BadStory_DataError (ds : List Str) : isUnder prog ("BadStory") (("DataError") :: ds) = true := by rfl
@[simp] theorem iu_BadStory_LampError (ds : List Str) : isUnder prog ("BadStory") (("LampError") :: ds) = true := by rfl
@[simp] theorem iu_BadStory_ : isUnder prog ("BadStory") [] = false := rfl
end K15
namespace K15
open PySem PySem.Spec PyProof.Rows L2 DI
def topS (i : Nat) : Stmt := PySem.Challenge.pw_brokenlamps_k15_stories_checked.main.body.getD i (.Pass ⟨0, 0, 0, 0⟩)
abbrev s_is_integer : Stmt := topS 5
abbrev s_integer_within : Stmt := topS 6
abbrev s_is_tuple : Stmt := topS 7
abbrev s_lamps_of : Stmt := topS 9
abbrev s_board_lamps : Stmt := topS 10
abbrev s_triple_word : Stmt := topS 12
abbrev s_breakage_fault : Stmt := topS 13
abbrev s_story_fault : Stmt := topS 14
abbrev s_check_story : Stmt := topS 15
abbrev s_is_story : Stmt := topS 16
abbrev s_is_breakage : Stmt := topS 17
abbrev s_law_trunk : Stmt := topS 19
abbrev s_law_pull : Stmt := topS 20
abbrev s_law_size : Stmt := topS 21
abbrev s_law_lamps : Stmt := topS 22
abbrev s_law_same : Stmt := topS 23
abbrev s_law_board : Stmt := topS 24
abbrev s_law_breakage : Stmt := topS 25
abbrev s_law_is_number : Stmt := topS 26
abbrev s_law_triples : Stmt := topS 27
abbrev s_law_due : Stmt := topS 28
abbrev s_law_heard : Stmt := topS 29
abbrev s_law_judged : Stmt := topS 30
abbrev s_law_bent : Stmt := topS 31
abbrev s_law_hand : Stmt := topS 32
abbrev s_law : Stmt := topS 33
def src (f : Str) : Stmt := (([(("is_integer" : Str), s_is_integer), (("integer_within" : Str), s_integer_within), (("is_tuple" : Str), s_is_tuple), (("lamps_of" : Str), s_lamps_of), (("board_lamps" : Str), s_board_lamps), (("triple_word" : Str), s_triple_word), (("breakage_fault" : Str), s_breakage_fault), (("story_fault" : Str), s_story_fault), (("check_story" : Str), s_check_story), (("is_story" : Str), s_is_story), (("is_breakage" : Str), s_is_breakage), (("_law_trunk" : Str), s_law_trunk), (("_law_pull" : Str), s_law_pull), (("_law_size" : Str), s_law_size), (("_law_lamps" : Str), s_law_lamps), (("_law_same" : Str), s_law_same), (("_law_board" : Str), s_law_board), (("_law_breakage" : Str), s_law_breakage), (("_law_is_number" : Str), s_law_is_number), (("_law_triples" : Str), s_law_triples), (("_law_due" : Str), s_law_due), (("_law_heard" : Str), s_law_heard), (("_law_judged" : Str), s_law_judged), (("_law_bent" : Str), s_law_bent), (("_law_hand" : Str), s_law_hand), (("law" : Str), s_law)] : List (Str × Stmt)).lookup f).getD (.Pass ⟨0, 0, 0, 0⟩)
theorem sc_is_integer : FnScope ["thing"] ["thing"] (defScope s_is_integer) := ⟨rfl, rfl, rfl, by decide +kernel, rfl, by decide +kernel, by decide +kernel⟩
theorem w_is_integer : WalkX prog src ("is_integer") d_is_integer := by
  refine ⟨["thing"], ["thing"], sc_is_integer, rfl, rfl, rfl, fun _ _ _ _ _ _ us h => match us, h with | [_], _ => rfl, fun P w K mg base k cf fu XX W er fa cdv A outer s H E0 B E => ?_⟩
  have hp := passes_of (X := cxOf (L2.CX P w) P w K mg base ["thing"] ("is_integer") (defScope s_is_integer) fa cdv A outer s H E0) rfl
  have nd := sc_is_integer.nd
  exact (pss_c (ps_rt B.O (pe_and' B.O (g_isi B .int g_v (B.ng .int)) (pe_one (pe_not' B.O (g_isi B .bool g_v (B.ng .bool))))))
 pss_n)
theorem sc_integer_within : FnScope ["thing", "low", "high"] ["thing", "low", "high"] (defScope s_integer_within) := ⟨rfl, rfl, rfl, by decide +kernel, rfl, by decide +kernel, by decide +kernel⟩
theorem w_integer_within : WalkX prog src ("integer_within") d_integer_within := by
  refine ⟨["thing", "low", "high"], ["thing", "low", "high"], sc_integer_within, rfl, rfl, rfl, fun _ _ _ _ _ _ us h => match us, h with | [_, _, _], _ => rfl, fun P w K mg base k cf fu XX W er fa cdv A outer s H E0 B E => ?_⟩
  have hp := passes_of (X := cxOf (L2.CX P w) P w K mg base ["thing", "low", "high"] ("integer_within") (defScope s_integer_within) fa cdv A outer s H E0) rfl
  have nd := sc_integer_within.nd
  exact (pss_c (ps_rt B.O (pe_and' B.O (g_call B (g_cons g_v .nil)) (pe_one (g_chain B g_v g_v g_v))))
 pss_n)
theorem sc_is_tuple : FnScope ["thing", "many"] ["thing", "many"] (defScope s_is_tuple) := ⟨rfl, rfl, rfl, by decide +kernel, rfl, by decide +kernel, by decide +kernel⟩
theorem w_is_tuple : WalkX prog src ("is_tuple") d_is_tuple := by
  refine ⟨["thing", "many"], ["thing", "many"], sc_is_tuple, rfl, rfl, rfl, fun _ _ _ _ _ _ us h => match us, h with | [_, _], _ => rfl, fun P w K mg base k cf fu XX W er fa cdv A outer s H E0 B E => ?_⟩
  have hp := passes_of (X := cxOf (L2.CX P w) P w K mg base ["thing", "many"] ("is_tuple") (defScope s_is_tuple) fa cdv A outer s H E0) rfl
  have nd := sc_is_tuple.nd
  exact (pss_c (ps_rt B.O (pe_and' B.O (g_isi B .tuple g_v (B.ng .tuple)) (pe_one (g_cmp B (g_bi B .len (g_cons g_v .nil)) g_v))))
 pss_n)
theorem sc_lamps_of : FnScope ["board", "lamps", "_", "told"] ["board"] (defScope s_lamps_of) := ⟨rfl, rfl, rfl, by decide +kernel, rfl, by decide +kernel, by decide +kernel⟩
theorem w_lamps_of : WalkX prog src ("lamps_of") d_lamps_of := by
  refine ⟨["board", "lamps", "_", "told"], ["board"], sc_lamps_of, rfl, rfl, rfl, fun _ _ _ _ _ _ us h => match us, h with | [_], _ => rfl, fun P w K mg base k cf fu XX W er fa cdv A outer s H E0 B E => ?_⟩
  have hp := passes_of (X := cxOf (L2.CX P w) P w K mg base ["board", "lamps", "_", "told"] ("lamps_of") (defScope s_lamps_of) fa cdv A outer s H E0) rfl
  have nd := sc_lamps_of.nd
  exact (pss_c (g_set B nd (pe_lst' B.O .nil))
 (pss_c (g_for B hp (pi_seq B.O (g_ix B g_v (g_int B))) (fun Z1 R1 Q1 => (g_tt (B.sub Z1 R1 Q1) pr0 (g_tcons (g_tv (B.sub Z1 R1 Q1).O nd) (g_tcons (g_tv (B.sub Z1 R1 Q1).O nd) .nil)))) (fun Z1 R1 Q1 => (pss_c (g_extend (B.sub Z1 R1 Q1) g_pv (g_cons g_v .nil))
 (pss_w [2, 3] pss_n))))
 (pss_c (ps_rt B.O (g_bi B .tuple (g_cons (g_bi B .sorted (g_cons (g_bi B .set (g_cons g_v .nil)) .nil)) .nil)))
 pss_n)))
theorem sc_board_lamps : FnScope ["board", "lamps", "place", "lamp"] ["board"] (defScope s_board_lamps) := ⟨rfl, rfl, rfl, by decide +kernel, rfl, by decide +kernel, by decide +kernel⟩
theorem w_board_lamps : WalkX prog src ("board_lamps") d_board_lamps := by
  refine ⟨["board", "lamps", "place", "lamp"], ["board"], sc_board_lamps, rfl, rfl, rfl, fun _ _ _ _ _ _ us h => match us, h with | [_], _ => rfl, fun P w K mg base k cf fu XX W er fa cdv A outer s H E0 B E => ?_⟩
  have hp := passes_of (X := cxOf (L2.CX P w) P w K mg base ["board", "lamps", "place", "lamp"] ("board_lamps") (defScope s_board_lamps) fa cdv A outer s H E0) rfl
  have nd := sc_board_lamps.nd
  exact (pss_c (g_set B nd (pe_lst' B.O .nil))
 (pss_c (g_for B hp (g_r1 B (g_cons (g_bi B .len (g_cons (g_ix B g_v (g_int B)) .nil)) .nil)) (fun Z1 R1 Q1 => (g_tv (B.sub Z1 R1 Q1).O nd)) (fun Z1 R1 Q1 => (pss_c (g_extend (B.sub Z1 R1 Q1) g_pv (g_cons (g_cmp0 (B.sub Z1 R1 Q1) nd [(("lamp"), 3)] (pi_seq (B.sub Z1 R1 Q1).O (g_call (B.sub Z1 R1 Q1) (g_cons g_v .nil))) rfl (fun Z2 R2 Q2 s2 H2 C2 cl2 fp2 => (g_tw ((B.sub Z1 R1 Q1).cmp Z2 R2 Q2 s2 H2 _ _ fp2).O nd)) (fun Z2 R2 Q2 s2 H2 C2 cl2 fp2 => pts_n) (fun Z2 R2 Q2 s2 H2 C2 cl2 fp2 => (pe_tup' ((B.sub Z1 R1 Q1).cmp Z2 R2 Q2 s2 H2 _ _ fp2).O (g_cons g_v (g_cons g_v .nil))))) .nil))
 (pss_w [2] pss_n))))
 (pss_c (ps_rt B.O (g_bi B .tuple (g_cons g_v .nil)))
 pss_n)))
theorem sc_triple_word : FnScope ["board", "things", "at", "thing"] ["board", "things", "at"] (defScope s_triple_word) := ⟨rfl, rfl, rfl, by decide +kernel, rfl, by decide +kernel, by decide +kernel⟩
theorem w_triple_word : WalkX prog src ("triple_word") d_triple_word := by
  refine ⟨["board", "things", "at", "thing"], ["board", "things", "at"], sc_triple_word, rfl, rfl, rfl, fun _ _ _ _ _ _ us h => match us, h with | [_, _, _], _ => rfl, fun P w K mg base k cf fu XX W er fa cdv A outer s H E0 B E => ?_⟩
  have hp := passes_of (X := cxOf (L2.CX P w) P w K mg base ["board", "things", "at", "thing"] ("triple_word") (defScope s_triple_word) fa cdv A outer s H E0) rfl
  have nd := sc_triple_word.nd
  exact (pss_c (g_set B nd (g_ix B g_v g_v))
 (pss_c (ps_ife B.O ((pw_or' B.O (pt_not' B.O (pt_of B.O (g_call B (g_cons g_v (g_cons (g_int B) .nil))) (by intro _; rfl))) (pw_or' B.O (pt_not' B.O (pt_of B.O (g_call B (g_cons (g_ix B g_v (g_int B)) .nil)) (by intro _; rfl))) (pw_or' B.O (pt_not' B.O (pt_of B.O (g_call B (g_cons (g_ix B g_v (g_int B)) .nil)) (by intro _; rfl))) (pw_or1 (pt_not' B.O (pt_of B.O (g_isi B .bool (g_ix B g_v (g_int B)) (B.ng .bool)) (by intro _; rfl)))))))).pt (pss_c (ps_rt B.O (g_str B))
 pss_n) pss_n)
 (pss_c (ps_ife B.O ((pw_or' B.O (pt_cmp' B.O (g_ix B g_v (g_int B)) (g_int B) (by intro _ _ _ h; cases h)) (pw_or1 (pt_cmp' B.O (g_ix B g_v (g_int B)) (g_int B) (by intro _ _ _ h; cases h))))).pt (pss_c (ps_rt B.O (g_str B))
 pss_n) pss_n)
 (pss_c (ps_ife B.O (pt_cmp' B.O (g_slH B g_v (g_int B)) (g_call B (g_cons g_v .nil)) (by intro _ _ _ h; cases h)) (pss_c (ps_rt B.O (g_str B))
 pss_n) pss_n)
 (pss_c (ps_rt B.O (pe_ife B.O ((pw_and' B.O (pt_cmp' B.O g_v (g_int B) (by intro _ _ _ h; cases h)) (pw_and1 (pt_cmp' B.O (g_slH B g_v (g_int B)) (g_slH B (g_ix B g_v (g_bin B g_v (g_int B))) (g_int B)) (by intro _ _ _ h; cases h))))).pt (g_str B) (g_non B)))
 pss_n)))))
theorem sc_breakage_fault : FnScope ["board", "things", "at", "word"] ["board", "things"] (defScope s_breakage_fault) := ⟨rfl, rfl, rfl, by decide +kernel, rfl, by decide +kernel, by decide +kernel⟩
theorem w_breakage_fault : WalkX prog src ("breakage_fault") d_breakage_fault := by
  refine ⟨["board", "things", "at", "word"], ["board", "things"], sc_breakage_fault, rfl, rfl, rfl, fun _ _ _ _ _ _ us h => match us, h with | [_, _], _ => rfl, fun P w K mg base k cf fu XX W er fa cdv A outer s H E0 B E => ?_⟩
  have hp := passes_of (X := cxOf (L2.CX P w) P w K mg base ["board", "things", "at", "word"] ("breakage_fault") (defScope s_breakage_fault) fa cdv A outer s H E0) rfl
  have nd := sc_breakage_fault.nd
  exact (pss_c (g_for B hp (g_r1 B (g_cons (g_bi B .len (g_cons g_v .nil)) .nil)) (fun Z1 R1 Q1 => (g_tv (B.sub Z1 R1 Q1).O nd)) (fun Z1 R1 Q1 => (pss_c (g_set (B.sub Z1 R1 Q1) nd (g_call (B.sub Z1 R1 Q1) (g_cons g_v (g_cons g_v (g_cons g_v .nil)))))
 (pss_c (ps_ife (B.sub Z1 R1 Q1).O (pt_isNN (B.sub Z1 R1 Q1).O g_v) (pss_c (ps_rt (B.sub Z1 R1 Q1).O (pe_tup' (B.sub Z1 R1 Q1).O (g_cons g_v (g_cons g_v .nil))))
 pss_n) pss_n)
 (pss_w [2, 3] pss_n)))))
 (pss_c (ps_rt B.O (g_non B))
 pss_n))
theorem sc_story_fault : FnScope ["board", "thing"] ["board", "thing"] (defScope s_story_fault) := ⟨rfl, rfl, rfl, by decide +kernel, rfl, by decide +kernel, by decide +kernel⟩
theorem w_story_fault : WalkX prog src ("story_fault") d_story_fault := by
  refine ⟨["board", "thing"], ["board", "thing"], sc_story_fault, rfl, rfl, rfl, fun _ _ _ _ _ _ us h => match us, h with | [_, _], _ => rfl, fun P w K mg base k cf fu XX W er fa cdv A outer s H E0 B E => ?_⟩
  have hp := passes_of (X := cxOf (L2.CX P w) P w K mg base ["board", "thing"] ("story_fault") (defScope s_story_fault) fa cdv A outer s H E0) rfl
  have nd := sc_story_fault.nd
  exact (pss_c (ps_ife B.O ((pw_or' B.O (pt_not' B.O (pt_of B.O (g_call B (g_cons g_v (g_cons (g_int B) .nil))) (by intro _; rfl))) (pw_or1 (pt_not' B.O (pt_of B.O (g_isi B .tuple (g_ix B g_v (g_int B)) (B.ng .tuple)) (by intro _; rfl)))))).pt (pss_c (ps_rt B.O (pe_tup' B.O (g_cons (pe_neg B.O (g_int B)) (g_cons (g_str B) .nil))))
 pss_n) pss_n)
 (pss_c (ps_ife B.O (pt_not' B.O (pt_of B.O (g_call B (g_cons (g_ix B g_v (g_int B)) (g_cons (g_ix B (g_ix B g_v (g_int B)) (g_int B)) (g_cons (g_ix B (g_ix B g_v (g_int B)) (g_int B)) .nil)))) (by intro _; rfl))) (pss_c (ps_rt B.O (pe_tup' B.O (g_cons (pe_neg B.O (g_int B)) (g_cons (g_str B) .nil))))
 pss_n) pss_n)
 (pss_c (ps_ife B.O (pt_cmp' B.O (g_bi B .len (g_cons (g_ix B g_v (g_int B)) .nil)) (g_ix B g_v (g_int B)) (by intro _ _ _ h; cases h)) (pss_c (ps_rt B.O (pe_tup' B.O (g_cons (pe_neg B.O (g_int B)) (g_cons (g_str B) .nil))))
 pss_n) pss_n)
 (pss_c (ps_rt B.O (g_call B (g_cons g_v (g_cons (g_ix B g_v (g_int B)) .nil))))
 pss_n))))
theorem sc_check_story : FnScope ["board", "thing", "fault"] ["board", "thing"] (defScope s_check_story) := ⟨rfl, rfl, rfl, by decide +kernel, rfl, by decide +kernel, by decide +kernel⟩
theorem w_check_story : WalkX prog src ("check_story") d_check_story := by
  refine ⟨["board", "thing", "fault"], ["board", "thing"], sc_check_story, rfl, rfl, rfl, fun _ _ _ _ _ _ us h => match us, h with | [_, _], _ => rfl, fun P w K mg base k cf fu XX W er fa cdv A outer s H E0 B E => ?_⟩
  have hp := passes_of (X := cxOf (L2.CX P w) P w K mg base ["board", "thing", "fault"] ("check_story") (defScope s_check_story) fa cdv A outer s H E0) rfl
  have nd := sc_check_story.nd
  exact (pss_c (g_set B nd (g_call B (g_cons g_v (g_cons g_v .nil))))
 (pss_c (ps_ife B.O (pt_isNN B.O g_v) (pss_c (g_rs B E (g_cons (g_ix B g_v (g_int B)) (g_cons (g_ix B g_v (g_int B)) .nil)))
 pss_n) pss_n)
 (pss_c (ps_rt B.O (g_bi B .len (g_cons (g_ix B g_v (g_int B)) .nil)))
 pss_n)))
theorem sc_is_story : FnScope ["board", "thing"] ["board", "thing"] (defScope s_is_story) := ⟨rfl, rfl, rfl, by decide +kernel, rfl, by decide +kernel, by decide +kernel⟩
theorem w_is_story : WalkX prog src ("is_story") d_is_story := by
  refine ⟨["board", "thing"], ["board", "thing"], sc_is_story, rfl, rfl, rfl, fun _ _ _ _ _ _ us h => match us, h with | [_, _], _ => rfl, fun P w K mg base k cf fu XX W er fa cdv A outer s H E0 B E => ?_⟩
  have hp := passes_of (X := cxOf (L2.CX P w) P w K mg base ["board", "thing"] ("is_story") (defScope s_is_story) fa cdv A outer s H E0) rfl
  have nd := sc_is_story.nd
  exact (pss_c (ps_rt B.O (pe_isN B.O (g_call B (g_cons g_v (g_cons g_v .nil)))))
 pss_n)
theorem sc_is_breakage : FnScope ["board", "thing"] ["board", "thing"] (defScope s_is_breakage) := ⟨rfl, rfl, rfl, by decide +kernel, rfl, by decide +kernel, by decide +kernel⟩
theorem w_is_breakage : WalkX prog src ("is_breakage") d_is_breakage := by
  refine ⟨["board", "thing"], ["board", "thing"], sc_is_breakage, rfl, rfl, rfl, fun _ _ _ _ _ _ us h => match us, h with | [_, _], _ => rfl, fun P w K mg base k cf fu XX W er fa cdv A outer s H E0 B E => ?_⟩
  have hp := passes_of (X := cxOf (L2.CX P w) P w K mg base ["board", "thing"] ("is_breakage") (defScope s_is_breakage) fa cdv A outer s H E0) rfl
  have nd := sc_is_breakage.nd
  exact (pss_c (ps_rt B.O (pe_and' B.O (g_isi B .tuple g_v (B.ng .tuple)) (pe_one (pe_isN B.O (g_call B (g_cons g_v (g_cons g_v .nil)))))))
 pss_n)
theorem sc_law_trunk : FnScope ["script", "trunk", "cell", "size", "lap"] ["script"] (defScope s_law_trunk) := ⟨rfl, rfl, rfl, by decide +kernel, rfl, by decide +kernel, by decide +kernel⟩
theorem w_law_trunk : WalkX prog src ("_law_trunk") d_law_trunk := by
  refine ⟨["script", "trunk", "cell", "size", "lap"], ["script"], sc_law_trunk, rfl, rfl, rfl, fun _ _ _ _ _ _ us h => match us, h with | [_], _ => rfl, fun P w K mg base k cf fu XX W er fa cdv A outer s H E0 B E => ?_⟩
  have hp := passes_of (X := cxOf (L2.CX P w) P w K mg base ["script", "trunk", "cell", "size", "lap"] ("_law_trunk") (defScope s_law_trunk) fa cdv A outer s H E0) rfl
  have nd := sc_law_trunk.nd
  exact (pss_c (g_set B nd (g_dict B [(("digits"), .lst), (("mixed"), .int 15013), (("laps"), .int 0), (("habits"), .dct)] (pps_cons pe_str (pe_lst pa_nil) (pps_cons pe_str pe_int (pps_cons pe_str pe_int (pps_cons pe_str pe_dnewK pps_nil))))))
 (pss_c (g_for B hp (pi_seq B.O (g_slH B g_v (g_int B))) (fun Z1 R1 Q1 => (g_tv (B.sub Z1 R1 Q1).O nd)) (fun Z1 R1 Q1 => (pss_c (g_set (B.sub Z1 R1 Q1) nd (g_bin (B.sub Z1 R1 Q1) (g_bi (B.sub Z1 R1 Q1) .abs (g_cons (g_bi (B.sub Z1 R1 Q1) .int (g_cons g_v .nil)) .nil)) (g_bin (B.sub Z1 R1 Q1) (g_int (B.sub Z1 R1 Q1)) (g_int (B.sub Z1 R1 Q1)))))
 (pss_c (g_setix (B.sub Z1 R1 Q1) g_pv (g_str (B.sub Z1 R1 Q1)) (g_bin (B.sub Z1 R1 Q1) (g_bi (B.sub Z1 R1 Q1) .int (g_cons (g_bin (B.sub Z1 R1 Q1) (g_bin (B.sub Z1 R1 Q1) (g_bin (B.sub Z1 R1 Q1) (g_ix (B.sub Z1 R1 Q1) g_v (g_str (B.sub Z1 R1 Q1))) (g_int (B.sub Z1 R1 Q1))) (g_bin (B.sub Z1 R1 Q1) g_v (g_int (B.sub Z1 R1 Q1)))) (g_bin (B.sub Z1 R1 Q1) (g_int (B.sub Z1 R1 Q1)) (g_bi (B.sub Z1 R1 Q1) .int (g_cons (g_cmp (B.sub Z1 R1 Q1) g_v (g_int (B.sub Z1 R1 Q1))) .nil)))) .nil)) (g_int (B.sub Z1 R1 Q1))))
 (pss_c (g_for (B.sub Z1 R1 Q1) hp (g_r1 (B.sub Z1 R1 Q1) (g_cons (g_int (B.sub Z1 R1 Q1)) .nil)) (fun Z2 R2 Q2 => (g_tv ((B.sub Z1 R1 Q1).sub Z2 R2 Q2).O nd)) (fun Z2 R2 Q2 => (pss_c (ps_ife ((B.sub Z1 R1 Q1).sub Z2 R2 Q2).O (pt_cmp' ((B.sub Z1 R1 Q1).sub Z2 R2 Q2).O g_v (g_bin ((B.sub Z1 R1 Q1).sub Z2 R2 Q2) (g_int ((B.sub Z1 R1 Q1).sub Z2 R2 Q2)) (g_int ((B.sub Z1 R1 Q1).sub Z2 R2 Q2))) (by intro _ _ _ h; cases h)) (pss_c (ps_bk ((B.sub Z1 R1 Q1).sub Z2 R2 Q2).O)
 pss_n) pss_n)
 (pss_c (g_append ((B.sub Z1 R1 Q1).sub Z2 R2 Q2) (g_pix ((B.sub Z1 R1 Q1).sub Z2 R2 Q2) g_pv (g_str ((B.sub Z1 R1 Q1).sub Z2 R2 Q2))) (g_cons (g_bin ((B.sub Z1 R1 Q1).sub Z2 R2 Q2) (g_bi ((B.sub Z1 R1 Q1).sub Z2 R2 Q2) .int (g_cons g_v .nil)) (g_int ((B.sub Z1 R1 Q1).sub Z2 R2 Q2))) .nil))
 (pss_c (g_set ((B.sub Z1 R1 Q1).sub Z2 R2 Q2) nd (g_bin ((B.sub Z1 R1 Q1).sub Z2 R2 Q2) g_v (g_int ((B.sub Z1 R1 Q1).sub Z2 R2 Q2))))
 (pss_w [4] pss_n))))))
 (pss_w [4] (pss_w [2, 3, 4] pss_n)))))))
 (pss_c (ps_rt B.O g_v)
 pss_n)))
theorem sc_law_pull : FnScope ["trunk", "place", "many", "way", "own"] ["trunk", "place", "many"] (defScope s_law_pull) := ⟨rfl, rfl, rfl, by decide +kernel, rfl, by decide +kernel, by decide +kernel⟩
theorem w_law_pull : WalkX prog src ("_law_pull") d_law_pull := by
  refine ⟨["trunk", "place", "many", "way", "own"], ["trunk", "place", "many"], sc_law_pull, rfl, rfl, rfl, fun _ _ _ _ _ _ us h => match us, h with | [_, _, _], _ => rfl, fun P w K mg base k cf fu XX W er fa cdv A outer s H E0 B E => ?_⟩
  have hp := passes_of (X := cxOf (L2.CX P w) P w K mg base ["trunk", "place", "many", "way", "own"] ("_law_pull") (defScope s_law_pull) fa cdv A outer s H E0) rfl
  have nd := sc_law_pull.nd
  exact (pss_c (ps_ife B.O (pt_of B.O (g_ix B g_v (g_str B)) (by intro _; rfl)) (pss_c (ps_rt B.O (g_bin B (g_bi B .int (g_cons (g_pop B (g_pix B g_pv (g_str B))) .nil)) g_v))
 pss_n) pss_n)
 (pss_c (g_augix B g_pv (g_str B) (g_int B))
 (pss_c (g_setix B g_pv (g_str B) (g_bin B (g_bi B .int (g_cons (g_bin B (g_bin B (g_bin B (g_ix B g_v (g_str B)) (g_int B)) (g_bin B (g_ix B g_v (g_str B)) (g_int B))) (g_int B)) .nil)) (g_int B)))
 (pss_c (ps_ife B.O (pt_cmp' B.O g_v (g_ix B g_v (g_str B)) (by intro _ _ _ h; cases h)) (pss_c (g_setix B (g_pix B g_pv (g_str B)) g_v (pe_tup' B.O (g_cons (g_bin B (g_bi B .int (g_cons (g_bin B (g_ix B g_v (g_str B)) (g_int B)) .nil)) (g_int B)) (g_cons (g_bin B (g_bi B .int (g_cons (g_bin B (g_ix B g_v (g_str B)) (g_int B)) .nil)) (g_int B)) .nil))))
 pss_n) pss_n)
 (pss_c (g_sett B (g_tt B pr0 (g_tcons (g_tv B.O nd) (g_tcons (g_tv B.O nd) .nil))) (g_ix B (g_ix B g_v (g_str B)) g_v))
 (pss_c (ps_ife B.O (pt_cmp' B.O g_v (g_int B) (by intro _ _ _ h; cases h)) (pss_c (ps_rt B.O (g_bin B g_v (g_bin B g_v (g_int B))))
 pss_n) pss_n)
 (pss_c (ps_rt B.O (g_bin B (g_bi B .int (g_cons (pe_ife B.O (pt_cmp' B.O g_v (g_int B) (by intro _ _ _ h; cases h)) g_v (g_bin B (g_ix B g_v (g_str B)) (g_int B))) .nil)) g_v))
 pss_n)))))))
theorem sc_law_size : FnScope ["board", "size", "base"] ["board"] (defScope s_law_size) := ⟨rfl, rfl, rfl, by decide +kernel, rfl, by decide +kernel, by decide +kernel⟩
theorem w_law_size : WalkX prog src ("_law_size") d_law_size := by
  refine ⟨["board", "size", "base"], ["board"], sc_law_size, rfl, rfl, rfl, fun _ _ _ _ _ _ us h => match us, h with | [_], _ => rfl, fun P w K mg base k cf fu XX W er fa cdv A outer s H E0 B E => ?_⟩
  have hp := passes_of (X := cxOf (L2.CX P w) P w K mg base ["board", "size", "base"] ("_law_size") (defScope s_law_size) fa cdv A outer s H E0) rfl
  have nd := sc_law_size.nd
  exact (pss_c (g_set B nd (g_int B))
 (pss_c (g_for B hp (pi_seq B.O (g_ix B g_v (g_int B))) (fun Z1 R1 Q1 => (g_tv (B.sub Z1 R1 Q1).O nd)) (fun Z1 R1 Q1 => (pss_c (g_set (B.sub Z1 R1 Q1) nd (g_bin (B.sub Z1 R1 Q1) g_v g_v))
 (pss_w [2] pss_n))))
 (pss_c (ps_rt B.O g_v)
 pss_n)))
theorem sc_law_lamps : FnScope ["board", "used", "told", "name", "lamps", "lamp", "place"] ["board"] (defScope s_law_lamps) := ⟨rfl, rfl, rfl, by decide +kernel, rfl, by decide +kernel, by decide +kernel⟩
theorem w_law_lamps : WalkX prog src ("_law_lamps") d_law_lamps := by
  refine ⟨["board", "used", "told", "name", "lamps", "lamp", "place"], ["board"], sc_law_lamps, rfl, rfl, rfl, fun _ _ _ _ _ _ us h => match us, h with | [_], _ => rfl, fun P w K mg base k cf fu XX W er fa cdv A outer s H E0 B E => ?_⟩
  have hp := passes_of (X := cxOf (L2.CX P w) P w K mg base ["board", "used", "told", "name", "lamps", "lamp", "place"] ("_law_lamps") (defScope s_law_lamps) fa cdv A outer s H E0) rfl
  have nd := sc_law_lamps.nd
  exact (pss_c (g_sett B (g_tt B pr0 (g_tcons (g_tv B.O nd) (g_tcons (g_tv B.O nd) .nil))) (pe_tup' B.O (g_cons (g_frz B (pe_lst' B.O .nil)) (g_cons (g_frz B (pe_lst' B.O .nil)) .nil))))
 (pss_c (g_for B hp (pi_seq B.O (g_ix B g_v (g_int B))) (fun Z3 R3 Q3 => (g_tt (B.sub Z3 R3 Q3) pr0 (g_tcons (g_tv (B.sub Z3 R3 Q3).O nd) (g_tcons (g_tv (B.sub Z3 R3 Q3).O nd) .nil)))) (fun Z3 R3 Q3 => (pss_c (g_set (B.sub Z3 R3 Q3) nd (g_binv (B.sub Z3 R3 Q3) (g_cmp0 (B.sub Z3 R3 Q3) nd [(("lamp"), 5)] (pi_seq (B.sub Z3 R3 Q3).O g_v) rfl (fun Z4 R4 Q4 s4 H4 C4 cl4 fp4 => (g_tw ((B.sub Z3 R3 Q3).cmp Z4 R4 Q4 s4 H4 _ _ fp4).O nd)) (fun Z4 R4 Q4 s4 H4 C4 cl4 fp4 => (pts_1 (pt_cmp' ((B.sub Z3 R3 Q3).cmp Z4 R4 Q4 s4 H4 _ _ fp4).O g_v g_v (by intro _ _ _ h; cases h)))) (fun Z4 R4 Q4 s4 H4 C4 cl4 fp4 => g_v))))
 (pss_w [3, 4] pss_n))))
 (pss_c (g_for B hp (g_r1 B (g_cons (g_bi B .len (g_cons (g_ix B g_v (g_int B)) .nil)) .nil)) (fun Z1 R1 Q1 => (g_tv (B.sub Z1 R1 Q1).O nd)) (fun Z1 R1 Q1 => (pss_c (g_set (B.sub Z1 R1 Q1) nd (g_binv (B.sub Z1 R1 Q1) (g_cmp0 (B.sub Z1 R1 Q1) nd [(("lamp"), 5)] (pi_seq (B.sub Z1 R1 Q1).O (g_bi (B.sub Z1 R1 Q1) .sorted (g_cons g_v .nil))) rfl (fun Z2 R2 Q2 s2 H2 C2 cl2 fp2 => (g_tw ((B.sub Z1 R1 Q1).cmp Z2 R2 Q2 s2 H2 _ _ fp2).O nd)) (fun Z2 R2 Q2 s2 H2 C2 cl2 fp2 => pts_n) (fun Z2 R2 Q2 s2 H2 C2 cl2 fp2 => (pe_tup' ((B.sub Z1 R1 Q1).cmp Z2 R2 Q2 s2 H2 _ _ fp2).O (g_cons g_v (g_cons g_v .nil)))))))
 (pss_w [6] pss_n))))
 (pss_c (ps_rt B.O g_v)
 pss_n))))
theorem sc_law_same : FnScope ["told", "due", "stack", "count", "left", "right", "k"] ["told", "due"] (defScope s_law_same) := ⟨rfl, rfl, rfl, by decide +kernel, rfl, by decide +kernel, by decide +kernel⟩
theorem w_law_same : WalkX prog src ("_law_same") d_law_same := by
  refine ⟨["told", "due", "stack", "count", "left", "right", "k"], ["told", "due"], sc_law_same, rfl, rfl, rfl, fun _ _ _ _ _ _ us h => match us, h with | [_, _], _ => rfl, fun P w K mg base k cf fu XX W er fa cdv A outer s H E0 B E => ?_⟩
  have hp := passes_of (X := cxOf (L2.CX P w) P w K mg base ["told", "due", "stack", "count", "left", "right", "k"] ("_law_same") (defScope s_law_same) fa cdv A outer s H E0) rfl
  have nd := sc_law_same.nd
  exact (pss_c (g_set B nd (pe_lst' B.O (g_cons (pe_tup' B.O (g_cons g_v (g_cons g_v .nil))) .nil)))
 (pss_c (g_for B hp (g_r1 B (g_cons (g_int B) .nil)) (fun Z1 R1 Q1 => (g_tv (B.sub Z1 R1 Q1).O nd)) (fun Z1 R1 Q1 => (pss_c (ps_ife (B.sub Z1 R1 Q1).O (pt_cmp' (B.sub Z1 R1 Q1).O (g_bi (B.sub Z1 R1 Q1) .len (g_cons g_v .nil)) (g_int (B.sub Z1 R1 Q1)) (by intro _ _ _ h; cases h)) (pss_c (ps_rt (B.sub Z1 R1 Q1).O (g_bl (B.sub Z1 R1 Q1)))
 pss_n) pss_n)
 (pss_c (g_sett (B.sub Z1 R1 Q1) (g_tt (B.sub Z1 R1 Q1) pr0 (g_tcons (g_tv (B.sub Z1 R1 Q1).O nd) (g_tcons (g_tv (B.sub Z1 R1 Q1).O nd) .nil))) (g_pop (B.sub Z1 R1 Q1) g_pv))
 (pss_c (ps_ife (B.sub Z1 R1 Q1).O ((pw_or' (B.sub Z1 R1 Q1).O (pt_of (B.sub Z1 R1 Q1).O (g_isi (B.sub Z1 R1 Q1) .tuple g_v ((B.sub Z1 R1 Q1).ng .tuple)) (by intro _; rfl)) (pw_or1 (pt_of (B.sub Z1 R1 Q1).O (g_isi (B.sub Z1 R1 Q1) .list g_v ((B.sub Z1 R1 Q1).ng .list)) (by intro _; rfl))))).pt (pss_c (ps_ife (B.sub Z1 R1 Q1).O ((pw_and' (B.sub Z1 R1 Q1).O (pt_of (B.sub Z1 R1 Q1).O (g_isi (B.sub Z1 R1 Q1) .tuple g_v ((B.sub Z1 R1 Q1).ng .tuple)) (by intro _; rfl)) (pw_and1 (pt_not' (B.sub Z1 R1 Q1).O (pt_of (B.sub Z1 R1 Q1).O (g_isi (B.sub Z1 R1 Q1) .tuple g_v ((B.sub Z1 R1 Q1).ng .tuple)) (by intro _; rfl)))))).pt (pss_c (ps_rt (B.sub Z1 R1 Q1).O (g_bl (B.sub Z1 R1 Q1)))
 pss_n) pss_n)
 (pss_c (ps_ife (B.sub Z1 R1 Q1).O ((pw_and' (B.sub Z1 R1 Q1).O (pt_of (B.sub Z1 R1 Q1).O (g_isi (B.sub Z1 R1 Q1) .list g_v ((B.sub Z1 R1 Q1).ng .list)) (by intro _; rfl)) (pw_and1 (pt_not' (B.sub Z1 R1 Q1).O (pt_of (B.sub Z1 R1 Q1).O (g_isi (B.sub Z1 R1 Q1) .list g_v ((B.sub Z1 R1 Q1).ng .list)) (by intro _; rfl)))))).pt (pss_c (ps_rt (B.sub Z1 R1 Q1).O (g_bl (B.sub Z1 R1 Q1)))
 pss_n) pss_n)
 (pss_c (ps_ife (B.sub Z1 R1 Q1).O (pt_cmp' (B.sub Z1 R1 Q1).O (g_bi (B.sub Z1 R1 Q1) .len (g_cons g_v .nil)) (g_bi (B.sub Z1 R1 Q1) .len (g_cons g_v .nil)) (by intro _ _ _ h; cases h)) (pss_c (ps_rt (B.sub Z1 R1 Q1).O (g_bl (B.sub Z1 R1 Q1)))
 pss_n) pss_n)
 (pss_c (g_for (B.sub Z1 R1 Q1) hp (g_r1 (B.sub Z1 R1 Q1) (g_cons (g_bi (B.sub Z1 R1 Q1) .len (g_cons g_v .nil)) .nil)) (fun Z2 R2 Q2 => (g_tv ((B.sub Z1 R1 Q1).sub Z2 R2 Q2).O nd)) (fun Z2 R2 Q2 => (pss_c (g_append ((B.sub Z1 R1 Q1).sub Z2 R2 Q2) g_pv (g_cons (pe_tup' ((B.sub Z1 R1 Q1).sub Z2 R2 Q2).O (g_cons (g_ix ((B.sub Z1 R1 Q1).sub Z2 R2 Q2) g_v g_v) (g_cons (g_ix ((B.sub Z1 R1 Q1).sub Z2 R2 Q2) g_v g_v) .nil))) .nil))
 (pss_w [6] pss_n))))
 pss_n)))) (pss_c (ps_ife (B.sub Z1 R1 Q1).O (pt_isN (B.sub Z1 R1 Q1).O g_v) (pss_c (ps_ife (B.sub Z1 R1 Q1).O (pt_isNN (B.sub Z1 R1 Q1).O g_v) (pss_c (ps_rt (B.sub Z1 R1 Q1).O (g_bl (B.sub Z1 R1 Q1)))
 pss_n) pss_n)
 pss_n) (pss_c (ps_ife (B.sub Z1 R1 Q1).O (pt_of (B.sub Z1 R1 Q1).O (g_isi (B.sub Z1 R1 Q1) .bool g_v ((B.sub Z1 R1 Q1).ng .bool)) (by intro _; rfl)) (pss_c (ps_ife (B.sub Z1 R1 Q1).O ((pw_or' (B.sub Z1 R1 Q1).O (pt_not' (B.sub Z1 R1 Q1).O (pt_of (B.sub Z1 R1 Q1).O (g_isi (B.sub Z1 R1 Q1) .bool g_v ((B.sub Z1 R1 Q1).ng .bool)) (by intro _; rfl))) (pw_or1 (pt_cmp' (B.sub Z1 R1 Q1).O g_v g_v (by intro _ _ _ h; cases h))))).pt (pss_c (ps_rt (B.sub Z1 R1 Q1).O (g_bl (B.sub Z1 R1 Q1)))
 pss_n) pss_n)
 pss_n) (pss_c (ps_ife (B.sub Z1 R1 Q1).O (pt_of (B.sub Z1 R1 Q1).O (g_isi (B.sub Z1 R1 Q1) .int g_v ((B.sub Z1 R1 Q1).ng .int)) (by intro _; rfl)) (pss_c (ps_ife (B.sub Z1 R1 Q1).O ((pw_or' (B.sub Z1 R1 Q1).O (pt_not' (B.sub Z1 R1 Q1).O (pt_of (B.sub Z1 R1 Q1).O (g_isi (B.sub Z1 R1 Q1) .int g_v ((B.sub Z1 R1 Q1).ng .int)) (by intro _; rfl))) (pw_or' (B.sub Z1 R1 Q1).O (pt_of (B.sub Z1 R1 Q1).O (g_isi (B.sub Z1 R1 Q1) .bool g_v ((B.sub Z1 R1 Q1).ng .bool)) (by intro _; rfl)) (pw_or1 (pt_cmp' (B.sub Z1 R1 Q1).O g_v g_v (by intro _ _ _ h; cases h)))))).pt (pss_c (ps_rt (B.sub Z1 R1 Q1).O (g_bl (B.sub Z1 R1 Q1)))
 pss_n) pss_n)
 pss_n) (pss_c (ps_ife (B.sub Z1 R1 Q1).O ((pw_or' (B.sub Z1 R1 Q1).O (pt_not' (B.sub Z1 R1 Q1).O (pt_of (B.sub Z1 R1 Q1).O (g_isi (B.sub Z1 R1 Q1) .str g_v ((B.sub Z1 R1 Q1).ng .str)) (by intro _; rfl))) (pw_or' (B.sub Z1 R1 Q1).O (pt_not' (B.sub Z1 R1 Q1).O (pt_of (B.sub Z1 R1 Q1).O (g_isi (B.sub Z1 R1 Q1) .str g_v ((B.sub Z1 R1 Q1).ng .str)) (by intro _; rfl))) (pw_or1 (pt_cmp' (B.sub Z1 R1 Q1).O g_v g_v (by intro _ _ _ h; cases h)))))).pt (pss_c (ps_rt (B.sub Z1 R1 Q1).O (g_bl (B.sub Z1 R1 Q1)))
 pss_n) pss_n)
 pss_n))
 pss_n))
 pss_n))
 pss_n))
 (pss_w [3, 4, 5, 6] pss_n))))))
 (pss_c (ps_rt B.O (g_bl B))
 pss_n)))
theorem sc_law_board : FnScope ["trunk", "most", "names", "lamps", "shapes", "at", "some", "k", "places", "size", "lap", "base", "step", "low", "high"] ["trunk", "most"] (defScope s_law_board) := ⟨rfl, rfl, rfl, by decide +kernel, rfl, by decide +kernel, by decide +kernel⟩
theorem w_law_board : WalkX prog src ("_law_board") d_law_board := by
  refine ⟨["trunk", "most", "names", "lamps", "shapes", "at", "some", "k", "places", "size", "lap", "base", "step", "low", "high"], ["trunk", "most"], sc_law_board, rfl, rfl, rfl, fun _ _ _ _ _ _ us h => match us, h with | [_, _], _ => rfl, fun P w K mg base k cf fu XX W er fa cdv A outer s H E0 B E => ?_⟩
  have hp := passes_of (X := cxOf (L2.CX P w) P w K mg base ["trunk", "most", "names", "lamps", "shapes", "at", "some", "k", "places", "size", "lap", "base", "step", "low", "high"] ("_law_board") (defScope s_law_board) fa cdv A outer s H E0) rfl
  have nd := sc_law_board.nd
  exact (pss_c (g_set B nd (pe_tup' B.O (g_cons (g_str B) (g_cons (g_str B) (g_cons (g_str B) (g_cons (g_str B) (g_cons (g_str B) (g_cons (g_str B) .nil))))))))
 (pss_c (g_set B nd (g_ix B (pe_tup' B.O (g_cons (pe_tup' B.O (g_cons (g_int B) (g_cons (g_int B) (g_cons (g_int B) .nil)))) (g_cons (pe_tup' B.O (g_cons (g_int B) (g_cons (g_int B) .nil))) (g_cons (pe_tup' B.O (g_cons (g_int B) (g_cons (g_int B) (g_cons (g_int B) (g_cons (g_int B) .nil))))) (g_cons (pe_tup' B.O (g_cons (g_int B) .nil)) (g_cons (pe_tup' B.O (g_cons (g_int B) (g_cons (g_int B) (g_cons (g_int B) (g_cons (g_int B) .nil))))) .nil)))))) (g_call B (g_cons g_v (g_cons (g_str B) (g_cons (g_int B) .nil))))))
 (pss_c (g_set B nd (pe_lst' B.O .nil))
 (pss_c (g_for B hp (g_r1 B (g_cons (g_bin B (g_int B) (g_call B (g_cons g_v (g_cons (g_str B) (g_cons (g_int B) .nil))))) .nil)) (fun Z2 R2 Q2 => (g_tv (B.sub Z2 R2 Q2).O nd)) (fun Z2 R2 Q2 => (pss_c (g_set (B.sub Z2 R2 Q2) nd (g_call (B.sub Z2 R2 Q2) (g_cons g_v (g_cons (g_str (B.sub Z2 R2 Q2)) (g_cons (g_bin (B.sub Z2 R2 Q2) (g_int (B.sub Z2 R2 Q2)) (g_bi (B.sub Z2 R2 Q2) .len (g_cons g_v .nil))) .nil)))))
 (pss_c (g_append (B.sub Z2 R2 Q2) g_pv (g_cons (pe_tup' (B.sub Z2 R2 Q2).O (g_cons (g_ix (B.sub Z2 R2 Q2) g_v g_v) (g_cons (g_bi (B.sub Z2 R2 Q2) .tuple (g_cons (g_cmp0 (B.sub Z2 R2 Q2) nd [(("k"), 7)] (g_r1 (B.sub Z2 R2 Q2) (g_cons (g_bi (B.sub Z2 R2 Q2) .len (g_cons g_v .nil)) .nil)) rfl (fun Z3 R3 Q3 s3 H3 C3 cl3 fp3 => (g_tw ((B.sub Z2 R2 Q2).cmp Z3 R3 Q3 s3 H3 _ _ fp3).O nd)) (fun Z3 R3 Q3 s3 H3 C3 cl3 fp3 => (pts_1 (pt_of ((B.sub Z2 R2 Q2).cmp Z3 R3 Q3 s3 H3 _ _ fp3).O (g_bin ((B.sub Z2 R2 Q2).cmp Z3 R3 Q3 s3 H3 _ _ fp3) (g_bin ((B.sub Z2 R2 Q2).cmp Z3 R3 Q3 s3 H3 _ _ fp3) g_v g_v) (g_int ((B.sub Z2 R2 Q2).cmp Z3 R3 Q3 s3 H3 _ _ fp3))) (by intro _; rfl)))) (fun Z3 R3 Q3 s3 H3 C3 cl3 fp3 => (g_ix ((B.sub Z2 R2 Q2).cmp Z3 R3 Q3 s3 H3 _ _ fp3) g_v g_v))) .nil)) .nil))) .nil))
 (pss_w [5, 6] pss_n)))))
 (pss_c (g_sett B (g_tt B pr0 (g_tcons (g_tv B.O nd) (g_tcons (g_tv B.O nd) .nil))) (pe_tup' B.O (g_cons (pe_tup' B.O .nil) (g_cons (g_int B) .nil))))
 (pss_c (g_for B hp (g_r1 B (g_cons (g_bin B (g_int B) (g_call B (g_cons g_v (g_cons (g_str B) (g_cons g_v .nil))))) .nil)) (fun Z1 R1 Q1 => (g_tv (B.sub Z1 R1 Q1).O nd)) (fun Z1 R1 Q1 => (pss_c (g_set (B.sub Z1 R1 Q1) nd (g_bin (B.sub Z1 R1 Q1) (g_int (B.sub Z1 R1 Q1)) (g_call (B.sub Z1 R1 Q1) (g_cons g_v (g_cons (g_str (B.sub Z1 R1 Q1)) (g_cons (g_bin (B.sub Z1 R1 Q1) (g_bi (B.sub Z1 R1 Q1) .len (g_cons g_v .nil)) (g_int (B.sub Z1 R1 Q1))) .nil))))))
 (pss_c (ps_ife (B.sub Z1 R1 Q1).O (pt_cmp' (B.sub Z1 R1 Q1).O (g_bin (B.sub Z1 R1 Q1) g_v g_v) (g_int (B.sub Z1 R1 Q1)) (by intro _ _ _ h; cases h)) (pss_c (g_par2 (B.sub Z1 R1 Q1) nd (g_cons (g_bin (B.sub Z1 R1 Q1) g_v (pe_tup' (B.sub Z1 R1 Q1).O (g_cons g_v .nil))) (g_cons (g_bin (B.sub Z1 R1 Q1) g_v g_v) .nil)))
 pss_n) pss_n)
 (pss_w [10, 11] pss_n)))))
 (pss_c (g_set B nd (g_ix B (pe_tup' B.O (g_cons (g_int B) (g_cons (g_int B) (g_cons (g_int B) (g_cons (g_int B) (g_cons g_v (g_cons (g_int B) (g_cons (pe_ife B.O (pt_cmp' B.O g_v (g_int B) (by intro _ _ _ h; cases h)) (g_bin B g_v (g_int B)) (g_int B)) .nil)))))))) (g_call B (g_cons g_v (g_cons (g_str B) (g_cons (g_int B) .nil))))))
 (pss_c (g_set B nd (g_call B (g_cons g_v (g_cons (g_str B) (g_cons g_v .nil)))))
 (pss_c (g_set B nd (g_bi B .min (g_cons (g_bin B g_v (g_int B)) (g_cons (g_bin B g_v (g_call B (g_cons g_v (g_cons (g_str B) (g_cons (g_int B) .nil))))) .nil))))
 (pss_c (ps_rt B.O (pe_tup' B.O (g_cons (g_bi B .tuple (g_cons g_v .nil)) (g_cons g_v (g_cons (g_cmp B (g_call B (g_cons g_v (g_cons (g_str B) (g_cons (g_int B) .nil)))) (g_int B)) (g_cons g_v (g_cons (pe_tup' B.O (g_cons g_v (g_cons g_v .nil))) (g_cons (g_call B (g_cons g_v (g_cons (g_str B) (g_cons (g_int B) .nil)))) .nil))))))))
 pss_n))))))))))
theorem sc_law_breakage : FnScope ["trunk", "board", "most", "told", "place", "lamp"] ["trunk", "board", "most"] (defScope s_law_breakage) := ⟨rfl, rfl, rfl, by decide +kernel, rfl, by decide +kernel, by decide +kernel⟩
theorem w_law_breakage : WalkX prog src ("_law_breakage") d_law_breakage := by
  refine ⟨["trunk", "board", "most", "told", "place", "lamp"], ["trunk", "board", "most"], sc_law_breakage, rfl, rfl, rfl, fun _ _ _ _ _ _ us h => match us, h with | [_, _, _], _ => rfl, fun P w K mg base k cf fu XX W er fa cdv A outer s H E0 B E => ?_⟩
  have hp := passes_of (X := cxOf (L2.CX P w) P w K mg base ["trunk", "board", "most", "told", "place", "lamp"] ("_law_breakage") (defScope s_law_breakage) fa cdv A outer s H E0) rfl
  have nd := sc_law_breakage.nd
  exact (pss_c (g_set B nd (pe_lst' B.O .nil))
 (pss_c (g_for B hp (pi_seq B.O (g_call B (g_cons g_v .nil))) (fun Z1 R1 Q1 => (g_tt (B.sub Z1 R1 Q1) pr0 (g_tcons (g_tv (B.sub Z1 R1 Q1).O nd) (g_tcons (g_tv (B.sub Z1 R1 Q1).O nd) .nil)))) (fun Z1 R1 Q1 => (pss_c (ps_ife (B.sub Z1 R1 Q1).O ((pw_and' (B.sub Z1 R1 Q1).O (pt_cmp' (B.sub Z1 R1 Q1).O (g_bi (B.sub Z1 R1 Q1) .len (g_cons g_v .nil)) g_v (by intro _ _ _ h; cases h)) (pw_and1 (pt_cmp' (B.sub Z1 R1 Q1).O (g_call (B.sub Z1 R1 Q1) (g_cons g_v (g_cons (g_str (B.sub Z1 R1 Q1)) (g_cons (g_int (B.sub Z1 R1 Q1)) .nil)))) (g_int (B.sub Z1 R1 Q1)) (by intro _ _ _ h; cases h))))).pt (pss_c (g_append (B.sub Z1 R1 Q1) g_pv (g_cons (pe_tup' (B.sub Z1 R1 Q1).O (g_cons g_v (g_cons g_v (g_cons (g_cmp (B.sub Z1 R1 Q1) (g_call (B.sub Z1 R1 Q1) (g_cons g_v (g_cons (g_str (B.sub Z1 R1 Q1)) (g_cons (g_int (B.sub Z1 R1 Q1)) .nil)))) (g_int (B.sub Z1 R1 Q1))) .nil)))) .nil))
 pss_n) pss_n)
 (pss_w [4, 5] pss_n))))
 (pss_c (ps_rt B.O (g_bi B .tuple (g_cons g_v .nil)))
 pss_n)))
theorem sc_law_is_number : FnScope ["thing"] ["thing"] (defScope s_law_is_number) := ⟨rfl, rfl, rfl, by decide +kernel, rfl, by decide +kernel, by decide +kernel⟩
theorem w_law_is_number : WalkX prog src ("_law_is_number") d_law_is_number := by
  refine ⟨["thing"], ["thing"], sc_law_is_number, rfl, rfl, rfl, fun _ _ _ _ _ _ us h => match us, h with | [_], _ => rfl, fun P w K mg base k cf fu XX W er fa cdv A outer s H E0 B E => ?_⟩
  have hp := passes_of (X := cxOf (L2.CX P w) P w K mg base ["thing"] ("_law_is_number") (defScope s_law_is_number) fa cdv A outer s H E0) rfl
  have nd := sc_law_is_number.nd
  exact (pss_c (ps_rt B.O (pe_and' B.O (g_isi B .int g_v (B.ng .int)) (pe_and' B.O (pe_not' B.O (g_isi B .bool g_v (B.ng .bool))) (pe_one (g_cmp B g_v (g_int B))))))
 pss_n)
theorem sc_law_triples : FnScope ["board", "rows", "lamps", "last", "at", "one"] ["board", "rows"] (defScope s_law_triples) := ⟨rfl, rfl, rfl, by decide +kernel, rfl, by decide +kernel, by decide +kernel⟩
theorem w_law_triples : WalkX prog src ("_law_triples") d_law_triples := by
  refine ⟨["board", "rows", "lamps", "last", "at", "one"], ["board", "rows"], sc_law_triples, rfl, rfl, rfl, fun _ _ _ _ _ _ us h => match us, h with | [_, _], _ => rfl, fun P w K mg base k cf fu XX W er fa cdv A outer s H E0 B E => ?_⟩
  have hp := passes_of (X := cxOf (L2.CX P w) P w K mg base ["board", "rows", "lamps", "last", "at", "one"] ("_law_triples") (defScope s_law_triples) fa cdv A outer s H E0) rfl
  have nd := sc_law_triples.nd
  exact (pss_c (g_par2 B nd (g_cons (g_call B (g_cons g_v .nil)) (g_cons (pe_tup' B.O (g_cons (pe_neg B.O (g_int B)) (g_cons (pe_neg B.O (g_int B)) .nil))) .nil)))
 (pss_c (g_for B hp (g_r1 B (g_cons (g_bi B .len (g_cons g_v .nil)) .nil)) (fun Z1 R1 Q1 => (g_tv (B.sub Z1 R1 Q1).O nd)) (fun Z1 R1 Q1 => (pss_c (g_set (B.sub Z1 R1 Q1) nd (g_ix (B.sub Z1 R1 Q1) g_v g_v))
 (pss_c (ps_ife (B.sub Z1 R1 Q1).O ((pw_or' (B.sub Z1 R1 Q1).O (pt_not' (B.sub Z1 R1 Q1).O (pt_of (B.sub Z1 R1 Q1).O (g_isi (B.sub Z1 R1 Q1) .tuple g_v ((B.sub Z1 R1 Q1).ng .tuple)) (by intro _; rfl))) (pw_or' (B.sub Z1 R1 Q1).O (pt_cmp' (B.sub Z1 R1 Q1).O (g_bi (B.sub Z1 R1 Q1) .len (g_cons g_v .nil)) (g_int (B.sub Z1 R1 Q1)) (by intro _ _ _ h; cases h)) (pw_or1 (pt_not' (B.sub Z1 R1 Q1).O (pt_of (B.sub Z1 R1 Q1).O (g_isi (B.sub Z1 R1 Q1) .bool (g_ix (B.sub Z1 R1 Q1) g_v (g_int (B.sub Z1 R1 Q1))) ((B.sub Z1 R1 Q1).ng .bool)) (by intro _; rfl))))))).pt (pss_c (ps_rt (B.sub Z1 R1 Q1).O (pe_tup' (B.sub Z1 R1 Q1).O (g_cons (g_str (B.sub Z1 R1 Q1)) (g_cons g_v (g_cons (g_str (B.sub Z1 R1 Q1)) .nil)))))
 pss_n) pss_n)
 (pss_c (ps_ife (B.sub Z1 R1 Q1).O ((pw_or' (B.sub Z1 R1 Q1).O (pt_not' (B.sub Z1 R1 Q1).O (pt_of (B.sub Z1 R1 Q1).O (g_call (B.sub Z1 R1 Q1) (g_cons (g_ix (B.sub Z1 R1 Q1) g_v (g_int (B.sub Z1 R1 Q1))) .nil)) (by intro _; rfl))) (pw_or1 (pt_not' (B.sub Z1 R1 Q1).O (pt_of (B.sub Z1 R1 Q1).O (g_call (B.sub Z1 R1 Q1) (g_cons (g_ix (B.sub Z1 R1 Q1) g_v (g_int (B.sub Z1 R1 Q1))) .nil)) (by intro _; rfl)))))).pt (pss_c (ps_rt (B.sub Z1 R1 Q1).O (pe_tup' (B.sub Z1 R1 Q1).O (g_cons (g_str (B.sub Z1 R1 Q1)) (g_cons g_v (g_cons (g_str (B.sub Z1 R1 Q1)) .nil)))))
 pss_n) pss_n)
 (pss_c (ps_ife (B.sub Z1 R1 Q1).O (pt_cmp' (B.sub Z1 R1 Q1).O (g_slH (B.sub Z1 R1 Q1) g_v (g_int (B.sub Z1 R1 Q1))) g_v (by intro _ _ _ h; cases h)) (pss_c (ps_rt (B.sub Z1 R1 Q1).O (pe_tup' (B.sub Z1 R1 Q1).O (g_cons (g_str (B.sub Z1 R1 Q1)) (g_cons g_v (g_cons (g_str (B.sub Z1 R1 Q1)) .nil)))))
 pss_n) pss_n)
 (pss_c (ps_ife (B.sub Z1 R1 Q1).O (pt_cmp' (B.sub Z1 R1 Q1).O (g_slH (B.sub Z1 R1 Q1) g_v (g_int (B.sub Z1 R1 Q1))) g_v (by intro _ _ _ h; cases h)) (pss_c (ps_rt (B.sub Z1 R1 Q1).O (pe_tup' (B.sub Z1 R1 Q1).O (g_cons (g_str (B.sub Z1 R1 Q1)) (g_cons g_v (g_cons (g_str (B.sub Z1 R1 Q1)) .nil)))))
 pss_n) pss_n)
 (pss_c (g_set (B.sub Z1 R1 Q1) nd (g_slH (B.sub Z1 R1 Q1) g_v (g_int (B.sub Z1 R1 Q1))))
 (pss_w [4, 5] pss_n)))))))))
 (pss_c (ps_rt B.O (g_non B))
 pss_n)))
theorem sc_law_due : FnScope ["board", "thing", "fault"] ["board", "thing"] (defScope s_law_due) := ⟨rfl, rfl, rfl, by decide +kernel, rfl, by decide +kernel, by decide +kernel⟩
theorem w_law_due : WalkX prog src ("_law_due") d_law_due := by
  refine ⟨["board", "thing", "fault"], ["board", "thing"], sc_law_due, rfl, rfl, rfl, fun _ _ _ _ _ _ us h => match us, h with | [_, _], _ => rfl, fun P w K mg base k cf fu XX W er fa cdv A outer s H E0 B E => ?_⟩
  have hp := passes_of (X := cxOf (L2.CX P w) P w K mg base ["board", "thing", "fault"] ("_law_due") (defScope s_law_due) fa cdv A outer s H E0) rfl
  have nd := sc_law_due.nd
  exact (pss_c (ps_ife B.O ((pw_or' B.O (pt_not' B.O (pt_of B.O (g_isi B .tuple g_v (B.ng .tuple)) (by intro _; rfl))) (pw_or' B.O (pt_cmp' B.O (g_bi B .len (g_cons g_v .nil)) (g_int B) (by intro _ _ _ h; cases h)) (pw_or1 (pt_not' B.O (pt_of B.O (g_isi B .tuple (g_ix B g_v (g_int B)) (B.ng .tuple)) (by intro _; rfl))))))).pt (pss_c (ps_rt B.O (pe_tup' B.O (g_cons (g_str B) (g_cons (pe_neg B.O (g_int B)) (g_cons (g_str B) .nil)))))
 pss_n) pss_n)
 (pss_c (ps_ife B.O ((pw_or' B.O (pt_not' B.O (pt_of B.O (g_call B (g_cons (g_ix B g_v (g_int B)) .nil)) (by intro _; rfl))) (pw_or1 (pt_not' B.O (t_chain B (g_ix B (g_ix B g_v (g_int B)) (g_int B)) (g_ix B g_v (g_int B)) (g_ix B (g_ix B g_v (g_int B)) (g_int B))))))).pt (pss_c (ps_rt B.O (pe_tup' B.O (g_cons (g_str B) (g_cons (pe_neg B.O (g_int B)) (g_cons (g_str B) .nil)))))
 pss_n) pss_n)
 (pss_c (ps_ife B.O (pt_cmp' B.O (g_bi B .len (g_cons (g_ix B g_v (g_int B)) .nil)) (g_ix B g_v (g_int B)) (by intro _ _ _ h; cases h)) (pss_c (ps_rt B.O (pe_tup' B.O (g_cons (g_str B) (g_cons (pe_neg B.O (g_int B)) (g_cons (g_str B) .nil)))))
 pss_n) pss_n)
 (pss_c (g_set B nd (g_call B (g_cons g_v (g_cons (g_ix B g_v (g_int B)) .nil))))
 (pss_c (ps_rt B.O (pe_ife B.O (pt_isN B.O g_v) (pe_tup' B.O (g_cons (g_str B) (g_cons (g_bi B .len (g_cons (g_ix B g_v (g_int B)) .nil)) .nil))) g_v))
 pss_n)))))
theorem sc_law_heard : FnScope ["board", "thing", "error"] ["board", "thing"] (defScope s_law_heard) := ⟨rfl, rfl, rfl, by decide +kernel, rfl, by decide +kernel, by decide +kernel⟩
theorem w_law_heard : WalkX prog src ("_law_heard") d_law_heard := by
  refine ⟨["board", "thing", "error"], ["board", "thing"], sc_law_heard, rfl, rfl, rfl, fun _ _ _ _ _ _ us h => match us, h with | [_, _], _ => rfl, fun P w K mg base k cf fu XX W er fa cdv A outer s H E0 B E => ?_⟩
  have hp := passes_of (X := cxOf (L2.CX P w) P w K mg base ["board", "thing", "error"] ("_law_heard") (defScope s_law_heard) fa cdv A outer s H E0) rfl
  have nd := sc_law_heard.nd
  exact (pss_c (g_try B E nd (fun W1 pn1 xe1 B1 E1 hp1 => (pss_c (ps_rt B1.O (pe_tup' B1.O (g_cons (g_str B1) (g_cons (g_call B1 (g_cons g_v (g_cons g_v .nil))) .nil))))
 pss_n)) (hds_m B E (fun a2 oe2 pn2 c2 fs2 ws2 C2 dd2 S2 => (pss_c (ps_rt S2.O (pe_ife S2.O ((pw_and' S2.O (pt_of S2.O (s_isE S2) (by intro _; rfl)) (pw_and1 (pt_of S2.O (s_isE S2) (by intro _; rfl))))).pt (pe_tup' S2.O (g_cons (pe_cstr S2.O) (g_cons (s_fld S2) (g_cons (s_fld S2) .nil)))) (pe_tup' S2.O (g_cons (pe_cstr S2.O) .nil))))
 pss_n)) hds_n))
 pss_n)
theorem sc_law_judged : FnScope ["board", "thing", "due", "broken", "good"] ["board", "thing"] (defScope s_law_judged) := ⟨rfl, rfl, rfl, by decide +kernel, rfl, by decide +kernel, by decide +kernel⟩
theorem w_law_judged : WalkX prog src ("_law_judged") d_law_judged := by
  refine ⟨["board", "thing", "due", "broken", "good"], ["board", "thing"], sc_law_judged, rfl, rfl, rfl, fun _ _ _ _ _ _ us h => match us, h with | [_, _], _ => rfl, fun P w K mg base k cf fu XX W er fa cdv A outer s H E0 B E => ?_⟩
  have hp := passes_of (X := cxOf (L2.CX P w) P w K mg base ["board", "thing", "due", "broken", "good"] ("_law_judged") (defScope s_law_judged) fa cdv A outer s H E0) rfl
  have nd := sc_law_judged.nd
  exact (pss_c (g_set B nd (g_call B (g_cons g_v (g_cons g_v .nil))))
 (pss_c (ps_ife B.O (pt_not' B.O (pt_of B.O (g_call B (g_cons (pe_tup' B.O (g_cons (g_call B (g_cons g_v (g_cons g_v .nil))) (g_cons (g_call B (g_cons g_v (g_cons g_v .nil))) .nil))) (g_cons (pe_tup' B.O (g_cons g_v (g_cons (g_cmp B (g_ix B g_v (g_int B)) (g_str B)) .nil))) .nil))) (by intro _; rfl))) (pss_c (ps_rt B.O (g_bl B))
 pss_n) pss_n)
 (pss_c (g_set B nd (pe_ife B.O ((pw_and' B.O (pt_of B.O (g_isi B .tuple g_v (B.ng .tuple)) (by intro _; rfl)) (pw_and1 (pt_cmp' B.O (g_bi B .len (g_cons g_v .nil)) (g_int B) (by intro _ _ _ h; cases h))))).pt (g_ix B g_v (g_int B)) g_v))
 (pss_c (g_set B nd (pe_and' B.O (g_isi B .tuple g_v (B.ng .tuple)) (pe_one (pe_isN B.O (g_call B (g_cons g_v (g_cons g_v .nil)))))))
 (pss_c (ps_rt B.O (g_call B (g_cons (g_call B (g_cons g_v (g_cons g_v .nil))) (g_cons g_v .nil))))
 pss_n)))))
theorem sc_law_bent : FnScope ["trunk", "board", "story", "count", "rows", "way", "shapes", "low", "high", "counts", "at", "place", "lamp", "lit", "free", "number", "odd"] ["trunk", "board", "story"] (defScope s_law_bent) := ⟨rfl, rfl, rfl, by decide +kernel, rfl, by decide +kernel, by decide +kernel⟩
theorem w_law_bent : WalkX prog src ("_law_bent") d_law_bent := by
  refine ⟨["trunk", "board", "story", "count", "rows", "way", "shapes", "low", "high", "counts", "at", "place", "lamp", "lit", "free", "number", "odd"], ["trunk", "board", "story"], sc_law_bent, rfl, rfl, rfl, fun _ _ _ _ _ _ us h => match us, h with | [_, _, _], _ => rfl, fun P w K mg base k cf fu XX W er fa cdv A outer s H E0 B E => ?_⟩
  have hp := passes_of (X := cxOf (L2.CX P w) P w K mg base ["trunk", "board", "story", "count", "rows", "way", "shapes", "low", "high", "counts", "at", "place", "lamp", "lit", "free", "number", "odd"] ("_law_bent") (defScope s_law_bent) fa cdv A outer s H E0) rfl
  have nd := sc_law_bent.nd
  exact (pss_c (g_sett B (g_tt B pr0 (g_tcons (g_tv B.O nd) (g_tcons (g_tv B.O nd) .nil))) g_v)
 (pss_c (g_set B nd (g_call B (g_cons g_v (g_cons (g_str B) (g_cons (g_int B) .nil)))))
 (pss_c (ps_ife B.O (pt_cmp' B.O g_v (g_int B) (by intro _ _ _ h; cases h)) (pss_c (g_set B nd (pe_tup' B.O (g_cons (g_frz B (g_bi B .list (g_cons g_v .nil))) (g_cons (pe_tup' B.O (g_cons g_v .nil)) (g_cons (pe_tup' B.O (g_cons g_v (g_cons (g_frz B (g_bi B .list (g_cons g_v .nil))) .nil))) (g_cons (pe_tup' B.O (g_cons g_v (g_cons g_v (g_cons (pe_tup' B.O .nil) .nil)))) (g_cons (g_non B) (g_cons (pe_tup' B.O (g_cons g_v (g_cons g_v .nil))) (g_cons (g_str B) (g_cons (pe_tup' B.O (g_cons g_v (g_cons (g_non B) .nil))) (g_cons (g_int B) (g_cons (g_int B) .nil))))))))))))
 (pss_c (ps_rt B.O (g_ixv B (g_call B (g_cons g_v (g_cons (g_str B) (g_cons (g_int B) .nil))))))
 pss_n)) pss_n)
 (pss_c (ps_ife B.O (pt_cmp' B.O g_v (g_int B) (by intro _ _ _ h; cases h)) (pss_c (g_sett B (g_tt B pr0 (g_tcons (g_tv B.O nd) (g_tcons (g_tv B.O nd) .nil))) (g_ix B g_v (g_int B)))
 (pss_c (g_set B nd (pe_tup' B.O (g_cons (g_bin B g_v (g_int B)) (g_cons (g_bin B g_v (g_int B)) (g_cons (pe_neg B.O (g_int B)) (g_cons (g_bl B) (g_cons (g_bi B .str (g_cons g_v .nil)) (g_cons (g_non B) (g_cons (pe_tup' B.O (g_cons g_v .nil)) (g_cons (g_bin B (g_int B) (g_int B)) (g_cons (g_cmp B g_v (g_int B)) .nil)))))))))))
 (pss_c (ps_rt B.O (pe_tup' B.O (g_cons (g_ixv B (g_call B (g_cons g_v (g_cons (g_str B) (g_cons (g_int B) .nil))))) (g_cons g_v .nil))))
 pss_n))) pss_n)
 (pss_c (ps_ife B.O (pt_cmp' B.O g_v (g_int B) (by intro _ _ _ h; cases h)) (pss_c (ps_rt B.O (pe_tup' B.O (g_cons g_v (g_cons (g_bin B g_v (g_bi B .tuple (g_cons (g_rep B (pe_lst' B.O (g_cons (pe_tup' B.O (g_cons (g_int B) (g_cons (g_int B) (g_cons (g_bl B) .nil)))) .nil)) (g_bin B (g_ix B g_v (g_int B)) (g_int B))) .nil))) .nil))))
 pss_n) pss_n)
 (pss_c (ps_ife B.O (pt_cmp' B.O (g_bi B .len (g_cons g_v .nil)) (g_int B) (by intro _ _ _ h; cases h)) (pss_c (ps_rt B.O (pe_tup' B.O (g_cons g_v (g_cons (g_slH B (g_slL B (pe_tup' B.O (g_cons (pe_tup' B.O (g_cons (g_int B) (g_cons (g_int B) (g_cons (g_bl B) .nil)))) (g_cons (pe_tup' B.O (g_cons (g_bi B .len (g_cons (g_ix B g_v (g_int B)) .nil)) (g_cons (g_int B) (g_cons (g_bl B) .nil)))) (g_cons (pe_tup' B.O (g_cons (g_int B) (g_cons (g_int B) .nil))) (g_cons (g_str B) .nil))))) (g_call B (g_cons g_v (g_cons (g_str B) (g_cons (g_int B) .nil))))) (g_int B)) .nil))))
 pss_n) pss_n)
 (pss_c (g_set B nd (g_call B (g_cons g_v (g_cons (g_str B) (g_cons (g_bi B .len (g_cons g_v .nil)) .nil)))))
 (pss_c (g_sett B (g_tt B pr0 (g_tcons (g_tv B.O nd) (g_tcons (g_tv B.O nd) (g_tcons (g_tv B.O nd) .nil)))) (g_ix B g_v g_v))
 (pss_c (g_setcmp B nd [(("number"), 15)] (g_r1 B (g_cons (g_int B) .nil)) rfl (fun Z1 R1 Q1 s1 H1 C1 cl1 fp1 => (g_tw (B.cmp Z1 R1 Q1 s1 H1 _ _ fp1).O nd)) (fun Z1 R1 Q1 s1 H1 C1 cl1 fp1 => (pts_1 (pt_cmp' (B.cmp Z1 R1 Q1 s1 H1 _ _ fp1).O (pe_tup' (B.cmp Z1 R1 Q1 s1 H1 _ _ fp1).O (g_cons (g_int (B.cmp Z1 R1 Q1 s1 H1 _ _ fp1)) (g_cons g_v .nil))) (g_call (B.cmp Z1 R1 Q1 s1 H1 _ _ fp1) (g_cons g_v .nil)) (by intro _ _ _ h; cases h)))) (fun Z1 R1 Q1 s1 H1 C1 cl1 fp1 => g_v) (sw_true rfl rfl rfl (by decide +kernel)))
 (pss_c (g_set B nd (pe_tup' B.O (g_cons (g_frz B (pe_lst' B.O (g_cons g_v (g_cons g_v (g_cons g_v .nil))))) (g_cons (pe_tup' B.O (g_cons g_v (g_cons g_v .nil))) (g_cons (pe_tup' B.O (g_cons g_v (g_cons g_v (g_cons (g_bi B .int (g_cons g_v .nil)) .nil)))) (g_cons (pe_tup' B.O (g_cons g_v (g_cons g_v (g_cons g_v (g_cons g_v .nil))))) (g_cons (pe_tup' B.O (g_cons (g_cmp B g_v (g_int B)) (g_cons g_v (g_cons g_v .nil)))) (g_cons (pe_tup' B.O (g_cons g_v (g_cons (g_cmp B g_v (g_int B)) (g_cons g_v .nil)))) (g_cons (pe_tup' B.O (g_cons g_v (g_cons (g_non B) (g_cons g_v .nil)))) .nil)))))))))
 (pss_c (g_set B nd (g_bin B g_v (pe_tup' B.O (g_cons (pe_tup' B.O (g_cons (g_bi B .len (g_cons (g_ix B g_v (g_int B)) .nil)) (g_cons g_v (g_cons g_v .nil)))) (g_cons (pe_tup' B.O (g_cons g_v (g_cons (g_ix B g_v (pe_neg B.O (g_int B))) (g_cons g_v .nil)))) (g_cons (pe_tup' B.O (g_cons g_v (g_cons (g_ix B g_v (g_int B)) (g_cons g_v .nil)))) (g_cons (pe_tup' B.O (g_cons (pe_neg B.O (g_int B)) (g_cons g_v (g_cons g_v .nil)))) (g_cons (pe_tup' B.O (g_cons g_v (g_cons (pe_neg B.O (g_int B)) (g_cons g_v .nil)))) (g_cons (g_non B) (g_cons (pe_tup' B.O (g_cons g_v (g_cons g_v (g_cons (g_non B) .nil)))) .nil))))))))))
 (pss_c (ps_ife B.O (pt_cmp' B.O g_v (g_int B) (by intro _ _ _ h; cases h)) (pss_c (ps_rt B.O (pe_tup' B.O (g_cons g_v (g_cons (g_bin B (g_bin B (g_slH B g_v g_v) (pe_tup' B.O (g_cons (g_ixv B (g_call B (g_cons g_v (g_cons (g_str B) (g_cons (g_int B) .nil))))) .nil))) (g_slL B g_v (g_bin B g_v (g_int B)))) .nil))))
 pss_n) pss_n)
 (pss_c (ps_ife B.O (pt_cmp' B.O g_v (g_int B) (by intro _ _ _ h; cases h)) (pss_c (ps_rt B.O (pe_tup' B.O (g_cons g_v (g_cons (g_bin B (g_bin B (g_slH B g_v g_v) (pe_tup' B.O (g_cons (g_ix B g_v g_v) .nil))) (g_slL B g_v g_v)) .nil))))
 pss_n) pss_n)
 (pss_c (ps_ife B.O (pt_cmp' B.O g_v (g_int B) (by intro _ _ _ h; cases h)) (pss_c (ps_rt B.O (pe_tup' B.O (g_cons g_v (g_cons (g_rvs B g_v) .nil))))
 pss_n) pss_n)
 (pss_c (ps_ife B.O (pt_cmp' B.O g_v (g_int B) (by intro _ _ _ h; cases h)) (pss_c (ps_rt B.O (pe_tup' B.O (g_cons g_v (g_cons (g_bin B (g_bin B (g_slH B g_v g_v) (pe_tup' B.O (g_cons (pe_tup' B.O (g_cons g_v (g_cons g_v (g_cons (pe_not' B.O g_v) .nil)))) .nil))) (g_slL B g_v (g_bin B g_v (g_int B)))) .nil))))
 pss_n) pss_n)
 (pss_c (ps_rt B.O (pe_tup' B.O (g_cons g_v (g_cons (g_bin B (g_bin B (g_slH B g_v g_v) (pe_tup' B.O (g_cons (pe_tup' B.O (g_cons g_v (g_cons g_v (g_cons (pe_not' B.O g_v) .nil)))) .nil))) (g_slL B g_v g_v)) .nil))))
 pss_n))))))))))))))))
theorem sc_law_hand : FnScope ["tri", "pair", "told", "due"] [] (defScope s_law_hand) := ⟨rfl, rfl, rfl, by decide +kernel, rfl, by decide +kernel, by decide +kernel⟩
theorem w_law_hand : WalkX prog src ("_law_hand") d_law_hand := by
  refine ⟨["tri", "pair", "told", "due"], [], sc_law_hand, rfl, rfl, rfl, fun _ _ _ _ _ _ us h => match us, h with | [], _ => rfl, fun P w K mg base k cf fu XX W er fa cdv A outer s H E0 B E => ?_⟩
  have hp := passes_of (X := cxOf (L2.CX P w) P w K mg base ["tri", "pair", "told", "due"] ("_law_hand") (defScope s_law_hand) fa cdv A outer s H E0) rfl
  have nd := sc_law_hand.nd
  exact (pss_c (g_set B nd (pe_tup' B.O (g_cons (pe_tup' B.O (g_cons (pe_tup' B.O (g_cons (g_str B) (g_cons (pe_tup' B.O (g_cons (g_int B) (g_cons (g_int B) (g_cons (g_int B) .nil)))) .nil))) (g_cons (pe_tup' B.O (g_cons (g_str B) (g_cons (pe_tup' B.O (g_cons (g_int B) .nil)) .nil))) (g_cons (pe_tup' B.O (g_cons (g_str B) (g_cons (pe_tup' B.O (g_cons (g_int B) (g_cons (g_int B) .nil))) .nil))) .nil)))) (g_cons (pe_tup' B.O (g_cons (g_int B) .nil)) (g_cons (g_bl B) (g_cons (g_int B) (g_cons (pe_tup' B.O (g_cons (g_int B) (g_cons (g_int B) .nil))) (g_cons (g_int B) .nil))))))))
 (pss_c (g_set B nd (pe_tup' B.O (g_cons (pe_tup' B.O (g_cons (pe_tup' B.O (g_cons (g_str B) (g_cons (pe_tup' B.O .nil) .nil))) (g_cons (pe_tup' B.O (g_cons (g_str B) (g_cons (pe_tup' B.O (g_cons (g_int B) (g_cons (g_int B) .nil))) .nil))) .nil))) (g_cons (pe_tup' B.O (g_cons (g_int B) (g_cons (g_int B) .nil))) (g_cons (g_bl B) (g_cons (g_int B) (g_cons (pe_tup' B.O (g_cons (g_int B) (g_cons (g_int B) .nil))) (g_cons (g_int B) .nil))))))))
 (pss_c (g_set B nd (pe_tup' B.O (g_cons (g_call B (g_cons g_v (g_cons (pe_tup' B.O (g_cons (g_int B) (g_cons (pe_tup' B.O (g_cons (pe_tup' B.O (g_cons (g_int B) (g_cons (g_int B) (g_cons (g_bl B) .nil)))) .nil)) .nil))) .nil))) (g_cons (g_call B (g_cons g_v (g_cons (pe_tup' B.O (g_cons (pe_tup' B.O (g_cons (g_int B) (g_cons (g_int B) (g_cons (g_bl B) .nil)))) (g_cons (pe_tup' B.O (g_cons (g_int B) (g_cons (g_int B) (g_cons (g_bl B) .nil)))) .nil))) .nil))) (g_cons (g_kcall0 B (.cons (pe_tup' B.O (g_cons (pe_tup' B.O (g_cons (g_int B) (g_cons (g_int B) (g_cons (g_bl B) .nil)))) (g_cons (pe_tup' B.O (g_cons (g_int B) (g_cons (g_int B) (g_cons (g_bl B) .nil)))) .nil))) (.cons g_v .nil)) (fun _ _ _ _ _ _ ws h => match ws, h with | [_, _], _ => rfl)) .nil)))))
 (pss_c (ps_ife B.O (pt_not' B.O (pt_of B.O (g_call B (g_cons g_v (g_cons (pe_tup' B.O (g_cons (g_int B) (g_cons (g_bl B) (g_cons (g_bl B) .nil)))) .nil))) (by intro _; rfl))) (pss_c (ps_rt B.O (g_bl B))
 pss_n) pss_n)
 (pss_c (g_set B nd (pe_tup' B.O (g_cons (g_call B (g_cons g_v (g_cons (pe_lst' B.O (g_cons (g_int B) .nil)) .nil))) (g_cons (g_call B (g_cons g_v (g_cons (pe_tup' B.O (g_cons (g_int B) (g_cons (pe_tup' B.O (g_cons (pe_tup' B.O (g_cons (g_int B) (g_cons (g_int B) (g_cons (g_int B) .nil)))) (g_cons (g_int B) .nil))) .nil))) .nil))) (g_cons (g_call B (g_cons g_v (g_cons (pe_tup' B.O (g_cons (g_int B) (g_cons (pe_tup' B.O (g_cons (pe_tup' B.O (g_cons (g_int B) (g_cons (g_int B) (g_cons (g_int B) .nil)))) (g_cons (g_int B) .nil))) .nil))) .nil))) .nil)))))
 (pss_c (g_set B nd (g_bin B g_v (pe_tup' B.O (g_cons (g_call B (g_cons (g_bin B (g_slH B g_v (g_int B)) (pe_tup' B.O (g_cons (g_int B) .nil))) (g_cons (pe_tup' B.O (g_cons (g_int B) (g_cons (pe_tup' B.O (g_cons (pe_tup' B.O (g_cons (g_int B) (g_cons (g_int B) (g_cons (g_bl B) .nil)))) (g_cons (pe_tup' B.O (g_cons (g_int B) (g_cons (g_int B) (g_cons (g_bl B) .nil)))) (g_cons (pe_tup' B.O (g_cons (g_int B) (g_cons (g_int B) (g_cons (g_int B) .nil)))) .nil)))) .nil))) .nil))) (g_cons (g_call B (g_cons (g_bin B (g_slH B g_v (g_int B)) (pe_tup' B.O (g_cons (g_int B) .nil))) (g_cons (pe_tup' B.O (g_cons (g_int B) (g_cons (pe_tup' B.O (g_cons (pe_tup' B.O (g_cons (g_int B) (g_cons (g_int B) (g_cons (g_bl B) .nil)))) (g_cons (pe_tup' B.O (g_cons (g_int B) (g_cons (g_int B) (g_cons (g_bl B) .nil)))) .nil))) .nil))) .nil))) .nil)))))
 (pss_c (g_set B nd (g_bin B g_v (pe_tup' B.O (g_cons (g_kcall0 B (.cons (pe_tup' B.O (g_cons (g_int B) (g_cons (pe_tup' B.O .nil) .nil))) (.cons g_v .nil)) (fun _ _ _ _ _ _ ws h => match ws, h with | [_, _], _ => rfl)) (g_cons (g_call B (g_cons g_v (g_cons (pe_tup' B.O (g_cons (g_int B) (g_cons (pe_tup' B.O (g_cons (pe_tup' B.O (g_cons (g_int B) (g_cons (g_int B) (g_cons (g_bl B) .nil)))) (g_cons (pe_tup' B.O (g_cons (g_int B) (g_cons (g_int B) (g_cons (g_bl B) .nil)))) .nil))) .nil))) .nil))) (g_cons (g_call B (g_cons g_v (g_cons (pe_tup' B.O .nil) .nil))) (g_cons (g_call B (g_cons g_v (g_cons (pe_lst' B.O (g_cons (pe_tup' B.O (g_cons (g_int B) (g_cons (g_int B) (g_cons (g_bl B) .nil)))) .nil)) .nil))) .nil)))))))
 (pss_c (g_set B nd (pe_tup' B.O (g_cons (pe_tup' B.O (g_cons (g_str B) (g_cons (pe_neg B.O (g_int B)) (g_cons (g_str B) .nil)))) (g_cons (pe_tup' B.O (g_cons (g_str B) (g_cons (pe_neg B.O (g_int B)) (g_cons (g_str B) .nil)))) (g_cons (pe_tup' B.O (g_cons (g_str B) (g_cons (pe_neg B.O (g_int B)) (g_cons (g_str B) .nil)))) (g_cons (pe_tup' B.O (g_cons (g_str B) (g_cons (g_int B) (g_cons (g_str B) .nil)))) (g_cons (pe_tup' B.O (g_cons (g_str B) (g_cons (g_int B) (g_cons (g_str B) .nil)))) (g_cons (g_bl B) (g_cons (g_bl B) (g_cons (g_bl B) (g_cons (g_bl B) .nil)))))))))))
 (pss_c (ps_rt B.O (g_call B (g_cons g_v (g_cons g_v .nil))))
 pss_n)))))))))
theorem sc_law : FnScope ["script", "trunk", "lap", "board", "low", "high", "story", "whole", "place", "lamp", "turn", "thing"] ["script"] (defScope s_law) := ⟨rfl, rfl, rfl, by decide +kernel, rfl, by decide +kernel, by decide +kernel⟩
theorem w_law : WalkX prog src ("law") d_law := by
  refine ⟨["script", "trunk", "lap", "board", "low", "high", "story", "whole", "place", "lamp", "turn", "thing"], ["script"], sc_law, rfl, rfl, rfl, fun _ _ _ _ _ _ us h => match us, h with | [_], _ => rfl, fun P w K mg base k cf fu XX W er fa cdv A outer s H E0 B E => ?_⟩
  have hp := passes_of (X := cxOf (L2.CX P w) P w K mg base ["script", "trunk", "lap", "board", "low", "high", "story", "whole", "place", "lamp", "turn", "thing"] ("law") (defScope s_law) fa cdv A outer s H E0) rfl
  have nd := sc_law.nd
  exact (pss_c (g_set B nd (g_call B (g_cons g_v .nil)))
 (pss_c (ps_ife B.O (pt_not' B.O (pt_of B.O (g_call0 B) (by intro _; rfl))) (pss_c (ps_rt B.O (g_bl B))
 pss_n) pss_n)
 (pss_c (g_for B hp (g_r1 B (g_cons (g_int B) .nil)) (fun Z1 R1 Q1 => (g_tv (B.sub Z1 R1 Q1).O nd)) (fun Z1 R1 Q1 => (pss_c (g_set (B.sub Z1 R1 Q1) nd (g_call (B.sub Z1 R1 Q1) (g_cons g_v (g_cons (g_int (B.sub Z1 R1 Q1)) .nil))))
 (pss_c (g_set (B.sub Z1 R1 Q1) nd (g_bin (B.sub Z1 R1 Q1) (g_slH (B.sub Z1 R1 Q1) g_v (g_int (B.sub Z1 R1 Q1))) (pe_tup' (B.sub Z1 R1 Q1).O (g_cons (g_ix (B.sub Z1 R1 Q1) (pe_tup' (B.sub Z1 R1 Q1).O (g_cons (g_int (B.sub Z1 R1 Q1)) (g_cons (g_int (B.sub Z1 R1 Q1)) (g_cons (g_int (B.sub Z1 R1 Q1)) (g_cons (g_int (B.sub Z1 R1 Q1)) .nil))))) (g_call (B.sub Z1 R1 Q1) (g_cons g_v (g_cons (g_str (B.sub Z1 R1 Q1)) (g_cons (g_int (B.sub Z1 R1 Q1)) .nil))))) .nil))))
 (pss_c (g_sett (B.sub Z1 R1 Q1) (g_tt (B.sub Z1 R1 Q1) pr0 (g_tcons (g_tv (B.sub Z1 R1 Q1).O nd) (g_tcons (g_tv (B.sub Z1 R1 Q1).O nd) .nil))) (g_ix (B.sub Z1 R1 Q1) g_v (g_int (B.sub Z1 R1 Q1))))
 (pss_c (g_set (B.sub Z1 R1 Q1) nd (pe_tup' (B.sub Z1 R1 Q1).O (g_cons (g_bin (B.sub Z1 R1 Q1) g_v (g_call (B.sub Z1 R1 Q1) (g_cons g_v (g_cons (g_str (B.sub Z1 R1 Q1)) (g_cons (g_bin (B.sub Z1 R1 Q1) (g_bin (B.sub Z1 R1 Q1) g_v g_v) (g_int (B.sub Z1 R1 Q1))) .nil))))) (g_cons (g_call (B.sub Z1 R1 Q1) (g_cons g_v (g_cons g_v (g_cons (g_ix (B.sub Z1 R1 Q1) g_v (g_int (B.sub Z1 R1 Q1))) .nil)))) .nil))))
 (pss_c (g_set (B.sub Z1 R1 Q1) nd (g_bi (B.sub Z1 R1 Q1) .tuple (g_cons (g_cmp0 (B.sub Z1 R1 Q1) nd [(("place"), 8), (("lamp"), 9)] (pi_seq (B.sub Z1 R1 Q1).O (g_call (B.sub Z1 R1 Q1) (g_cons g_v .nil))) rfl (fun Z3 R3 Q3 s3 H3 C3 cl3 fp3 => (g_tt ((B.sub Z1 R1 Q1).cmp Z3 R3 Q3 s3 H3 _ _ fp3) (pw1 _) (g_tcons (g_tw ((B.sub Z1 R1 Q1).cmp Z3 R3 Q3 s3 H3 _ _ fp3).O nd) (g_tcons (g_tw ((B.sub Z1 R1 Q1).cmp Z3 R3 Q3 s3 H3 _ _ fp3).O nd) .nil)))) (fun Z3 R3 Q3 s3 H3 C3 cl3 fp3 => pts_n) (fun Z3 R3 Q3 s3 H3 C3 cl3 fp3 => (pe_tup' ((B.sub Z1 R1 Q1).cmp Z3 R3 Q3 s3 H3 _ _ fp3).O (g_cons g_v (g_cons g_v (g_cons (g_cmp ((B.sub Z1 R1 Q1).cmp Z3 R3 Q3 s3 H3 _ _ fp3) (g_call ((B.sub Z1 R1 Q1).cmp Z3 R3 Q3 s3 H3 _ _ fp3) (g_cons g_v (g_cons (g_str ((B.sub Z1 R1 Q1).cmp Z3 R3 Q3 s3 H3 _ _ fp3)) (g_cons (g_int ((B.sub Z1 R1 Q1).cmp Z3 R3 Q3 s3 H3 _ _ fp3)) .nil)))) (g_int ((B.sub Z1 R1 Q1).cmp Z3 R3 Q3 s3 H3 _ _ fp3))) .nil)))))) .nil)))
 (pss_c (ps_ife (B.sub Z1 R1 Q1).O ((pw_or' (B.sub Z1 R1 Q1).O (pt_not' (B.sub Z1 R1 Q1).O (pt_of (B.sub Z1 R1 Q1).O (g_call (B.sub Z1 R1 Q1) (g_cons g_v (g_cons g_v .nil))) (by intro _; rfl))) (pw_or1 (pt_not' (B.sub Z1 R1 Q1).O (pt_of (B.sub Z1 R1 Q1).O (g_call (B.sub Z1 R1 Q1) (g_cons g_v (g_cons (pe_tup' (B.sub Z1 R1 Q1).O (g_cons g_v (g_cons g_v .nil))) .nil))) (by intro _; rfl)))))).pt (pss_c (ps_rt (B.sub Z1 R1 Q1).O (g_bl (B.sub Z1 R1 Q1)))
 pss_n) pss_n)
 (pss_c (g_for (B.sub Z1 R1 Q1) hp (g_r1 (B.sub Z1 R1 Q1) (g_cons (g_int (B.sub Z1 R1 Q1)) .nil)) (fun Z2 R2 Q2 => (g_tv ((B.sub Z1 R1 Q1).sub Z2 R2 Q2).O nd)) (fun Z2 R2 Q2 => (pss_c (g_set ((B.sub Z1 R1 Q1).sub Z2 R2 Q2) nd (g_call ((B.sub Z1 R1 Q1).sub Z2 R2 Q2) (g_cons g_v (g_cons g_v (g_cons g_v .nil)))))
 (pss_c (ps_ife ((B.sub Z1 R1 Q1).sub Z2 R2 Q2).O ((pw_and' ((B.sub Z1 R1 Q1).sub Z2 R2 Q2).O (pt_cmp' ((B.sub Z1 R1 Q1).sub Z2 R2 Q2).O g_v (g_int ((B.sub Z1 R1 Q1).sub Z2 R2 Q2)) (by intro _ _ _ h; cases h)) (pw_and' ((B.sub Z1 R1 Q1).sub Z2 R2 Q2).O (pt_of ((B.sub Z1 R1 Q1).sub Z2 R2 Q2).O (g_isi ((B.sub Z1 R1 Q1).sub Z2 R2 Q2) .tuple g_v (((B.sub Z1 R1 Q1).sub Z2 R2 Q2).ng .tuple)) (by intro _; rfl)) (pw_and1 (pt_cmp' ((B.sub Z1 R1 Q1).sub Z2 R2 Q2).O (g_ix ((B.sub Z1 R1 Q1).sub Z2 R2 Q2) (g_call ((B.sub Z1 R1 Q1).sub Z2 R2 Q2) (g_cons g_v (g_cons g_v .nil))) (g_int ((B.sub Z1 R1 Q1).sub Z2 R2 Q2))) (g_str ((B.sub Z1 R1 Q1).sub Z2 R2 Q2)) (by intro _ _ _ h; cases h)))))).pt (pss_c (g_set ((B.sub Z1 R1 Q1).sub Z2 R2 Q2) nd (g_call ((B.sub Z1 R1 Q1).sub Z2 R2 Q2) (g_cons g_v (g_cons g_v (g_cons g_v .nil)))))
 pss_n) pss_n)
 (pss_c (ps_ife ((B.sub Z1 R1 Q1).sub Z2 R2 Q2).O (pt_not' ((B.sub Z1 R1 Q1).sub Z2 R2 Q2).O (pt_of ((B.sub Z1 R1 Q1).sub Z2 R2 Q2).O (g_call ((B.sub Z1 R1 Q1).sub Z2 R2 Q2) (g_cons g_v (g_cons g_v .nil))) (by intro _; rfl))) (pss_c (ps_rt ((B.sub Z1 R1 Q1).sub Z2 R2 Q2).O (g_bl ((B.sub Z1 R1 Q1).sub Z2 R2 Q2)))
 pss_n) pss_n)
 (pss_w [10, 11] pss_n))))))
 (pss_w [2, 3, 4, 5, 6, 7, 10, 11] pss_n))))))))))
 (pss_c (ps_rt B.O (g_bl B))
 pss_n))))
abbrev i_BadStory : Stmt := (clsBody (topS 3)).getD 0 (.Pass ⟨0, 0, 0, 0⟩)
theorem isc_BadStory : FnScope ["self", "at", "word"] ["self", "at", "word"] (defScope i_BadStory) := ⟨rfl, rfl, rfl, by decide +kernel, rfl, by decide +kernel, by decide +kernel⟩
theorem init_BadStory : InitOk ("BadStory") ["at", "word"] i_BadStory := ⟨fun P w K mg base CX k fI fd F => ⟨F.ok isc_BadStory (fun vs H Q E ⟨_, _, ws, h1, h2, _⟩ => by rw [h1, List.length_cons, h2]; rfl) (fun cdv A outer s H vs Q E hr h => ⟨_, pss_cons (ps_ost (pe_var (i := 0) rfl (.inl rfl)) (pe_var (i := 1) rfl (.inl rfl))) (pss_one (ps_ost (pe_var (i := 0) rfl (.inl rfl)) (pe_var (i := 2) rfl (.inl rfl)))), in2 rfl h⟩), F.bindsN (fun _ _ _ _ _ _ us h => match us, h with | [_, _, _], _ => rfl)⟩⟩
def isrc (f : Str) : Stmt := (([(("BadStory"), i_BadStory)] : List (Str × Stmt)).lookup f).getD (.Pass ⟨0, 0, 0, 0⟩)
theorem walks : ∀ q ∈ prog.defs, WalkX prog src q.1 q.2 := by
  intro q hq
  simp only [prog, List.mem_cons, List.not_mem_nil, or_false] at hq
  rcases hq with rfl | rfl | rfl | rfl | rfl | rfl | rfl | rfl | rfl | rfl | rfl | rfl | rfl | rfl | rfl | rfl | rfl | rfl | rfl | rfl | rfl | rfl | rfl | rfl | rfl | rfl
  · exact w_is_integer
  · exact w_integer_within
  · exact w_is_tuple
  · exact w_lamps_of
  · exact w_board_lamps
  · exact w_triple_word
  · exact w_breakage_fault
  · exact w_story_fault
  · exact w_check_story
  · exact w_is_story
  · exact w_is_breakage
  · exact w_law_trunk
  · exact w_law_pull
  · exact w_law_size
  · exact w_law_lamps
  · exact w_law_same
  · exact w_law_board
  · exact w_law_breakage
  · exact w_law_is_number
  · exact w_law_triples
  · exact w_law_due
  · exact w_law_heard
  · exact w_law_judged
  · exact w_law_bent
  · exact w_law_hand
  · exact w_law
end K15
namespace K15
open PySem DI L2
def hab (q : Int × Int) : PV := .tup [.int q.1, .int q.2]
@[simp] theorem hab_seq (q : Int × Int) : seqI (hab q) = some [.int q.1, .int q.2] := rfl
@[simp] theorem hab_imm (q : Int × Int) : (hab q).imm = true := by simp [hab]
/-- what is drawn from -/
def Jr (L : List Int) (m l : Int) (ks : List Key) (ws : List PV) : PV := .dct [.inr "digits", .inr "mixed", .inr "laps", .inr "habits"] [.lst (L.map .int), .int m, .int l, .dct ks ws]
section
variable (L L' : List Int) (m l x : Int) (ks ks' : List Key) (ws ws' : List PV)
@[simp] theorem jr_imm : (Jr L m l ks ws).imm = false := rfl
@[simp] theorem jr_box : (Jr L m l ks ws).isBox = true := rfl
@[simp] theorem jr_1 : ixI (Jr L m l ks ws) (.str "digits") = some (.lst (L.map .int)) := rfl
@[simp] theorem jr_2 : ixI (Jr L m l ks ws) (.str "mixed") = some (.int m) := rfl
@[simp] theorem jr_3 : ixI (Jr L m l ks ws) (.str "laps") = some (.int l) := rfl
@[simp] theorem jr_4 : ixI (Jr L m l ks ws) (.str "habits") = some (.dct ks ws) := rfl
@[simp] theorem jr_s1 : setI (Jr L m l ks ws) (.str "digits") (.lst (L'.map .int)) = some (Jr L' m l ks ws) := rfl
@[simp] theorem jr_s2 : setI (Jr L m l ks ws) (.str "mixed") (.int x) = some (Jr L x l ks ws) := rfl
@[simp] theorem jr_s3 : setI (Jr L m l ks ws) (.str "laps") (.int x) = some (Jr L m x ks ws) := rfl
@[simp] theorem jr_s4 : setI (Jr L m l ks ws) (.str "habits") (.dct ks' ws') = some (Jr L m l ks' ws') := rfl
theorem jr_new (n : Int) : dictOf [.str "digits", .lst [], .str "mixed", .int n, .str "laps", .int 0, .str "habits", .dct [] []] [] [] = some (Jr [] n 0 [] []) := rfl
end
theorem dict0 : dictOf [] [] [] = some (.dct [] []) := rfl
def names : List Key := ["lamps", "shapes", "shape", "places", "base", "step", "low", "starts", "blank", "broken", "broken lamp", "lit", "way", "shape kind", "count kind", "lone", "at", "odd", "room", "count", "whole"].map fun s => .inr (Str.ofString s)
def Mk (M : PV) : Prop := ∃ (L : List Int) (m l : Int) (ks : List Key) (vs : List (Int × Int)), M = Jr L m l ks (vs.map hab) ∧ ks.length = vs.length ∧ KsOk names ks ∧ (∀ v ∈ vs, 0 ≤ v.1) ∧ L.length ≤ 16000000
theorem Mk.imm {M : PV} (h : Mk M) : M.imm = false := by obtain ⟨L, s, t, ks, vs, rfl, _⟩ := h; rfl
theorem pull_tail (fu k : Nat) (m l : Int) {ks : List Key} {ws : List PV} (nm : Str) (many : Int) (hm : 0 < many) (a b : Int) (ha : 0 ≤ a) (h2 : lookK (.inr nm) ks ws = some (hab (a, b))) :
    ∃ r, 0 ≤ r ∧ r < many ∧ ∀ K, Kp K (.ret (.int r) [.rf (Jr [] m l ks ws), .ro false (.str nm), .ro false (.int many), .ow (.int a), .ow (.int b)]) → Kp K (exSs prog (callI prog fu k) fu (d_law_pull.body.drop 4) [.rf (Jr [] m l ks ws), .ro false (.str nm), .ro false (.int many), .un, .un]) := by
  have e1 := Int.emod_nonneg b (by omega : many ≠ 0)
  have e2 := Int.emod_lt_of_pos b hm
  have e3 := Int.emod_nonneg (m / 47) (by omega : many ≠ 0)
  have e4 := Int.emod_lt_of_pos (m / 47) hm
  by_cases h0 : a = 0
  · subst h0
    refine ⟨0, by omega, by omega, fun K hK => ?_⟩
    simp [d_law_pull, h2]
    exact hK
  · by_cases h1 : a = 1
    · subst h1
      refine ⟨many - 1, by omega, by omega, fun K hK => ?_⟩
      simp [d_law_pull, h2]
      exact hK
    · by_cases h3 : a = 2
      · subst h3
        refine ⟨b % many, e1, e2, fun K hK => ?_⟩
        simp [d_law_pull, h2, hm]
        exact hK
      · have h4 : ¬ a < 2 := by omega
        refine ⟨m / 47 % many, e3, e4, fun K hK => ?_⟩
        simp [d_law_pull, h2, hm, h3, h4]
        exact hK
theorem pull_ok (fu k : Nat) {M : PV} (h : Mk M) (nm : Str) (hn : memK (.inr nm) names = true) (many : Int) (hm : 0 < many) : ∃ r M', 0 ≤ r ∧ r < many ∧ Mk M' ∧ callI prog fu (k + 1) "_law_pull" [M, .str nm, .int many] = .ok (.int r) [M'] := by
  obtain ⟨L, m, l, ks, vs, rfl, hl, hk, hv, hL⟩ := h
  rcases List.eq_nil_or_concat L with rfl | ⟨L', x, rfl⟩
  · obtain ⟨m', hm'⟩ : ∃ m' : Int, m' = (m * 69621 + (l + 1) * 15013 + 3) % 2147483629 := ⟨_, rfl⟩
    cases hmk : memK (.inr nm) ks with
    | true =>
      obtain ⟨v, hv', hlk⟩ := lookK_mem (vs := vs.map hab) (by simpa using hl) hmk
      obtain ⟨⟨a, b⟩, hab', rfl⟩ := List.mem_map.mp hv'
      obtain ⟨r, h1, h2, h3⟩ := pull_tail fu k m' (l + 1) (ks := ks) (ws := vs.map hab) nm many hm a b (hv _ hab') hlk
      refine ⟨r, _, h1, h2, ⟨[], m', l + 1, ks, vs, rfl, hl, hk, hv, by simp⟩, ?_⟩
      refine call_eq d_law_pull rfl rfl rfl (by decide) fun K hK => ?_
      have h3 := h3 K
      simp [d_law_pull] at h3
      simp [d_law_pull, hmk, ← hm']
      apply h3
      apply hK
      simp
    | false =>
      have hlk := lookK_app (x := hab (m' / 13 % 9, m' / 131 % 4001)) (vs := vs.map hab) (by simpa using hl) hmk
      have h9 : 0 ≤ m' / 13 % 9 := Int.emod_nonneg _ (by decide)
      obtain ⟨r, h1, h2, h3⟩ := pull_tail fu k m' (l + 1) (ks := ks ++ [.inr nm]) (ws := vs.map hab ++ [hab (m' / 13 % 9, m' / 131 % 4001)]) nm many hm _ _ h9 hlk
      refine ⟨r, _, h1, h2, ⟨[], m', l + 1, ks ++ [.inr nm], vs ++ [(m' / 13 % 9, m' / 131 % 4001)], rfl, by simp [hl], hk.add hn hmk, fun v hv' => ?_, by simp⟩, ?_⟩
      · rcases List.mem_append.mp hv' with h | h
        · exact hv v h
        · rw [List.mem_singleton.mp h]; exact h9
      refine call_eq d_law_pull rfl rfl rfl (by decide) fun K hK => ?_
      have h3 := h3 K
      have hz : ks.length < 16000000 := by
        have := hk.len
        simp [names] at this
        omega
      have hm1 : memK (.inr nm) (ks ++ [.inr nm]) = true := memK_app ks
      simp [d_law_pull, hab] at h3
      simp [d_law_pull, hmk, ← hm', setK, hz]
      apply h3
      apply hK
      simp [hab]
  · have e1 := Int.emod_nonneg x (by omega : many ≠ 0)
    have e2 := Int.emod_lt_of_pos x hm
    refine ⟨x % many, _, e1, e2, ⟨L', m, l, ks, vs, rfl, hl, hk, hv, by simp at hL; omega⟩, ?_⟩
    refine call_eq d_law_pull rfl rfl rfl (by decide) fun K hK => ?_
    simp [d_law_pull, hm]
    apply hK
    simp
theorem jar_ok (fu k : Nat) (ns : List Int) : ∃ M, Mk M ∧ callI prog fu (k + 1) "_law_trunk" [.lst (ns.map .int)] = .ok M [] := by
  refine call_K d_law_trunk (fun r => ∃ M, Mk M ∧ r = .ok M []) rfl rfl rfl (by decide) fun K hK => ?_
  simp [d_law_trunk, dict0, jr_new]
  refine K_for (ns.take 48) .int [] (fun r e => ∃ (L : List Int) (m : Int), e = [.ro false (.lst (ns.map .int)), .ow (Jr L m 0 [] []), .un, .un, .un] ∧ r.length ≤ 48 ∧ L.length ≤ 140 * (48 - r.length)) (by simp [cut_head]) ⟨[], 15013, rfl, by simp; omega, by simp⟩ ?_ ?_
  · rintro x r e N ⟨L, m, rfl, h1, h2⟩ hN
    have h1 : r.length + 1 ≤ 48 := by simpa using h1
    have h2 : L.length ≤ 140 * (48 - (r.length + 1)) := by simpa using h2
    have hp : (0 : Int) < 2 ^ 1400 := Int.pow_pos (by decide)
    simp [hp]
    refine K_rng 0 140 (fun i e => ∃ (L' : List Int) (z m' : Int), e = [.ro false (.lst (ns.map .int)), .ow (Jr L' m' 0 [] []), .ow (.int x), .ow (.int z), .un] ∧ L'.length ≤ L.length + i) (by simp) ⟨L, _, _, rfl, by omega⟩ ?_ ?_
    · rintro i e N' hi ⟨L', z, m', rfl, h3⟩ hN'
      by_cases hz : z < (1000000000000 : Int)
      · simp [hz]
        apply hN
        exact ⟨L', m', rfl, by omega, by omega⟩
      · have n1 : L'.length < sizeLine := by rw [sizeLine_eq]; omega
        simp [hz, n1]
        have e1 := jr_s1 L' (L' ++ [z % 1021]) m' 0 [] []
        simp only [List.map_append, List.map_cons, List.map_nil] at e1
        refine hN' _ ⟨L' ++ [z % 1021], z / 1021, m', ?_, by simp; omega⟩
        simp [e1]
    · rintro e ⟨L', z, m', rfl, h3⟩
      simp
      apply hN
      exact ⟨L', m', rfl, by omega, by omega⟩
  · rintro e ⟨L, m, rfl, _, h2⟩
    simp
    apply hK
    refine ⟨_, ⟨L, m, 0, [], [], rfl, rfl, KsOk.nil _, fun _ h => (by cases h), by omega⟩, ?_⟩
    simp
end K15
namespace K15
open PySem DI L2
mutual
/-- how many values stand in it -/
def ndsP : PV → Nat
  | .tup vs => ndsL vs + 1
  | .fls vs => ndsL vs + 1
  | _ => 1
def ndsL : List PV → Nat
  | [] => 0
  | v :: vs => ndsP v + ndsL vs
end
@[simp] theorem nds_tup (vs : List PV) : ndsP (.tup vs) = ndsL vs + 1 := by simp only [ndsP]
@[simp] theorem nds_fls (vs : List PV) : ndsP (.fls vs) = ndsL vs + 1 := by simp only [ndsP]
@[simp] theorem nds_int (i : Int) : ndsP (.int i) = 1 := by simp only [ndsP]
@[simp] theorem nds_str (i : Str) : ndsP (.str i) = 1 := by simp only [ndsP]
@[simp] theorem nds_bl (i : Bool) : ndsP (.bl i) = 1 := by simp only [ndsP]
@[simp] theorem nds_non : ndsP .non = 1 := by simp only [ndsP]
@[simp] theorem nds_nil : ndsL [] = 0 := by simp only [ndsL]
@[simp] theorem nds_cons (v : PV) (vs : List PV) : ndsL (v :: vs) = ndsP v + ndsL vs := by simp only [ndsL]
@[simp] theorem nds_app : ∀ a b : List PV, ndsL (a ++ b) = ndsL a + ndsL b
  | [], b => by simp
  | v :: a, b => by simp [nds_app a b]; omega
theorem nds_pos (v : PV) : 1 ≤ ndsP v := by cases v <;> simp [ndsP]
theorem nds_len : ∀ vs : List PV, vs.length ≤ ndsL vs
  | [] => by simp
  | v :: vs => by
    have := nds_len vs
    have := nds_pos v
    simp
    omega
theorem nds_map {α : Type} (f : α → PV) (k : Nat) : ∀ l : List α, (∀ a ∈ l, ndsP (f a) ≤ k) → ndsL (l.map f) ≤ k * l.length
  | [], _ => by simp
  | a :: l, h => by
    have h1 := h a List.mem_cons_self
    have h2 := nds_map f k l fun b hb => h b (List.mem_cons_of_mem _ hb)
    simp [Nat.mul_add]
    omega
@[simp] theorem nds_ints (l : List Int) : ndsL (l.map .int) = l.length := by
  induction l with
  | nil => rfl
  | cons a l ih => simp [ih]; omega
theorem immL_mem : ∀ {vs : List PV} {v : PV}, immL vs = true → v ∈ vs → v.imm = true
  | u :: vs, v, h, hv => by
    simp only [immL, Bool.and_eq_true] at h
    rcases List.mem_cons.mp hv with rfl | hv
    · exact h.1
    · exact immL_mem h.2 hv
def dup (u : PV) : PV := .tup [u, u]
@[simp] theorem dup_imm (u : PV) : (dup u).imm = u.imm := by simp [dup]
@[simp] theorem dup_seq (u : PV) : seqI (dup u) = some [u, u] := rfl
theorem ix_tup {us : List PV} {j : Nat} {w : PV} (h : us[j]? = some w) : ixI (.tup us) (.int j) = some w := by
  obtain ⟨hj, hw⟩ := List.getElem?_eq_some_iff.mp h
  show atI us j = _
  unfold atI L2.ixN
  simp [hj, hw]
theorem ix_fls {us : List PV} {j : Nat} {w : PV} (h : us[j]? = some w) : ixI (.fls us) (.int j) = some w := by
  obtain ⟨hj, hw⟩ := List.getElem?_eq_some_iff.mp h
  show atI us j = _
  unfold atI L2.ixN
  simp [hj, hw]
theorem same_ok (fu k : Nat) (v : PV) (hv : v.imm = true) (hn : ndsP v ≤ 2000000) : callI prog fu (k + 1) "_law_same" [v, v] = .ok (.bl true) [] := by
  refine call_eq d_law_same rfl rfl rfl (by decide) fun K hK => ?_
  simp [d_law_same, hv]
  refine K_rng 0 3000000 (fun i e => ∃ l : List PV, e = [.ro false v, .ro false v, .ow (.lst (l.map dup)), .un, .un, .un, .un] ∧ immL l = true ∧ ndsL l + i ≤ ndsP v) (by simp) ⟨[v], by simp [dup], by simp [hv], by simp⟩ ?_ ?_
  · rintro i e N hi ⟨l, rfl, h1, h2⟩ hN
    rcases List.eq_nil_or_concat l with rfl | ⟨l', u, rfl⟩
    · simp
      apply hK
      simp
    · have h0 : ¬ ((l'.length : Int) + 1 = 0) := by omega
      have h3 : immL l' = true ∧ u.imm = true := by simpa [immL_app] using h1
      have h4 : ndsL l' + ndsP u + i ≤ ndsP v := by simpa using h2
      have fin : ∀ us : List PV, immL us = true → ndsL us + 1 ≤ ndsP u → N [.ro false v, .ro false v, .ow (.lst ((l' ++ us).map dup)), .un, .un, .un, .un] := fun us q1 q2 => hN _ ⟨l' ++ us, rfl, by rw [immL_app, h3.1, q1]; rfl, by rw [nds_app]; omega⟩
      cases u with
      | tup us =>
        have hi2 : immL us = true := by simpa using h3.2
        have hl := nds_len us
        have hl2 := nds_len l'
        have h5 : ndsL us + 1 ≤ 2000000 := by simp at h4; omega
        have hf : fits62 (us.length : Int) = true := fits62_of (by omega) (by omega)
        simp [h0, h3.2, hi2]
        refine K_rng 0 us.length (fun j e => j ≤ us.length ∧ e = [.ro false v, .ro false v, .ow (.lst ((l' ++ us.take j).map dup)), .ow (.int i), .ow (.tup us), .ow (.tup us), .un]) (by simp [hf]) ⟨by omega, by simp⟩ ?_ ?_
        · rintro j e N' hj ⟨hj2, rfl⟩ hN'
          obtain ⟨w, hw⟩ : ∃ w, us[j]? = some w := ⟨us[j], by simp [hj]⟩
          have hx := ix_tup hw
          have hwi : w.imm = true := immL_mem hi2 (List.mem_of_getElem? hw)
          have hz : l'.length + min j us.length < sizeLine := by rw [sizeLine_eq]; simp at h4; omega
          simp [hx, hwi, hz, -pb_ixI_1]
          apply hN'
          refine ⟨by omega, ?_⟩
          have e1 : us.take (j + 1) = us.take j ++ [w] := by rw [List.take_succ, hw]; rfl
          simp [e1, dup]
        · rintro e ⟨_, rfl⟩
          simp
          have := fin us hi2 (by simp)
          simpa using this
      | fls us =>
        have hi2 : immL us = true := by simpa using h3.2
        have hl := nds_len us
        have hl2 := nds_len l'
        have h5 : ndsL us + 1 ≤ 2000000 := by simp at h4; omega
        have hf : fits62 (us.length : Int) = true := fits62_of (by omega) (by omega)
        simp [h0, h3.2, hi2]
        refine K_rng 0 us.length (fun j e => j ≤ us.length ∧ e = [.ro false v, .ro false v, .ow (.lst ((l' ++ us.take j).map dup)), .ow (.int i), .ow (.fls us), .ow (.fls us), .un]) (by simp [hf]) ⟨by omega, by simp⟩ ?_ ?_
        · rintro j e N' hj ⟨hj2, rfl⟩ hN'
          obtain ⟨w, hw⟩ : ∃ w, us[j]? = some w := ⟨us[j], by simp [hj]⟩
          have hx := ix_fls hw
          have hwi : w.imm = true := immL_mem hi2 (List.mem_of_getElem? hw)
          have hz : l'.length + min j us.length < sizeLine := by rw [sizeLine_eq]; simp at h4; omega
          simp [hx, hwi, hz, -pb_ixI_6]
          apply hN'
          refine ⟨by omega, ?_⟩
          have e1 : us.take (j + 1) = us.take j ++ [w] := by rw [List.take_succ, hw]; rfl
          simp [e1, dup]
        · rintro e ⟨_, rfl⟩
          simp
          have := fin us hi2 (by simp)
          simpa using this
      | int x =>
        simp [h0]
        have := fin [] rfl (by simp)
        simpa using this
      | bl x =>
        simp [h0]
        have := fin [] rfl (by simp)
        simpa using this
      | non =>
        simp [h0]
        have := fin [] rfl (by simp)
        simpa using this
      | str x =>
        simp [h0]
        have := fin [] rfl (by simp)
        simpa using this
      | lst us => exact absurd h3.2 (by simp)
      | set us => exact absurd h3.2 (by simp)
      | dct ks us => exact absurd h3.2 (by simp)
      | err c us => exact absurd h3.2 (by simp)
  · rintro e ⟨l, rfl, h1, h2⟩
    exact absurd h2 (by omega)
theorem size_ok (fu k : Nat) (B : Bd) (hl : ∀ b ∈ B.pl, fits64 b = true) : callI prog fu (k + 1) "_law_size" [B.pv] = .ok (.int (prd B.pl)) [] := by
  refine call_eq d_law_size rfl rfl rfl (by decide) fun K hK => ?_
  simp [d_law_size]
  refine K_for B.pl .int [] (fun r e => ∃ a, e = [.ro false B.pv, .ow (.int a), .un] ∧ a * prd r = prd B.pl ∧ ∀ b ∈ r, fits64 b = true) (by simp) ⟨1, rfl, by simp, hl⟩ ?_ ?_
  · rintro b r e N ⟨a, rfl, h, hr⟩ hN
    simp [hr b]
    exact hN _ ⟨a * b, rfl, by rw [← h, prd, Int.mul_assoc], fun c hc => hr c (List.mem_cons_of_mem _ hc)⟩
  · rintro e ⟨a, rfl, h, _⟩
    simp
    apply hK
    simp [prd] at h ⊢
    exact h
end K15
namespace K15
open PySem DI L2
/-- the board is one -/
structure BoA (B : Bd) : Prop where
  b1 : ∀ b ∈ B.pl, 2 ≤ b ∧ b ≤ 12
  bs : ∀ b ∈ B.pl, b ≤ B.sh.length
  p1 : 1 ≤ B.pl.length
  p4 : B.pl.length ≤ 4
  sz : prd B.pl ≤ 400
  hi : 0 ≤ B.hi ∧ B.hi < prd B.pl
  lo : 0 ≤ B.lo ∧ B.lo ≤ B.hi
  s2 : 2 ≤ B.sh.length
  sn : B.sh.length ≤ 12
  ln : ∀ s ∈ B.sh, s.2.Pairwise (· < ·) ∧ ∀ x ∈ s.2, 0 ≤ x ∧ x ≤ 11
  st : 1 ≤ B.st ∧ B.st ≤ 999
  br : 0 ≤ B.br ∧ B.br ≤ 6
theorem BoA.f64 {B : Bd} (h : BoA B) : ∀ b ∈ B.pl, fits64 b = true := fun b hb => fits64_of (by have := h.b1 b hb; omega) (by have := h.b1 b hb; omega)
theorem BoA.pos {B : Bd} (h : BoA B) : 1 ≤ prd B.pl := prd_pos fun b hb => by have := h.b1 b hb; omega
theorem prd_app (l : List Int) (b : Int) : prd (l ++ [b]) = prd l * b := by
  induction l with
  | nil => simp [prd]
  | cons a l ih => show a * prd (l ++ [b]) = a * prd l * b; rw [ih, Int.mul_assoc]
/-- some of a row -/
def pick (ls : List Int) (c : Int → Bool) : List Int := ((nUp ls.length).filter c).map fun k => ls.getD k.toNat 0
theorem pick_all (ls : List Int) : (nUp ls.length).map (fun k => ls.getD k.toNat 0) = ls := by
  unfold nUp
  rw [List.map_map]
  apply List.ext_getElem
  · simp
  · intro i h1 h2
    simp
    rw [List.getElem?_eq_getElem h2]
    rfl
theorem pick_sub (ls : List Int) (c : Int → Bool) : (pick ls c).Sublist ls := by
  have := (List.filter_sublist (p := c) (l := nUp ls.length)).map fun k => ls.getD k.toNat 0
  rw [pick_all] at this
  exact this
def nmL : List PV := [.str "o", .str "i", .str "z", .str "e4", .str "abcdefgh", .str "n"]
theorem nm_ok (i : Int) (h0 : 0 ≤ i) (h5 : i < 5) : ∃ x : Str, ixI (.tup nmL) (.int i) = some (.str x) := by
  have : i = 0 ∨ i = 1 ∨ i = 2 ∨ i = 3 ∨ i = 4 := by omega
  rcases this with rfl | rfl | rfl | rfl | rfl
  · exact ⟨_, rfl⟩
  · exact ⟨_, rfl⟩
  · exact ⟨_, rfl⟩
  · exact ⟨_, rfl⟩
  · exact ⟨_, rfl⟩
def rowOk (ls : List Int) : Prop := ls.Pairwise (· < ·) ∧ (∀ x ∈ ls, 0 ≤ x ∧ x ≤ 11) ∧ ls.length ≤ 5
theorem row_ok (i : Int) (h0 : 0 ≤ i) (h5 : i < 5) : ∃ ls : List Int, rowOk ls ∧ ixI (.tup [.tup [.int 0, .int 1, .int 2], .tup [.int 0, .int 11], .tup [.int 3, .int 5, .int 6, .int 9], .tup [.int 7], .tup [.int 0, .int 1, .int 2, .int 3]]) (.int i) = some (.tup (ls.map .int)) := by
  have : i = 0 ∨ i = 1 ∨ i = 2 ∨ i = 3 ∨ i = 4 := by omega
  rcases this with rfl | rfl | rfl | rfl | rfl
  · exact ⟨[0, 1, 2], by unfold rowOk; decide, rfl⟩
  · exact ⟨[0, 11], by unfold rowOk; decide, rfl⟩
  · exact ⟨[3, 5, 6, 9], by unfold rowOk; decide, rfl⟩
  · exact ⟨[7], by unfold rowOk; decide, rfl⟩
  · exact ⟨[0, 1, 2, 3], by unfold rowOk; decide, rfl⟩
def lnA (s : Str × List Int) : Prop := s.2.Pairwise (· < ·) ∧ ∀ x ∈ s.2, 0 ≤ x ∧ x ≤ 11
theorem ix_ints {ls : List Int} {k : Int} (h0 : 0 ≤ k) (h1 : k < ls.length) : ixI (.tup (ls.map .int)) (.int k) = some (.int (ls.getD k.toNat 0)) := by
  obtain ⟨j, rfl⟩ : ∃ j : Nat, k = j := ⟨k.toNat, by omega⟩
  have hj : j < ls.length := by omega
  refine ix_tup ?_
  simp [hj]
theorem board_tail (fu k : Nat) {M : PV} (hM : Mk M) (most : Int) (x3 : PV) (sh : List (Str × List Int)) (hs2 : 2 ≤ sh.length) (hs : sh.length ≤ 5) (hln : ∀ s ∈ sh, lnA s) (pl : List Int) (hb1 : ∀ b ∈ pl, 2 ≤ b ∧ b ≤ 5) (hbs : ∀ b ∈ pl, b ≤ sh.length) (hp1 : 1 ≤ pl.length) (hp4 : pl.length ≤ 4) (hsz : prd pl ≤ 60) (K : SR → Prop)
    (hK : ∀ r, (∃ B M', BoA B ∧ prd B.pl ≤ 60 ∧ (∀ b ∈ B.pl, b ≤ 5) ∧ B.sh.length ≤ 5 ∧ Mk M' ∧ DI.callEnd d_law_board r = .ok B.pv [M']) → Kp K r) :
    Kp (Kc prog (callI prog fu (k + 1)) fu K (d_law_board.body.drop 6)) (.nx [.rf M, .ro false (.int most), .ow (.tup nmL), .ow x3, .ow (.lst (sh.map shp)), .un, .un, .un, .ow (.tup (pl.map .int)), .ow (.int (prd pl)), .un, .un, .un, .un, .un]) := by
  have hP1 : 1 ≤ prd pl := prd_pos fun b hb => by have := hb1 b hb; omega
  obtain ⟨r0, M0, p0, q0, m0, e0⟩ := pull_ok fu k hM "step" rfl 7 (by decide)
  obtain ⟨r1, M1, p1, q1, m1, e1⟩ := pull_ok fu k m0 "low" rfl (prd pl) (by omega)
  obtain ⟨r2, M2, p2, q2, m2, e2⟩ := pull_ok fu k m1 "starts" rfl 6 (by decide)
  obtain ⟨r3, M3, p3, q3, m3, e3⟩ := pull_ok fu k m2 "blank" rfl 2 (by decide)
  obtain ⟨r5, M5, p5, q5, m5, e5⟩ := pull_ok fu k m3 "broken" rfl 4 (by decide)
  obtain ⟨P, hP⟩ : ∃ P : Int, P = prd pl := ⟨_, rfl⟩
  obtain ⟨x, hx1, hx2, hx⟩ : ∃ x : Int, 1 ≤ x ∧ x ≤ 60 ∧ x = if 2 < P then P - 1 else 1 := ⟨_, by split <;> omega, by split <;> omega, rfl⟩
  obtain ⟨st, hst, s1, s2⟩ : ∃ st : Int, ixI (.tup [.int 1, .int 1, .int 2, .int 3, .int P, .int 999, .int x]) (.int r0) = some (.int st) ∧ 1 ≤ st ∧ st ≤ 999 := by
    have : r0 = 0 ∨ r0 = 1 ∨ r0 = 2 ∨ r0 = 3 ∨ r0 = 4 ∨ r0 = 5 ∨ r0 = 6 := by omega
    rcases this with rfl | rfl | rfl | rfl | rfl | rfl | rfl
    · exact ⟨1, rfl, by omega, by omega⟩
    · exact ⟨1, rfl, by omega, by omega⟩
    · exact ⟨2, rfl, by omega, by omega⟩
    · exact ⟨3, rfl, by omega, by omega⟩
    · exact ⟨P, rfl, by omega, by omega⟩
    · exact ⟨999, rfl, by omega, by omega⟩
    · exact ⟨x, rfl, by omega, by omega⟩
  rw [← hP] at e1 q1 hP1 hsz ⊢
  have hB : BoA ⟨sh, pl, r3 == 1, st, r1, if r1 + r2 < P - 1 then r1 + r2 else P - 1, r5⟩ := ⟨fun b hb => by have := hb1 b hb; omega, hbs, hp1, hp4, by show prd pl ≤ 400; omega, by show 0 ≤ (if r1 + r2 < P - 1 then r1 + r2 else P - 1) ∧ (if r1 + r2 < P - 1 then r1 + r2 else P - 1) < prd pl; split <;> omega, by show 0 ≤ r1 ∧ r1 ≤ (if r1 + r2 < P - 1 then r1 + r2 else P - 1); split <;> omega, hs2, by show sh.length ≤ 12; omega, hln, ⟨s1, s2⟩, by show 0 ≤ r5 ∧ r5 ≤ 6; omega⟩
  have fin : ∀ r, DI.callEnd d_law_board r = .ok (.tup [.tup (sh.map shp), .tup (pl.map .int), .bl (r3 == 1), .int st, .tup [.int r1, .int (if r1 + r2 < P - 1 then r1 + r2 else P - 1)], .int r5]) [M5] → Kp K r := fun r h => hK r ⟨_, M5, hB, by show prd pl ≤ 60; omega, fun b hb => (hb1 b hb).2, hs, m5, by rw [h]; rfl⟩
  by_cases hz : 2 < P
  · rw [if_pos hz] at hx
    subst hx
    simp [d_law_board, e0, e1, e2, e3, e5, hM.imm, m0.imm, m1.imm, m2.imm, m3.imm, m5.imm, hz, hst, -pb_ixI_1]
    apply fin
    simp
  · rw [if_neg hz] at hx
    subst hx
    simp [d_law_board, e0, e1, e2, e3, e5, hM.imm, m0.imm, m1.imm, m2.imm, m3.imm, m5.imm, hz, hst, -pb_ixI_1]
    apply fin
    simp
theorem board_ok (fu k : Nat) {M : PV} (hM : Mk M) (most : Nat) (h1 : 1 ≤ most) (h4 : most ≤ 4) : ∃ B M', BoA B ∧ prd B.pl ≤ 60 ∧ (∀ b ∈ B.pl, b ≤ 5) ∧ B.sh.length ≤ 5 ∧ Mk M' ∧ callI prog fu (k + 2) "_law_board" [M, .int most] = .ok B.pv [M'] := by
  refine call_K d_law_board (fun r => ∃ B M', BoA B ∧ prd B.pl ≤ 60 ∧ (∀ b ∈ B.pl, b ≤ 5) ∧ B.sh.length ≤ 5 ∧ Mk M' ∧ r = .ok B.pv [M']) rfl rfl rfl (by decide) fun K hK => ?_
  obtain ⟨r1, M1, p1, q1, m1, e1⟩ := pull_ok fu k hM "lamps" rfl 5 (by decide)
  obtain ⟨ls, hrow, hls⟩ := row_ok r1 p1 q1
  obtain ⟨r2, M2, p2, q2, m2, e2⟩ := pull_ok fu k m1 "shapes" rfl 4 (by decide)
  simp [d_law_board, e1, hM.imm, m1.imm, hls, -pb_ixI_1, -Kc_nx]
  rw [Kc_nx]
  simp [e1, hM.imm, m1.imm, hls, -pb_ixI_1, -Kc_nx]
  rw [Kc_nx]
  simp [-Kc_nx]
  rw [Kc_nx, Kp_cons]
  have hf : fits62 (2 + r2) = true := fits62_of (by omega) (by omega)
  have hr := hrow.2.2
  refine K_forE (nUp (2 + r2).toNat) .int (fun r e => ∃ (M' : PV) (sh : List (Str × List Int)), Mk M' ∧ sh.length + r.length = (2 + r2).toNat ∧ (∀ a ∈ r, 0 ≤ a ∧ a < 5) ∧ (∀ s ∈ sh, lnA s) ∧ e = [.rf M', .ro false (.int most), .ow (.tup nmL), .ow (.tup (ls.map .int)), .ow (.lst (sh.map shp)), .un, .un, .un, .un, .un, .un, .un, .un, .un, .un]) (env0 := [.rf M2, .ro false (.int most), .ow (.tup nmL), .ow (.tup (ls.map .int)), .ow (.lst []), .un, .un, .un, .un, .un, .un, .un, .un, .un, .un]) ?_ ⟨M2, [], m2, by simp, fun a ha => by have := mem_nUp.mp ha; omega, fun _ h => (by cases h), rfl⟩ ?_ ?_
  · simp [e2, m1.imm, m2.imm, hf, rangeL_nUp, nmL]
  · rintro a r e N ⟨M', sh, hM', hl, ha, hs, rfl⟩ hN
    have hpw : (0 : Int) < 2 ^ ls.length := Int.pow_pos (by decide)
    obtain ⟨r3, M3, p3, q3, m3, e3⟩ := pull_ok fu k hM' "shape" rfl (2 ^ ls.length) hpw
    obtain ⟨x, hx⟩ := nm_ok a (ha a List.mem_cons_self).1 (ha a List.mem_cons_self).2
    have hl' : sh.length + (r.length + 1) = (2 + r2).toNat := by simpa using hl
    have hz : sh.length < 16000000 := by omega
    have hfl : fits62 (ls.length : Int) = true := fits62_of (by omega) (by omega)
    have hle : (ls.length : Int) ≤ 1000000 := by omega
    simp [e3, hM'.imm, m3.imm, hle, hx, -pb_ixI_1]
    rw [comp_pure (nUp ls.length) .int [] (fun k => Builtin.bitAnd (r3 / 2 ^ k.toNat) 1 != 0) (fun k => .int (ls.getD k.toNat 0))]
    rotate_left
    · simp [hfl, rangeL_nUp]
    · simp
    · simp
    · simp; omega
    · intro k hk
      have hk := mem_nUp.mp hk
      have hix := ix_ints (ls := ls) (k := k) hk.1 (by omega)
      simp [hk.1, hix, -pb_ixI_1]
    have e4 : ((nUp ls.length).filter (fun k => Builtin.bitAnd (r3 / 2 ^ k.toNat) 1 != 0)).map (fun k => PV.int (ls.getD k.toNat 0)) = (pick ls fun k => Builtin.bitAnd (r3 / 2 ^ k.toNat) 1 != 0).map .int := by rw [pick, List.map_map]; rfl
    rw [e4]
    have hsub := pick_sub ls fun k => Builtin.bitAnd (r3 / 2 ^ k.toNat) 1 != 0
    generalize pick ls (fun k => Builtin.bitAnd (r3 / 2 ^ k.toNat) 1 != 0) = pk at *
    simp [hz]
    apply hN
    refine ⟨M3, sh ++ [(x, pk)], m3, by simp; omega, fun b hb => ha b (List.mem_cons_of_mem _ hb), fun s hs' => ?_, by simp [shp]⟩
    rcases List.mem_append.mp hs' with h | h
    · exact hs s h
    · rw [List.mem_singleton.mp h]
      exact ⟨hrow.1.sublist hsub, fun y hy => hrow.2.1 y (hsub.subset hy)⟩
  · rintro e ⟨M3, sh, m3, hl, _, hs, rfl⟩
    have hl : sh.length = (2 + r2).toNat := by simpa using hl
    rw [Kc_nx]
    simp [-Kc_nx]
    rw [Kc_nx, Kp_cons]
    obtain ⟨r4, M4, p4, q4, m4, e4⟩ := pull_ok fu k m3 "places" rfl most (by omega)
    have hf : fits62 (1 + r4) = true := fits62_of (by omega) (by omega)
    refine K_forE (nUp (1 + r4).toNat) .int (fun r e => ∃ (M' : PV) (pl : List Int), Mk M' ∧ pl.length + r.length ≤ (1 + r4).toNat ∧ (pl = [] → r.length = (1 + r4).toNat) ∧ (∀ b ∈ pl, 2 ≤ b ∧ b ≤ 5) ∧ (∀ b ∈ pl, b ≤ sh.length) ∧ prd pl ≤ 60 ∧ e = [.rf M', .ro false (.int most), .ow (.tup nmL), .ow (.tup (ls.map .int)), .ow (.lst (sh.map shp)), .un, .un, .un, .ow (.tup (pl.map .int)), .ow (.int (prd pl)), .un, .un, .un, .un, .un]) (env0 := [.rf M4, .ro false (.int most), .ow (.tup nmL), .ow (.tup (ls.map .int)), .ow (.lst (sh.map shp)), .un, .un, .un, .ow (.tup []), .ow (.int 1), .un, .un, .un, .un, .un]) ?_ ⟨M4, [], m4, by simp, by simp, fun _ h => (by cases h), fun _ h => (by cases h), by decide, rfl⟩ ?_ ?_
    · simp [e4, m3.imm, m4.imm, hf, rangeL_nUp]
    · rintro a r e N ⟨M', pl, hM', hl1, hl2, hb, hbs, hz, rfl⟩ hN
      obtain ⟨r5, M6, p5, q5, m6, e5⟩ := pull_ok fu k hM' "base" rfl (sh.length - 1) (by omega)
      have hn : pl.length + (r.length + 1) ≤ (1 + r4).toNat := by simpa using hl1
      have hf2 : fits64 (2 + r5) = true := fits64_of (by omega) (by omega)
      have hle : (sh.length : Int) ≤ 1000000 := by omega
      have hln2 : pl.length + 1 ≤ sizeLine := by rw [sizeLine_eq]; omega
      by_cases hc : prd pl * (2 + r5) ≤ 60
      · simp [e5, hM'.imm, m6.imm, hf2, hc, hln2, hle, immL_app]
        refine hN _ ⟨M6, pl ++ [2 + r5], m6, by simp; omega, by simp, fun b hb' => ?_, fun b hb' => ?_, by rw [prd_app]; exact hc, ?_⟩
        rotate_right
        · simp [prd_app]
        · rcases List.mem_append.mp hb' with hb' | hb'
          · exact hb b hb'
          · rw [List.mem_singleton.mp hb']; omega
        · rcases List.mem_append.mp hb' with hb' | hb'
          · exact hbs b hb'
          · rw [List.mem_singleton.mp hb']; omega
      · simp [e5, hM'.imm, m6.imm, hf2, hc, hle]
        refine hN _ ⟨M6, pl, m6, by omega, fun h => ?_, hb, hbs, hz, rfl⟩
        subst h
        simp [prd] at hc
        omega
    · rintro e ⟨M6, pl, m6, hl1, hl2, hb, hbs, hz, rfl⟩
      have hne : 1 ≤ pl.length := by
        cases pl with
        | nil =>
          have := hl2 rfl
          simp at this
          omega
        | cons a l => simp
      have t := board_tail fu k m6 most (.tup (ls.map .int)) sh (by omega) (by omega) hs pl hb hbs hne (by simp at hl1; omega) hz K hK
      rw [Kc_nx] at t ⊢
      exact t
end K15
namespace K15
open PySem DI L2
theorem lamps_ok (fu k : Nat) (B : Bd) (h : B.Ok) : callI prog fu (k + 1) "lamps_of" [B.pv] = .ok (.tup ((lampsL B.sh).map .int)) [] := by
  refine call_eq d_lamps_of rfl rfl rfl (by decide) fun K hK => ?_
  simp [d_lamps_of]
  have hf := flat_len 60 fun s hs => (h.ln s hs).1
  have hs := h.sn
  refine K_for B.sh shp [] (fun r e => ∃ acc : List Int, e = [.ro false B.pv, .ow (.lst (acc.map .int)), .un, .un] ∧ acc ++ flat r = flat B.sh) (by simp) ⟨[], rfl, rfl⟩ ?_ ?_
  · rintro s r e N ⟨acc, rfl, h1⟩ hN
    have hl : acc.length + s.2.length ≤ 16000000 := by
      have := congrArg List.length h1
      simp at this
      omega
    simp [hl]
    exact hN _ ⟨acc ++ s.2, by simp, by rw [← h1]; simp⟩
  · rintro e ⟨acc, rfl, h1⟩
    have h1 : acc = flat B.sh := by simpa using h1
    subst h1
    have d1 := ded_len fun s hs => (h.ln s hs).2
    have d2 : (flat B.sh).length ≤ 4000 := by omega
    have d3 : (dedI (flat B.sh)).length < 64 := by omega
    simp [d2, d3]
    apply hK
    simp [lampsL]
theorem nUp_succ (n : Nat) : nUp (n + 1) = nUp n ++ [(n : Int)] := by simp [nUp, List.range_succ]
/-- places and lamps -/
def plsL (l : List Int) (n : Nat) : List (Int × Int) := (nUp n).flatMap fun p => l.map fun x => (p, x)
def pairP (q : Int × Int) : PV := .tup [.int q.1, .int q.2]
@[simp] theorem pairP_imm (q : Int × Int) : (pairP q).imm = true := rfl
@[simp] theorem pairs_imm (l : List (Int × Int)) : immL (l.map pairP) = true := immL_map _ _ fun _ _ => rfl
theorem plsL_len (l : List Int) : ∀ n, (plsL l n).length = n * l.length
  | 0 => by simp [plsL, nUp]
  | n + 1 => by
    have := plsL_len l n
    unfold plsL at this ⊢
    rw [nUp_succ, List.flatMap_append, List.length_append, this]
    simp [Nat.add_mul]
theorem board_lamps_ok (fu k : Nat) (B : Bd) (h : B.Ok) : callI prog fu (k + 2) "board_lamps" [B.pv] = .ok (.tup ((plsL (lampsL B.sh) B.pl.length).map pairP)) [] := by
  refine call_eq d_board_lamps rfl rfl rfl (by decide) fun K hK => ?_
  simp [d_board_lamps]
  have hn := h.pn
  have hl := lampsL_len fun s hs => (h.ln s hs).2
  refine K_rng 0 B.pl.length (fun i e => e = [.ro false B.pv, .ow (.lst ((plsL (lampsL B.sh) i).map pairP)), .un, .un]) ?_ rfl ?_ ?_
  · have hf : fits62 (B.pl.length : Int) = true := fits62_of (by omega) (by omega)
    simp [hf]
  · rintro i e N hi rfl hN
    simp
    rw [comp_pure (lampsL B.sh) .int [] (fun _ => true) (fun x => pairP (i, x))]
    · have h1 : (plsL (lampsL B.sh) i).length + (lampsL B.sh).length ≤ 16000000 := by
        rw [plsL_len]
        have : i * (lampsL B.sh).length ≤ 60 * 12 := Nat.mul_le_mul (by omega) hl
        omega
      have h2 : immL ((lampsL B.sh).map fun x => pairP (i, x)) = true := immL_map _ _ fun _ _ => rfl
      simp [h1, h2]
      apply hN
      simp [plsL, nUp_succ]
    · simp [lamps_ok fu k B h]
    · simp
    · simp
    · omega
    · intro a ha
      simp [pairP]
  · rintro e rfl
    simp
    apply hK
    simp
theorem BoA.ok {B : Bd} (h : BoA B) : B.Ok := ⟨fun b hb => by have := h.b1 b hb; omega, by have := h.p4; omega, by have := h.sz; omega, by have := h.sn; omega, fun s hs => ⟨by
  have := asc_len (b := 12) (a := 0) (h.ln s hs).1 (fun x hx => by have := (h.ln s hs).2 x hx; omega)
  omega, (h.ln s hs).2⟩, by have := h.st; omega⟩
theorem mem_plsL {l : List Int} {n : Nat} {q : Int × Int} : q ∈ plsL l n ↔ (0 ≤ q.1 ∧ q.1 < n) ∧ q.2 ∈ l := by
  unfold plsL
  rw [List.mem_flatMap]
  constructor
  · rintro ⟨p, hp, hq⟩
    obtain ⟨x, hx, rfl⟩ := List.mem_map.mp hq
    exact ⟨mem_nUp.mp hp, hx⟩
  · rintro ⟨h1, h2⟩
    exact ⟨q.1, mem_nUp.mpr h1, List.mem_map.mpr ⟨q.2, h2, rfl⟩⟩
theorem plain_pairs (l : List (Int × Int)) : plainL (l.map pairP) = true := plainL_map _ _ fun _ _ => rfl
theorem memV_pairs (q : Int × Int) : ∀ l : List (Int × Int), memV (pairP q) (l.map pairP) = decide (q ∈ l)
  | [] => rfl
  | a :: l => by
    have ih := memV_pairs q l
    unfold memV at ih ⊢
    rw [List.map_cons, List.any_cons, ih]
    have : (pairP a).eqv (pairP q) = decide (q = a) := by
      obtain ⟨a1, a2⟩ := a
      obtain ⟨q1, q2⟩ := q
      show ((a1 == q1) && ((a2 == q2) && true)) = decide ((q1, q2) = (a1, a2))
      by_cases h1 : a1 = q1
      · by_cases h2 : a2 = q2
        · subst h1; subst h2; simp
        · rw [decide_eq_false fun e => h2 (Prod.mk.inj e).2.symm]
          simp [h2]
      · rw [decide_eq_false fun e => h1 (Prod.mk.inj e).1.symm]
        simp [h1]
    rw [this]
    by_cases h : q = a <;> simp [h]
theorem depth_pairs : ∀ l : List (Int × Int), depthL (l.map pairP) ≤ 1
  | [] => by simp [depthL]
  | a :: l => by
    have := depth_pairs l
    simp [depthL, pairP, PV.depth]
    omega
theorem inOk_pairs (q : Int × Int) (l : List (Int × Int)) : inOk (pairP q) (l.map pairP) = true := by
  have := depth_pairs l
  unfold inOk
  rw [plain_pairs]
  simp [pairP, PV.depth, depthL]
  omega
theorem notin_tup (x y : Int) (l : List (Int × Int)) : cmpI .NotIn (.tup [.int x, .int y]) (.tup (l.map pairP)) = some (.bl (!decide ((x, y) ∈ l))) := by
  have h1 := inOk_pairs (x, y) l
  have h2 := memV_pairs (x, y) l
  show (if inOk (pairP (x, y)) (l.map pairP) = true then some (PV.bl (!(memV (pairP (x, y)) (l.map pairP)))) else none) = _
  rw [if_pos h1, h2]
theorem notin_lst (x y : Int) (l : List (Int × Int)) : cmpI .NotIn (.tup [.int x, .int y]) (.lst (l.map pairP)) = some (.bl (!decide ((x, y) ∈ l))) := by
  have h1 := inOk_pairs (x, y) l
  have h2 := memV_pairs (x, y) l
  show (if inOk (pairP (x, y)) (l.map pairP) = true then some (PV.bl (!(memV (pairP (x, y)) (l.map pairP)))) else none) = _
  rw [if_pos h1, h2]
/-- a list of ints, or one that is empty for ever -/
def LsI (V : PV) (acc : List Int) (b : Prop) : Prop := V = .lst (acc.map .int) ∨ (V = .fls [] ∧ acc = [] ∧ b)
theorem LsI.add {V : PV} {acc : List Int} {b : Prop} (h : LsI V acc b) {L : List Int} (hz : acc.length + L.length ≤ sizeLine) : binI .Add V (.lst (L.map .int)) = some (.lst ((acc ++ L).map .int)) := by
  rcases h with rfl | ⟨rfl, rfl, _⟩
  · simp [hz]
  · simp at hz
    simp [hz]
theorem LsI.nin {V : PV} {acc : List Int} {b : Prop} (h : LsI V acc b) (a : Int) : cmpI .NotIn (.int a) V = some (.bl (!decide (a ∈ acc))) := by
  rcases h with rfl | ⟨rfl, rfl, _⟩
  · simp
  · rfl
def LsP (V : PV) (acc : List (Int × Int)) (b : Prop) : Prop := V = .lst (acc.map pairP) ∨ (V = .fls [] ∧ acc = [] ∧ b)
theorem LsP.add {V : PV} {acc : List (Int × Int)} {b : Prop} (h : LsP V acc b) {L : List (Int × Int)} (hz : acc.length + L.length ≤ sizeLine) : binI .Add V (.lst (L.map pairP)) = some (.lst ((acc ++ L).map pairP)) := by
  rcases h with rfl | ⟨rfl, rfl, _⟩
  · simp [hz]
  · simp at hz
    simp [hz]
/-- the lamps as the law counts them -/
theorem law_lamps_ok (fu k : Nat) (B : Bd) (h : BoA B) : ∃ U : List Int, (∀ x, x ∈ U ↔ x ∈ lampsL B.sh) ∧ U.length ≤ 144 ∧ callI prog fu (k + 1) "_law_lamps" [B.pv] = .ok (.lst ((plsL U B.pl.length).map pairP)) [] := by
  refine call_K d_law_lamps (fun r => ∃ U : List Int, (∀ x, x ∈ U ↔ x ∈ lampsL B.sh) ∧ U.length ≤ 144 ∧ r = .ok (.lst ((plsL U B.pl.length).map pairP)) []) rfl rfl rfl (by decide) fun K hK => ?_
  have hs := h.sn
  have hs2 := h.s2
  have hp := h.p4
  have hp1 := h.p1
  have hO := h.ok
  have hln : ∀ s ∈ B.sh, s.2.length ≤ 12 := fun s hs => by
    have := asc_len (b := 12) (a := 0) (h.ln s hs).1 (fun x hx => by have := (h.ln s hs).2 x hx; omega)
    omega
  simp [d_law_lamps]
  refine K_for B.sh shp [] (fun r e => ∃ (V : PV) (acc : List Int) (s5 : Slot), LsI V acc (r = B.sh) ∧ (s5 = .un ∨ ∃ x : Int, s5 = .ow (.int x)) ∧ (∀ x, (x ∈ acc ∨ ∃ s ∈ r, x ∈ s.2) ↔ ∃ s ∈ B.sh, x ∈ s.2) ∧ (∀ s ∈ r, s.2.length ≤ 12) ∧ acc.length + 12 * r.length ≤ 144 ∧ e = [.ro false B.pv, .ow V, .ow (.fls []), .un, .un, s5, .un]) (by simp) ⟨_, [], .un, .inr ⟨rfl, rfl, rfl⟩, .inl rfl, fun x => by simp, hln, by simp; omega, rfl⟩ ?_ ?_
  · rintro s r e N ⟨V, acc, s5, hV, hs5, h1, h2, h3, rfl⟩ hN
    have hl := h2 s List.mem_cons_self
    have hf := List.length_filter_le (fun x => !decide (x ∈ acc)) s.2
    simp at h3
    have hfx : s5.fix = false := by rcases hs5 with rfl | ⟨x, rfl⟩ <;> rfl
    have hz : acc.length + (s.2.filter fun x => !decide (x ∈ acc)).length ≤ sizeLine := by rw [sizeLine_eq]; omega
    have fin := hN [.ro false B.pv, .ow (.lst ((acc ++ s.2.filter fun x => !decide (x ∈ acc)).map .int)), .ow (.fls []), .un, .un, s5, .un] ⟨_, _, s5, .inl rfl, hs5, fun x => by
      rw [← h1 x]
      simp
      by_cases hx : x ∈ acc <;> simp [hx], fun c hc => h2 c (List.mem_cons_of_mem _ hc), by simp; omega, rfl⟩
    have ha := hV.add hz
    have hn := hV.nin
    simp [hfx]
    rw [comp_pure s.2 .int [] (fun x => !decide (x ∈ acc)) .int]
    rotate_left
    · simp
    · rcases hs5 with rfl | ⟨x, rfl⟩ <;> simp
    · simp [hfx]
    · omega
    · intro a _
      simp [hn]
    simp [ha, hfx]
    simpa using fin
  · rintro e ⟨V, U, s5, hV, hs5, h1, _, h3, rfl⟩
    have hV : V = .lst (U.map .int) := by
      rcases hV with hV | ⟨_, _, hb⟩
      · exact hV
      · rw [← hb] at hs2; simp at hs2
    subst hV
    have hU : ∀ x, x ∈ sortI U ↔ x ∈ lampsL B.sh := fun x => by
      rw [mem_sortI', mem_lampsL, ← h1 x]
      simp
    simp at h3
    have hf : fits62 (B.pl.length : Int) = true := fits62_of (by omega) (by omega)
    have hfx : s5.fix = false := by rcases hs5 with rfl | ⟨x, rfl⟩ <;> rfl
    simp
    refine K_rng 0 B.pl.length (fun i e => ∃ (V : PV) (s5 : Slot), LsP V (plsL (sortI U) i) (i = 0) ∧ (s5 = .un ∨ ∃ x : Int, s5 = .ow (.int x)) ∧ e = [.ro false B.pv, .ow (.lst (U.map .int)), .ow V, .un, .un, s5, .un]) (by simp [hf]) ⟨_, s5, .inr ⟨rfl, by simp [plsL, nUp], rfl⟩, hs5, rfl⟩ ?_ ?_
    · rintro i e N hi ⟨V, s5, hV, hs5, rfl⟩ hN
      have hfx : s5.fix = false := by rcases hs5 with rfl | ⟨x, rfl⟩ <;> rfl
      have hsz : (plsL (sortI U) i).length + ((sortI U).map fun x => ((i : Int), x)).length ≤ sizeLine := by
        rw [plsL_len, List.length_map, sortI_len, sizeLine_eq]
        have : i * U.length ≤ 4 * 720 := Nat.mul_le_mul (by omega) (by omega)
        omega
      have ha := hV.add hsz
      rw [List.map_map] at ha
      simp [hfx]
      rw [comp_pure (sortI U) .int [] (fun _ => true) (fun x => pairP (i, x))]
      rotate_left
      · simp
      · rcases hs5 with rfl | ⟨x, rfl⟩ <;> simp
      · simp [hfx]
      · rw [sortI_len]; omega
      · intro a _
        simp [pairP]
      rw [filter_tt]
      simp [Function.comp_def] at ha
      simp [ha, hfx]
      exact hN _ ⟨_, s5, .inl (by simp [plsL, nUp_succ, Function.comp_def]), hs5, rfl⟩
    · rintro e ⟨V, s5, hV, hs5, rfl⟩
      have hV : V = .lst ((plsL (sortI U) B.pl.length).map pairP) := by
        rcases hV with hV | ⟨_, _, hb⟩
        · exact hV
        · omega
      subst hV
      simp
      apply hK
      exact ⟨sortI U, hU, by rw [sortI_len]; omega, by simp⟩
end K15
namespace K15
open PySem DI L2
def isI : PV → Bool
  | .int _ => true
  | _ => false
def isB : PV → Bool
  | .bl _ => true
  | _ => false
def isT : PV → Bool
  | .tup _ => true
  | _ => false
theorem isi_int {v : PV} (h : v.imm = true) : isiI prog v [.int] = some (isI v || isB v) := by
  cases v <;> first | (simp at h; done) | simp [isI, isB]
theorem isi_bool {v : PV} (h : v.imm = true) : isiI prog v [.bool] = some (isB v) := by
  cases v <;> first | (simp at h; done) | simp [isB]
theorem isi_tuple {v : PV} (h : v.imm = true) : isiI prog v [.tuple] = some (isT v) := by
  cases v <;> first | (simp at h; done) | simp [isT]
theorem isB_I {v : PV} (h : isB v = true) : isI v = false := by cases v <;> simp [isB, isI] at h ⊢
theorem isI_eq {v : PV} (h : isI v = true) : ∃ x, v = .int x := by
  cases v with
  | int x => exact ⟨x, rfl⟩
  | _ => simp [isI] at h
theorem isB_eq {v : PV} (h : isB v = true) : ∃ x, v = .bl x := by
  cases v with
  | bl x => exact ⟨x, rfl⟩
  | _ => simp [isB] at h
theorem isT_eq {v : PV} (h : isT v = true) : ∃ vs, v = .tup vs := by
  cases v with
  | tup vs => exact ⟨vs, rfl⟩
  | _ => simp [isT] at h
theorem int_ok (fu k : Nat) {v : PV} (h : v.imm = true) : callI prog fu (k + 1) "is_integer" [v] = .ok (.bl (isI v)) [] := by
  refine call_eq d_is_integer rfl rfl rfl (by decide) fun K hK => ?_
  cases hB : isB v with
  | true =>
    simp [d_is_integer, isi_int h, isi_bool h, hB, isB_I hB, h]
    apply hK
    simp [isB_I hB]
  | false =>
    cases hI : isI v with
    | true =>
      simp [d_is_integer, isi_int h, isi_bool h, hB, hI, h]
      apply hK
      simp [hI]
    | false =>
      simp [d_is_integer, isi_int h, isi_bool h, hB, hI, h]
      apply hK
      simp [hI]
def isTn (v : PV) (n : Int) : Bool := match v with
  | .tup vs => decide ((vs.length : Int) = n)
  | _ => false
theorem tuple_ok (fu k : Nat) {v : PV} (h : v.imm = true) (n : Int) : callI prog fu (k + 1) "is_tuple" [v, .int n] = .ok (.bl (isTn v n)) [] := by
  refine call_eq d_is_tuple rfl rfl rfl (by decide) fun K hK => ?_
  cases hT : isT v with
  | true =>
    obtain ⟨vs, rfl⟩ := isT_eq hT
    by_cases hn : (vs.length : Int) = n
    · simp [d_is_tuple, isi_tuple h, hT, h, hn]
      apply hK
      simp [isTn, hn]
    · simp [d_is_tuple, isi_tuple h, hT, h, hn]
      apply hK
      simp [isTn, hn]
  | false =>
    simp [d_is_tuple, isi_tuple h, hT, h]
    apply hK
    cases v <;> first | (simp [isT] at hT; done) | simp [isTn]
def isW (v : PV) (lo hi : Int) : Bool := match v with
  | .int x => decide (lo ≤ x ∧ x ≤ hi)
  | _ => false
theorem within_ok (fu k : Nat) {v : PV} (h : v.imm = true) (lo hi : Int) : callI prog fu (k + 2) "integer_within" [v, .int lo, .int hi] = .ok (.bl (isW v lo hi)) [] := by
  refine call_eq d_integer_within rfl rfl rfl (by decide) fun K hK => ?_
  have e := int_ok fu k h
  cases hI : isI v with
  | true =>
    rw [hI] at e
    obtain ⟨x, rfl⟩ := isI_eq hI
    by_cases h1 : lo ≤ x
    · by_cases h2 : x ≤ hi
      · simp [d_integer_within, e, h1, h2]
        apply hK
        simp [isW, h1, h2]
      · simp [d_integer_within, e, h1, h2]
        apply hK
        simp [isW, h1, h2]
    · simp [d_integer_within, e, h1]
      apply hK
      simp [isW, h1]
  | false =>
    rw [hI] at e
    simp [d_integer_within, e, h]
    apply hK
    cases v <;> first | (simp [isI] at hI; done) | simp [isW]
def isN (v : PV) : Bool := match v with
  | .int x => decide (0 ≤ x)
  | _ => false
theorem number_ok (fu k : Nat) {v : PV} (h : v.imm = true) : callI prog fu (k + 1) "_law_is_number" [v] = .ok (.bl (isN v)) [] := by
  refine call_eq d_law_is_number rfl rfl rfl (by decide) fun K hK => ?_
  cases hI : isI v with
  | true =>
    obtain ⟨x, rfl⟩ := isI_eq hI
    by_cases h1 : 0 ≤ x
    · simp [d_law_is_number, h1]
      apply hK
      simp [isN, h1]
    · simp [d_law_is_number, h1]
      apply hK
      simp [isN, h1]
  | false =>
    cases hB : isB v with
    | true =>
      simp [d_law_is_number, isi_int h, isi_bool h, hI, hB, h]
      apply hK
      cases v <;> first | (simp [isB] at hB; done) | simp [isN]
    | false =>
      simp [d_law_is_number, isi_int h, isi_bool h, hI, hB, h]
      apply hK
      cases v <;> first | (simp [isI] at hI; done) | simp [isN]
/-- place and lamp of a row that is well formed -/
def tri (v : PV) : Option (Int × Int) := match v with
  | .tup [.int x, .int y, .bl _] => if 0 ≤ x ∧ 0 ≤ y then some (x, y) else none
  | _ => none
theorem shape3 (v : PV) : (isTn v 3 = false ∧ tri v = none) ∨ ∃ a b c, v = .tup [a, b, c] := by
  cases v with
  | tup vs =>
    match vs with
    | [] => exact .inl ⟨by simp [isTn], rfl⟩
    | [a] => exact .inl ⟨by simp [isTn], by cases a <;> rfl⟩
    | [a, b] => exact .inl ⟨by simp [isTn], by cases a <;> first | rfl | (cases b <;> rfl)⟩
    | [a, b, c] => exact .inr ⟨a, b, c, rfl⟩
    | a :: b :: c :: d :: r => exact .inl ⟨by simp [isTn]; omega, by cases a <;> first | rfl | (cases b <;> first | rfl | (cases c <;> rfl))⟩
  | _ => exact .inl ⟨by simp [isTn], rfl⟩
theorem tri_not {a b c : PV} (h : isI a = false ∨ isI b = false ∨ isB c = false) : tri (.tup [a, b, c]) = none := by
  cases a with
  | int x =>
    cases b with
    | int y =>
      cases c with
      | bl z => simp [isI, isB] at h
      | _ => rfl
    | _ => rfl
  | _ => rfl
theorem tri_int (x y : Int) (z : Bool) : tri (.tup [.int x, .int y, .bl z]) = if 0 ≤ x ∧ 0 ≤ y then some (x, y) else none := rfl
theorem ix3_0 (a b c : PV) : ixI (.tup [a, b, c]) (.int 0) = some a := rfl
theorem ix3_1 (a b c : PV) : ixI (.tup [a, b, c]) (.int 1) = some b := rfl
theorem ix3_2 (a b c : PV) : ixI (.tup [a, b, c]) (.int 2) = some c := rfl
theorem sl3 (x y : Int) (z : Bool) : slI (.tup [.int x, .int y, .bl z]) none (some 2) = some (.tup [.int x, .int y]) := rfl
def leQ (q p : Int × Int) : Bool := leP q.1 q.2 p.1 p.2
/-- what is wrong with the row at j -/
def wd (L : List (Int × Int)) (rs : List PV) (j : Nat) : Option Str := match tri (rs[j]?.getD .non) with
  | none => some "triple"
  | some q => if q ∈ L then (if 0 < j ∧ ((tri (rs[j - 1]?.getD .non)).elim false (leQ q)) = true then some "above" else none) else some "lamp"
def oW : Option Str → PV
  | none => .non
  | some w => .str w
theorem tri_eq {v : PV} {q : Int × Int} (h : tri v = some q) : ∃ z, v = .tup [.int q.1, .int q.2, .bl z] ∧ 0 ≤ q.1 ∧ 0 ≤ q.2 := by
  rcases shape3 v with ⟨_, h2⟩ | ⟨a, b, c, rfl⟩
  · rw [h2] at h; cases h
  · by_cases hn : isI a = false ∨ isI b = false ∨ isB c = false
    · rw [tri_not hn] at h; cases h
    · simp only [not_or, Bool.not_eq_false] at hn
      obtain ⟨x, rfl⟩ := isI_eq hn.1
      obtain ⟨y, rfl⟩ := isI_eq hn.2.1
      obtain ⟨z, rfl⟩ := isB_eq hn.2.2
      rw [tri_int] at h
      split at h
      · cases h; rename_i h0; exact ⟨z, rfl, h0.1, h0.2⟩
      · cases h
theorem word_ok (fu k : Nat) (B : Bd) (h : BoA B) (rs : List PV) (hi : immL rs = true) (j : Nat) (hj : j < rs.length) (hp : 0 < j → ∃ q, tri (rs[j - 1]?.getD .non) = some q) :
    callI prog fu (k + 3) "triple_word" [B.pv, .tup rs, .int j] = .ok (oW (wd (plsL (lampsL B.sh) B.pl.length) rs j)) [] := by
  refine call_eq d_triple_word rfl rfl rfl (by decide) fun K hK => ?_
  obtain ⟨r, hr⟩ : ∃ r, rs[j]? = some r := ⟨rs[j], by simp [hj]⟩
  have hx := ix_tup hr
  have hri : r.imm = true := immL_mem hi (List.mem_of_getElem? hr)
  have e0 := tuple_ok fu (k + 1) hri 3
  have e1 := board_lamps_ok fu k B h.ok
  have hrs : (PV.tup rs).imm = true := by simpa using hi
  rcases shape3 r with ⟨h1, h2⟩ | ⟨a, b, c, rfl⟩
  · rw [h1] at e0
    simp [d_triple_word, hx, hri, e0, hi, -pb_ixI_1, -pb_isiI_3]
    apply hK
    simp [wd, hr, h2, oW]
  · have hT : isTn (.tup [a, b, c]) 3 = true := by simp [isTn]
    rw [hT] at e0
    have hab : a.imm = true ∧ b.imm = true ∧ c.imm = true := by simpa using hri
    obtain ⟨ha, hb, hc⟩ := hab
    have f0 := int_ok fu (k + 1) ha
    have f1 := int_ok fu (k + 1) hb
    by_cases hn : isI a = false ∨ isI b = false ∨ isB c = false
    · have hw := tri_not hn
      by_cases n0 : isI a = false
      · simp [d_triple_word, hx, ha, hb, hc, e0, hi, f0, n0, ix3_0, -pb_ixI_1, -pb_isiI_3]
        apply hK
        simp [wd, hr, hw, oW]
      · simp only [Bool.not_eq_false] at n0
        by_cases n1 : isI b = false
        · simp [d_triple_word, hx, ha, hb, hc, e0, hi, f0, f1, n0, n1, ix3_0, ix3_1, -pb_ixI_1, -pb_isiI_3]
          apply hK
          simp [wd, hr, hw, oW]
        · simp only [Bool.not_eq_false] at n1
          have n2 : isB c = false := by simpa [n0, n1] using hn
          simp [d_triple_word, hx, ha, hb, hc, e0, hi, f0, f1, n0, n1, n2, ix3_0, ix3_1, ix3_2, isi_bool hc, -pb_ixI_1, -pb_isiI_3]
          apply hK
          simp [wd, hr, hw, oW]
    · simp only [not_or, Bool.not_eq_false] at hn
      obtain ⟨n0, n1, n2⟩ := hn
      obtain ⟨x, rfl⟩ := isI_eq n0
      obtain ⟨y, rfl⟩ := isI_eq n1
      obtain ⟨z, rfl⟩ := isB_eq n2
      have hw := tri_int x y z
      have g0 := notin_tup x y (plsL (lampsL B.sh) B.pl.length)
      simp [isI] at f0 f1
      by_cases p0 : x < 0
      · have : ¬ (0 ≤ x ∧ 0 ≤ y) := by omega
        rw [if_neg this] at hw
        simp [d_triple_word, hx, e0, hi, f0, f1, p0, ix3_0, ix3_1, ix3_2, -pb_ixI_1]
        apply hK
        simp [wd, hr, hw, oW]
      · by_cases p1 : y < 0
        · have : ¬ (0 ≤ x ∧ 0 ≤ y) := by omega
          rw [if_neg this] at hw
          simp [d_triple_word, hx, e0, hi, f0, f1, p0, p1, ix3_0, ix3_1, ix3_2, -pb_ixI_1]
          apply hK
          simp [wd, hr, hw, oW]
        · have : 0 ≤ x ∧ 0 ≤ y := by omega
          rw [if_pos this] at hw
          by_cases hm : (x, y) ∈ plsL (lampsL B.sh) B.pl.length
          · by_cases hj0 : 0 < j
            · obtain ⟨q, hq⟩ := hp hj0
              obtain ⟨z', hz', _⟩ := tri_eq hq
              have hr1 : rs[j - 1]? = some (.tup [.int q.1, .int q.2, .bl z']) := by
                have : j - 1 < rs.length := by omega
                rw [List.getElem?_eq_getElem this] at hz'
                rw [List.getElem?_eq_getElem this]
                simpa using hz'
              have hx1 := ix_tup hr1
              rw [show ((j - 1 : Nat) : Int) = (j : Int) - 1 by omega] at hx1
              have hs1 := sl3 q.1 q.2 z'
              have hs0 := sl3 x y z
              have hfj : (0 : Int) < j := by omega
              by_cases hle : leP x y q.1 q.2 = true
              · simp [d_triple_word, hx, e0, hi, f0, f1, p0, p1, ix3_0, ix3_1, ix3_2, sl3, e1, g0, hm, hj0, hx1, hs1, hfj, hle, -pb_ixI_1, -pb_slI_1]
                apply hK
                simp [wd, hr, hw, hm, hj0, hq, leQ, hle, oW]
              · simp [d_triple_word, hx, e0, hi, f0, f1, p0, p1, ix3_0, ix3_1, ix3_2, sl3, e1, g0, hm, hj0, hx1, hs1, hfj, hle, -pb_ixI_1, -pb_slI_1]
                apply hK
                simp [wd, hr, hw, hm, hj0, hq, leQ, hle, oW]
            · have hj1 : j = 0 := by omega
              subst hj1
              rw [show ((0 : Nat) : Int) = 0 from rfl] at hx
              simp [d_triple_word, hx, e0, hi, f0, f1, p0, p1, ix3_0, ix3_1, ix3_2, sl3, e1, g0, hm, -pb_ixI_1, -pb_slI_1]
              apply hK
              simp [wd, hr, hw, hm, oW]
          · simp [d_triple_word, hx, e0, hi, f0, f1, p0, p1, ix3_0, ix3_1, ix3_2, sl3, e1, g0, hm, -pb_ixI_1, -pb_slI_1]
            apply hK
            simp [wd, hr, hw, hm, oW]
end K15
namespace K15
open PySem DI L2
def ffN (w : Nat → Option Str) : Nat → Option (Nat × Str)
  | 0 => none
  | n + 1 => match ffN w n with
    | some r => some r
    | none => (w n).map fun x => (n, x)
theorem ffN_succ {w : Nat → Option Str} {n : Nat} (h : ffN w n = none) : ffN w (n + 1) = (w n).map fun x => (n, x) := by
  unfold ffN; rw [h]
theorem ffN_mono {w : Nat → Option Str} {r : Nat × Str} {i : Nat} (h : ffN w i = some r) : ∀ n, i ≤ n → ffN w n = some r := by
  intro n
  induction n with
  | zero => intro hn; rw [show i = 0 by omega] at h; exact h
  | succ n ih =>
    intro hn
    by_cases e : i = n + 1
    · rw [← e]; exact h
    · unfold ffN; rw [ih (by omega)]
theorem ffN_none {w : Nat → Option Str} {n : Nat} (h : ffN w n = none) : ∀ j, j < n → w j = none := by
  induction n with
  | zero => intro j hj; omega
  | succ n ih =>
    intro j hj
    cases e : ffN w n with
    | some r => rw [ffN_mono e (n + 1) (by omega)] at h; cases h
    | none =>
      by_cases hjn : j = n
      · rw [ffN_succ e] at h
        rw [hjn]
        cases hw : w n with
        | none => rfl
        | some x => rw [hw] at h; cases h
      · exact ih e j (by omega)
/-- the first fault of rows -/
def ff (L : List (Int × Int)) (rs : List PV) : Option (Nat × Str) := ffN (wd L rs) rs.length
def ffP : Option (Nat × Str) → PV
  | none => .non
  | some (j, x) => .tup [.int j, .str x]
theorem wd_none {L : List (Int × Int)} {rs : List PV} {j : Nat} (h : wd L rs j = none) : ∃ q, tri (rs[j]?.getD .non) = some q ∧ q ∈ L := by
  unfold wd at h
  cases e : tri (rs[j]?.getD .non) with
  | none => rw [e] at h; cases h
  | some q =>
    rw [e] at h
    refine ⟨q, rfl, ?_⟩
    by_cases hm : q ∈ L
    · exact hm
    · simp [hm] at h
theorem brk_ok (fu k : Nat) (B : Bd) (h : BoA B) (rs : List PV) (hi : immL rs = true) (hl : rs.length ≤ 1000) : callI prog fu (k + 4) "breakage_fault" [B.pv, .tup rs] = .ok (ffP (ff (plsL (lampsL B.sh) B.pl.length) rs)) [] := by
  refine call_eq d_breakage_fault rfl rfl rfl (by decide) fun K hK => ?_
  have hf : fits62 (rs.length : Int) = true := fits62_of (by omega) (by omega)
  simp [d_breakage_fault, hi]
  refine K_rng 0 rs.length (fun i e => i ≤ rs.length ∧ ffN (wd (plsL (lampsL B.sh) B.pl.length) rs) i = none ∧ e = [.ro false B.pv, .ro false (.tup rs), .un, .un]) (by simp [hf, hi]) ⟨by omega, rfl, rfl⟩ ?_ ?_
  · rintro i e N hin ⟨_, h0, rfl⟩ hN
    have e1 := word_ok fu k B h rs hi i hin fun hp => by
      obtain ⟨q, hq, _⟩ := wd_none (ffN_none h0 (i - 1) (by omega))
      exact ⟨q, hq⟩
    cases hw : wd (plsL (lampsL B.sh) B.pl.length) rs i with
    | none =>
      rw [hw] at e1
      simp [oW] at e1
      simp [e1, hi]
      exact hN _ ⟨by omega, by rw [ffN_succ h0, hw]; rfl, rfl⟩
    | some x =>
      rw [hw] at e1
      simp [oW] at e1
      have hff : ff (plsL (lampsL B.sh) B.pl.length) rs = some (i, x) := ffN_mono (i := i + 1) (by rw [ffN_succ h0, hw]; rfl) _ (by omega)
      simp [e1, hi]
      apply hK
      simp [hff, ffP]
  · rintro e ⟨_, h0, rfl⟩
    have hff : ff (plsL (lampsL B.sh) B.pl.length) rs = none := h0
    simp
    apply hK
    simp [hff, ffP]
theorem wd_congr {L L' : List (Int × Int)} (h : ∀ q, q ∈ L ↔ q ∈ L') (rs : List PV) (j : Nat) : wd L rs j = wd L' rs j := by
  unfold wd
  cases tri (rs[j]?.getD .non) with
  | none => rfl
  | some q => simp only [h q]
def rzP : Option (Nat × Str) → PV
  | none => .non
  | some (j, x) => .tup [.str "raised", .int j, .str x]
theorem shapeT {v : PV} : (isT v = false ∧ tri v = none) ∨ (∃ vs, v = .tup vs ∧ ¬ (vs.length : Int) = 3 ∧ tri v = none) ∨ ∃ a b c, v = .tup [a, b, c] := by
  rcases shape3 v with ⟨h1, h2⟩ | h3
  · cases hT : isT v with
    | false => exact .inl ⟨rfl, h2⟩
    | true =>
      obtain ⟨vs, rfl⟩ := isT_eq hT
      exact .inr (.inl ⟨vs, rfl, by simpa [isTn] using h1, h2⟩)
  · exact .inr (.inr h3)
theorem tri_numN {a b c : PV} (hc : isB c = true) (h : isN a = false ∨ isN b = false) : tri (.tup [a, b, c]) = none := by
  obtain ⟨z, rfl⟩ := isB_eq hc
  cases a with
  | int x =>
    cases b with
    | int y =>
      rw [tri_int, if_neg]
      rintro ⟨h1, h2⟩
      simp [isN, h1, h2] at h
    | _ => rfl
  | _ => rfl
theorem law_triples_ok (fu k : Nat) (B : Bd) (h : BoA B) (rs : List PV) (hi : immL rs = true) (hl : rs.length ≤ 1000) : callI prog fu (k + 2) "_law_triples" [B.pv, .tup rs] = .ok (rzP (ff (plsL (lampsL B.sh) B.pl.length) rs)) [] := by
  refine call_eq d_law_triples rfl rfl rfl (by decide) fun K hK => ?_
  obtain ⟨U, hU, _, e0⟩ := law_lamps_ok fu k B h
  have hf : fits62 (rs.length : Int) = true := fits62_of (by omega) (by omega)
  have hcg : ∀ j, wd (plsL U B.pl.length) rs j = wd (plsL (lampsL B.sh) B.pl.length) rs j := wd_congr (fun q => by rw [mem_plsL, mem_plsL, hU]) rs
  obtain ⟨L, hL⟩ : ∃ L, L = plsL U B.pl.length := ⟨_, rfl⟩
  have hff' : ff (plsL (lampsL B.sh) B.pl.length) rs = ff L rs := by
    unfold ff
    rw [hL, funext hcg]
  rw [hff'] at hK
  rw [← hL] at e0
  simp [d_law_triples, e0, hi]
  refine K_rng 0 rs.length (fun i e => i ≤ rs.length ∧ ffN (wd L rs) i = none ∧ ∃ p : Int × Int, ((i = 0 ∧ p = (-1, -1)) ∨ (0 < i ∧ tri (rs[i - 1]?.getD .non) = some p)) ∧ e = [.ro false B.pv, .ro false (.tup rs), .ow (.lst (L.map pairP)), .ow (.tup [.int p.1, .int p.2]), .un, .un]) (by simp [hf, hi]) ⟨by omega, rfl, (-1, -1), .inl ⟨rfl, rfl⟩, rfl⟩ ?_ ?_
  · rintro i e N hin ⟨_, h0, p, hp, rfl⟩ hN
    obtain ⟨r, hr⟩ : ∃ r, rs[i]? = some r := ⟨rs[i], by simp [hin]⟩
    have hx := ix_tup hr
    have hri : r.imm = true := immL_mem hi (List.mem_of_getElem? hr)
    have out : ∀ x, wd L rs i = some x → ff L rs = some (i, x) := fun x hw => ffN_mono (i := i + 1) (by rw [ffN_succ h0, hw]; rfl) _ (by omega)
    rcases shapeT (v := r) with ⟨h1, h2⟩ | ⟨vs, rfl, h1, h2⟩ | ⟨a, b, c, rfl⟩
    · have ho := out "triple" (by simp [wd, hr, h2])
      simp [hx, hri, hi, isi_tuple hri, h1, -pb_ixI_1, -pb_isiI_3]
      apply hK
      simp [ho, rzP]
    · have ho := out "triple" (by simp [wd, hr, h2])
      have hvi : immL vs = true := by simpa using hri
      simp [hx, hvi, hi, h1, -pb_ixI_1]
      apply hK
      simp [ho, rzP]
    · have hab : a.imm = true ∧ b.imm = true ∧ c.imm = true := by simpa using hri
      obtain ⟨ha, hb, hc⟩ := hab
      have f0 := number_ok fu k ha
      have f1 := number_ok fu k hb
      have ht : isiI prog (.tup [a, b, c]) [.tuple] = some true := by rw [isi_tuple hri]; rfl
      cases n2 : isB c with
      | false =>
        have ho := out "triple" (by simp [wd, hr, tri_not (a := a) (b := b) (.inr (.inr n2))])
        simp [hx, ha, hb, hc, hi, isi_bool hc, ht, n2, ix3_2, -pb_ixI_1, -pb_isiI_3]
        apply hK
        simp [ho, rzP]
      | true =>
        by_cases n0 : isN a = false
        · have ho := out "triple" (by simp [wd, hr, tri_numN (a := a) (b := b) n2 (.inl n0)])
          simp [hx, ha, hb, hc, hi, isi_bool hc, ht, n2, f0, n0, ix3_0, ix3_2, -pb_ixI_1, -pb_isiI_3]
          apply hK
          simp [ho, rzP]
        · simp only [Bool.not_eq_false] at n0
          by_cases n1 : isN b = false
          · have ho := out "triple" (by simp [wd, hr, tri_numN (a := a) (b := b) n2 (.inr n1)])
            simp [hx, ha, hb, hc, hi, isi_bool hc, ht, n2, f0, f1, n0, n1, ix3_0, ix3_1, ix3_2, -pb_ixI_1, -pb_isiI_3]
            apply hK
            simp [ho, rzP]
          · simp only [Bool.not_eq_false] at n1
            obtain ⟨x, rfl, hx0⟩ : ∃ x, a = .int x ∧ 0 ≤ x := by
              cases a <;> first | (simp [isN] at n0; done) | exact ⟨_, rfl, by simpa [isN] using n0⟩
            obtain ⟨y, rfl, hy0⟩ : ∃ y, b = .int y ∧ 0 ≤ y := by
              cases b <;> first | (simp [isN] at n1; done) | exact ⟨_, rfl, by simpa [isN] using n1⟩
            obtain ⟨z, rfl⟩ := isB_eq n2
            rw [n0] at f0
            rw [n1] at f1
            have hw : tri (.tup [.int x, .int y, .bl z]) = some (x, y) := by rw [tri_int, if_pos ⟨hx0, hy0⟩]
            have g0 := notin_lst x y L
            have hs0 := sl3 x y z
            by_cases hm : (x, y) ∈ L
            · have hcond : (0 < i ∧ ((tri (rs[i - 1]?.getD .non)).elim false (leQ (x, y))) = true) ↔ leP x y p.1 p.2 = true := by
                rcases hp with ⟨rfl, rfl⟩ | ⟨hi0, hq⟩
                · constructor
                  · rintro ⟨h, _⟩; omega
                  · intro h
                    unfold leP at h
                    rw [if_neg (show ¬ x = -1 by omega)] at h
                    have := of_decide_eq_true h
                    omega
                · rw [hq]
                  exact ⟨fun h => h.2, fun h => ⟨hi0, h⟩⟩
              by_cases hle : leP x y p.1 p.2 = true
              · have ho := out "above" (by simp only [wd, hr, Option.getD_some, hw, hm, if_true, hcond.mpr hle, and_self])
                simp [hx, hi, f0, f1, ix3_0, ix3_1, ix3_2, hs0, g0, hm, hle, -pb_ixI_1, -pb_slI_1]
                apply hK
                simp [ho, rzP]
              · have hnw : wd L rs i = none := by simp only [wd, hr, Option.getD_some, hw, hm, if_true]; rw [if_neg fun hh => hle (hcond.mp hh)]
                simp [hx, hi, f0, f1, ix3_0, ix3_1, ix3_2, hs0, g0, hm, hle, -pb_ixI_1, -pb_slI_1]
                exact hN _ ⟨by omega, by rw [ffN_succ h0, hnw]; rfl, (x, y), .inr ⟨by omega, by simp [hr, hw]⟩, rfl⟩
            · have ho := out "lamp" (by simp [wd, hr, hw, hm])
              simp [hx, hi, f0, f1, ix3_0, ix3_1, ix3_2, hs0, g0, hm, -pb_ixI_1, -pb_slI_1]
              apply hK
              simp [ho, rzP]
  · rintro e ⟨_, h0, p, hp, rfl⟩
    have hff : ff L rs = none := h0
    simp
    apply hK
    simp [hff, rzP]
end K15
namespace K15
open PySem DI L2
abbrev Lb (B : Bd) : List (Int × Int) := plsL (lampsL B.sh) B.pl.length
/-- what is wrong with a story -/
def sF (B : Bd) (v : PV) : Option (Int × Str) := match v with
  | .tup [c, .tup rs] => if isW c B.lo B.hi = true then (if B.br < rs.length then some (-1, "many") else (ff (Lb B) rs).map fun r => ((r.1 : Int), r.2)) else some (-1, "count")
  | _ => some (-1, "form")
def sLen (v : PV) : Int := match v with
  | .tup [_, .tup rs] => rs.length
  | _ => 0
def oS : Option (Int × Str) → PV
  | none => .non
  | some (i, w) => .tup [.int i, .str w]
structure Gd (v : PV) : Prop where
  imm : v.imm = true
  t1 : ∀ vs, v = .tup vs → vs.length ≤ 1000
  t2 : ∀ c rs, v = .tup [c, .tup rs] → rs.length ≤ 1000
theorem shape2 {v : PV} : (isTn v 2 = false ∧ ∀ B, sF B v = some ((-1 : Int), ("form" : Str))) ∨ (∃ c d, v = .tup [c, d] ∧ isT d = false ∧ ∀ B, sF B v = some ((-1 : Int), ("form" : Str))) ∨ ∃ c rs, v = .tup [c, .tup rs] := by
  cases v with
  | tup vs =>
    match vs with
    | [] => exact .inl ⟨by simp [isTn], fun _ => rfl⟩
    | [a] => exact .inl ⟨by simp [isTn], fun _ => rfl⟩
    | [a, b] =>
      cases b with
      | tup rs => exact .inr (.inr ⟨a, rs, rfl⟩)
      | _ => exact .inr (.inl ⟨_, _, rfl, rfl, fun _ => rfl⟩)
    | a :: b :: c :: r => exact .inl ⟨by simp [isTn]; omega, fun _ => by cases b <;> rfl⟩
  | _ => exact .inl ⟨by simp [isTn], fun _ => rfl⟩
theorem ix2_0 (a b : PV) : ixI (.tup [a, b]) (.int 0) = some a := rfl
theorem ix2_1 (a b : PV) : ixI (.tup [a, b]) (.int 1) = some b := rfl
theorem story_ok (fu k : Nat) (B : Bd) (h : BoA B) {v : PV} (g : Gd v) : callI prog fu (k + 5) "story_fault" [B.pv, v] = .ok (oS (sF B v)) [] := by
  refine call_eq d_story_fault rfl rfl rfl (by decide) fun K hK => ?_
  have e0 := tuple_ok fu (k + 3) g.imm 2
  have hv := g.imm
  rcases shape2 (v := v) with ⟨h1, h2⟩ | ⟨c, d, rfl, h1, h2⟩ | ⟨c, rs, rfl⟩
  · rw [h1] at e0
    simp [d_story_fault, e0, hv]
    apply hK
    simp [h2, oS]
  · have hcd : c.imm = true ∧ d.imm = true := by simpa using hv
    rw [show isTn (.tup [c, d]) 2 = true by simp [isTn]] at e0
    simp [d_story_fault, e0, hcd.1, hcd.2, isi_tuple hcd.2, h1, -pb_isiI_3]
    apply hK
    simp [h2, oS]
  · have hcd : c.imm = true ∧ immL rs = true := by simpa using hv
    rw [show isTn (.tup [c, .tup rs]) 2 = true by simp [isTn]] at e0
    have e1 := within_ok fu (k + 2) hcd.1 B.lo B.hi
    have e2 := brk_ok fu k B h rs hcd.2 (g.t2 c rs rfl)
    cases hw : isW c B.lo B.hi with
    | false =>
      rw [hw] at e1
      simp [d_story_fault, e0, hcd.1, hcd.2, e1]
      apply hK
      simp [sF, hw, oS]
    | true =>
      rw [hw] at e1
      by_cases hm : B.br < (rs.length : Int)
      · simp [d_story_fault, e0, hcd.1, hcd.2, e1, hm]
        apply hK
        simp [sF, hw, hm, oS]
      · cases hf : ff (Lb B) rs with
        | none =>
          rw [hf] at e2
          simp [ffP] at e2
          simp [d_story_fault, e0, hcd.1, hcd.2, e1, hm, e2]
          apply hK
          simp [sF, hw, hm, hf, oS]
        | some r =>
          rw [hf] at e2
          simp [ffP] at e2
          simp [d_story_fault, e0, hcd.1, hcd.2, e1, hm, e2]
          apply hK
          simp [sF, hw, hm, hf, oS]
theorem sF_none {B : Bd} {v : PV} (h : sF B v = none) : ∃ c rs, v = .tup [c, .tup rs] ∧ isW c B.lo B.hi = true ∧ ff (Lb B) rs = none := by
  rcases shape2 (v := v) with ⟨_, h2⟩ | ⟨c, d, rfl, _, h2⟩ | ⟨c, rs, rfl⟩
  · rw [h2] at h; cases h
  · rw [h2] at h; cases h
  · refine ⟨c, rs, rfl, ?_⟩
    unfold sF at h
    by_cases hw : isW c B.lo B.hi = true
    · refine ⟨hw, ?_⟩
      simp only [hw, if_true] at h
      by_cases hm : B.br < (rs.length : Int)
      · rw [if_pos hm] at h; cases h
      · rw [if_neg hm] at h
        simpa using h
    · simp [hw] at h
def chkR (o : Option (Int × Str)) (n : Int) : CR := match o with
  | none => .ok (.int n) []
  | some (i, w) => .exc "BadStory" [.int i, .str w] []
theorem check_ok (fu k : Nat) (B : Bd) (h : BoA B) {v : PV} (g : Gd v) : callI prog fu (k + 6) "check_story" [B.pv, v] = chkR (sF B v) (sLen v) := by
  refine call_eq d_check_story rfl rfl rfl (by decide) fun K hK => ?_
  have e0 := story_ok fu k B h g
  have hv := g.imm
  cases hs : sF B v with
  | none =>
    obtain ⟨c, rs, rfl, _⟩ := sF_none hs
    have hcd : c.imm = true ∧ immL rs = true := by simpa using hv
    rw [hs] at e0 hK
    simp [oS] at e0
    simp [d_check_story, e0, hcd.1, hcd.2]
    apply hK
    simp [chkR, sLen]
  | some r =>
    rw [hs] at e0 hK
    simp [oS] at e0
    simp [d_check_story, e0, hv]
    apply hK
    simp [chkR]
theorem is_story_ok (fu k : Nat) (B : Bd) (h : BoA B) {v : PV} (g : Gd v) : callI prog fu (k + 6) "is_story" [B.pv, v] = .ok (.bl (sF B v).isNone) [] := by
  refine call_eq d_is_story rfl rfl rfl (by decide) fun K hK => ?_
  have e0 := story_ok fu k B h g
  have hv := g.imm
  cases hs : sF B v with
  | none =>
    rw [hs] at e0 hK
    simp [oS] at e0
    simp [d_is_story, e0, hv]
    apply hK
    simp
  | some r =>
    rw [hs] at e0 hK
    simp [oS] at e0
    simp [d_is_story, e0, hv]
    apply hK
    simp
def bkO (B : Bd) (v : PV) : Bool := match v with
  | .tup rs => (ff (Lb B) rs).isNone
  | _ => false
theorem is_breakage_ok (fu k : Nat) (B : Bd) (h : BoA B) {v : PV} (hi : v.imm = true) (hl : ∀ rs, v = .tup rs → rs.length ≤ 1000) : callI prog fu (k + 5) "is_breakage" [B.pv, v] = .ok (.bl (bkO B v)) [] := by
  refine call_eq d_is_breakage rfl rfl rfl (by decide) fun K hK => ?_
  cases hT : isT v with
  | false =>
    have hb : bkO B v = false := by cases v <;> first | (simp [isT] at hT; done) | rfl
    simp [d_is_breakage, isi_tuple hi, hT, hi, -pb_isiI_3]
    apply hK
    simp [hb]
  | true =>
    obtain ⟨rs, rfl⟩ := isT_eq hT
    have hrs : immL rs = true := by simpa using hi
    have e2 := brk_ok fu k B h rs hrs (hl rs rfl)
    cases hf : ff (Lb B) rs with
    | none =>
      rw [hf] at e2
      simp [ffP] at e2
      simp [d_is_breakage, hrs, e2]
      apply hK
      simp [bkO, hf]
    | some r =>
      rw [hf] at e2
      simp [ffP] at e2
      simp [d_is_breakage, hrs, e2]
      apply hK
      simp [bkO, hf]
/-- what is to be heard -/
def dueP (o : Option (Int × Str)) (n : Int) : PV := match o with
  | none => .tup [.str "told", .int n]
  | some (i, w) => .tup [.str "raised", .int i, .str w]
theorem heard_ok (fu k : Nat) (B : Bd) (h : BoA B) {v : PV} (g : Gd v) : callI prog fu (k + 7) "_law_heard" [B.pv, v] = .ok (dueP (sF B v) (sLen v)) [] := by
  refine call_eq d_law_heard rfl rfl rfl (by decide) fun K hK => ?_
  have e0 := check_ok fu k B h g
  have hv := g.imm
  cases hs : sF B v with
  | none =>
    rw [hs] at e0 hK
    simp [chkR] at e0
    simp [d_law_heard, e0, hv]
    apply hK
    simp [dueP]
  | some r =>
    rw [hs] at e0 hK
    simp [chkR] at e0
    simp [d_law_heard, e0, hv]
    apply hK
    simp [dueP]
theorem due_ok (fu k : Nat) (B : Bd) (h : BoA B) {v : PV} (g : Gd v) : callI prog fu (k + 3) "_law_due" [B.pv, v] = .ok (dueP (sF B v) (sLen v)) [] := by
  refine call_eq d_law_due rfl rfl rfl (by decide) fun K hK => ?_
  have hv := g.imm
  rcases shape2 (v := v) with ⟨h1, h2⟩ | ⟨c, d, rfl, h1, h2⟩ | ⟨c, rs, rfl⟩
  · cases hT : isT v with
    | false =>
      simp [d_law_due, isi_tuple hv, hT, hv, -pb_isiI_3]
      apply hK
      simp [h2, dueP]
    | true =>
      obtain ⟨vs, rfl⟩ := isT_eq hT
      have hvs : immL vs = true := by simpa using hv
      have hn : ¬ (vs.length : Int) = 2 := by simpa [isTn] using h1
      simp [d_law_due, hvs, hn]
      apply hK
      simp [h2, dueP]
  · have hcd : c.imm = true ∧ d.imm = true := by simpa using hv
    have ht : isiI prog (.tup [c, d]) [.tuple] = some true := by rw [isi_tuple hv]; rfl
    simp [d_law_due, hcd.1, hcd.2, ht, isi_tuple hcd.2, h1, -pb_isiI_3]
    apply hK
    simp [h2, dueP]
  · have hcd : c.imm = true ∧ immL rs = true := by simpa using hv
    have e1 := number_ok fu (k + 1) hcd.1
    have e2 := law_triples_ok fu k B h rs hcd.2 (g.t2 c rs rfl)
    have hlo := h.lo
    cases hn : isN c with
    | false =>
      have hw : isW c B.lo B.hi = false := by
        cases c <;> first | rfl | (simp [isN] at hn; simp [isW]; omega)
      rw [hn] at e1
      simp [d_law_due, hcd.1, hcd.2, e1]
      apply hK
      simp [sF, hw, dueP]
    | true =>
      rw [hn] at e1
      obtain ⟨x, rfl⟩ : ∃ x, c = .int x := by cases c <;> first | (simp [isN] at hn; done) | exact ⟨_, rfl⟩
      by_cases p1 : B.lo ≤ x
      · by_cases p2 : x ≤ B.hi
        · have hw : isW (.int x) B.lo B.hi = true := by simp [isW, p1, p2]
          by_cases hm : B.br < (rs.length : Int)
          · simp [d_law_due, hcd.2, e1, p1, p2, hm]
            apply hK
            simp [sF, hw, hm, dueP]
          · cases hf : ff (Lb B) rs with
            | none =>
              rw [hf] at e2
              simp [rzP] at e2
              simp [d_law_due, hcd.2, e1, p1, p2, hm, e2]
              apply hK
              simp [sF, hw, hm, hf, dueP, sLen]
            | some r =>
              rw [hf] at e2
              simp [rzP] at e2
              simp [d_law_due, hcd.2, e1, p1, p2, hm, e2]
              apply hK
              simp [sF, hw, hm, hf, dueP]
        · have hw : isW (.int x) B.lo B.hi = false := by simp [isW]; omega
          simp [d_law_due, hcd.2, e1, p1, p2]
          apply hK
          simp [sF, hw, dueP]
      · have hw : isW (.int x) B.lo B.hi = false := by simp [isW]; omega
        simp [d_law_due, hcd.2, e1, p1]
        apply hK
        simp [sF, hw, dueP]
end K15
namespace K15
open PySem DI L2
theorem nds_due (o : Option (Int × Str)) (n : Int) : ndsP (dueP o n) ≤ 10 := by
  cases o <;> simp [dueP]
theorem imm_due (o : Option (Int × Str)) (n : Int) : (dueP o n).imm = true := by
  cases o <;> simp [dueP]
theorem judged_ok (fu k : Nat) (B : Bd) (h : BoA B) {v : PV} (g : Gd v) : callI prog fu (k + 8) "_law_judged" [B.pv, v] = .ok (.bl true) [] := by
  refine call_eq d_law_judged rfl rfl rfl (by decide) fun K hK => ?_
  have hv := g.imm
  have e0 := due_ok fu (k + 4) B h g
  have e1 := heard_ok fu k B h g
  have e2 := is_story_ok fu (k + 1) B h g
  have n1 := nds_due (sF B v) (sLen v)
  have i1 := imm_due (sF B v) (sLen v)
  have e3 := same_ok fu (k + 6) (.tup [dueP (sF B v) (sLen v), .bl (sF B v).isNone]) (by simp [i1]) (by simp; omega)
  have e4 : ixI (dueP (sF B v) (sLen v)) (.int 0) = some (.str (if (sF B v).isNone = true then "told" else "raised")) := by
    cases sF B v <;> rfl
  have e5 : cmpI .Eq (.str (if (sF B v).isNone = true then "told" else "raised")) (.str "told") = some (.bl (sF B v).isNone) := by
    cases sF B v <;> rfl
  generalize dueP (sF B v) (sLen v) = D at *
  generalize (sF B v).isNone = S0 at *
  have fin : ∀ d : PV, d.imm = true → (∀ rs, d = .tup rs → rs.length ≤ 1000) → ∀ (e : PEnv), e = [.ro false B.pv, .ro false v, .ow D, .ow d, .un] →
      Kp (Kc prog (callI prog fu (k + 7)) fu K (d_law_judged.body.drop 3)) (.nx e) := by
    rintro d hd hl e rfl
    have f0 := is_breakage_ok fu (k + 2) B h hd hl
    have f1 := same_ok fu (k + 6) (.bl (bkO B d)) rfl (by simp)
    cases hT : isT d with
    | false =>
      have hb : bkO B d = false := by cases d <;> first | (simp [isT] at hT; done) | rfl
      rw [hb] at f0 f1
      simp [d_law_judged, isi_tuple hd, hT, hd, f0, f1, -pb_isiI_3]
      apply hK
      simp
    | true =>
      obtain ⟨rs, rfl⟩ := isT_eq hT
      have hrs : immL rs = true := by simpa using hd
      have f2 := law_triples_ok fu (k + 5) B h rs hrs (hl rs rfl)
      cases hf : ff (Lb B) rs with
      | none =>
        have hb : bkO B (.tup rs) = true := by simp [bkO, hf]
        rw [hb] at f0 f1
        rw [hf] at f2
        simp [rzP] at f2
        simp [d_law_judged, hrs, f0, f1, f2]
        apply hK
        simp
      | some r =>
        have hb : bkO B (.tup rs) = false := by simp [bkO, hf]
        rw [hb] at f0 f1
        rw [hf] at f2
        simp [rzP] at f2
        simp [d_law_judged, hrs, f0, f1, f2]
        apply hK
        simp
  simp [d_law_judged, e0, e1, e2, e3, e4, e5, hv, i1, -Kc_nx, -pb_cmpI_6]
  rw [Kc_nx]
  simp [e0, e1, e2, e3, e4, e5, hv, i1, -Kc_nx, -pb_cmpI_6]
  rw [Kc_nx]
  have pair : ∀ c d, v = .tup [c, d] → Kp (Kc prog (callI prog fu (k + 7)) fu K (d_law_judged.body.drop 3)) (.nx [.ro false B.pv, .ro false v, .ow D, .ow d, .un]) := fun c d hcd => fin d (by rw [hcd] at hv; have : c.imm = true ∧ d.imm = true := (by simpa using hv); exact this.2) (fun rs hr => g.t2 c rs (by rw [hcd, hr])) _ rfl
  rcases shape2 (v := v) with ⟨h1, _⟩ | ⟨c, d, rfl, _⟩ | ⟨c, rs, rfl⟩
  · have t := fin v hv g.t1 _ rfl
    cases hT : isT v with
    | false =>
      simp [isi_tuple hv, hT, hv, -Kc_nx, -pb_isiI_3]
      exact t
    | true =>
      obtain ⟨vs, rfl⟩ := isT_eq hT
      have hvs : immL vs = true := by simpa using hv
      have hn : ¬ (vs.length : Int) = 2 := by simpa [isTn] using h1
      simp [hvs, hn, -Kc_nx]
      exact t
  · have t := pair c d rfl
    have hcd : c.imm = true ∧ d.imm = true := by simpa using hv
    simp [hcd.1, hcd.2, -Kc_nx]
    exact t
  · have t := pair c _ rfl
    have hcd : c.imm = true ∧ immL rs = true := by simpa using hv
    simp [hcd.1, hcd.2, -Kc_nx]
    exact t
end K15
namespace K15
open PySem DI L2
theorem ix_neg1 {us : List PV} {w : PV} (h : us.getLast? = some w) : ixI (.lst us) (.int (-1)) = some w := by
  have hne : us ≠ [] := by rintro rfl; simp at h
  have hl : 0 < us.length := List.length_pos_iff.mpr hne
  show atI us (-1) = _
  rw [List.getLast?_eq_getElem?] at h
  unfold atI L2.ixN
  rw [if_neg (by decide), if_pos (by omega), show (-1 + (us.length : Int)).toNat = us.length - 1 by omega]
  exact h
theorem gd_pair {c : PV} {rs : List PV} (hc : c.imm = true) (hi : immL rs = true) (hl : rs.length ≤ 1000) : Gd (.tup [c, .tup rs]) :=
  ⟨by simp [hc, hi], fun vs h => by cases h; simp, fun c' rs' h => by cases h; exact hl⟩
theorem ix_any {us : List PV} (hi : immL us = true) {r : Int} (h0 : 0 ≤ r) (h1 : r < us.length) : ∃ w, ixI (.tup us) (.int r) = some w ∧ w.imm = true := by
  obtain ⟨j, rfl⟩ : ∃ j : Nat, r = j := ⟨r.toNat, by omega⟩
  have hj : j < us.length := by omega
  have hx : us[j]? = some us[j] := by simp [hj]
  exact ⟨us[j], ix_tup hx, immL_mem hi (List.mem_of_getElem? hx)⟩
theorem rep_ok {x : PV} (hx : x.imm = true) {n : Int} (h0 : 0 ≤ n) (h1 : n ≤ 7) : ∃ ys, repI (.lst [x]) (.int n) = some (.lst ys) ∧ ys.length ≤ 7 ∧ immL ys = true := by
  have : n = 0 ∨ n = 1 ∨ n = 2 ∨ n = 3 ∨ n = 4 ∨ n = 5 ∨ n = 6 ∨ n = 7 := by omega
  rcases this with rfl | rfl | rfl | rfl | rfl | rfl | rfl | rfl
  all_goals exact ⟨_, if_pos ⟨by simp [hx], by decide, by decide, by simp⟩, by simp, by simp [immL, hx]⟩
theorem immL_of_mem : ∀ {l : List PV}, (∀ v ∈ l, v.imm = true) → immL l = true
  | [], _ => rfl
  | v :: l, h => by
    simp only [immL, Bool.and_eq_true]
    exact ⟨h v List.mem_cons_self, immL_of_mem fun u hu => h u (List.mem_cons_of_mem _ hu)⟩
theorem tri_imm {rs : List PV} (h : ∀ r ∈ rs, (tri r).isSome = true) : immL rs = true := by
  induction rs with
  | nil => rfl
  | cons r rs ih =>
    have h1 := h r List.mem_cons_self
    cases e : tri r with
    | none => rw [e] at h1; cases h1
    | some q =>
      obtain ⟨z, rfl, _⟩ := tri_eq e
      simp only [immL, Bool.and_eq_true]
      exact ⟨by simp, ih fun r hr => h r (List.mem_cons_of_mem _ hr)⟩
theorem bent_ok (fu k : Nat) {M : PV} (hM : Mk M) (B : Bd) (h : BoA B) (n : Int) (rs : List PV) (hr : ∀ r ∈ rs, (tri r).isSome = true) (hl : rs.length ≤ 100) : ∃ v M', Mk M' ∧ Gd v ∧ callI prog fu (k + 3) "_law_bent" [M, B.pv, .tup [.int n, .tup rs]] = .ok v [M'] := by
  refine call_K d_law_bent (fun r => ∃ v M', Mk M' ∧ Gd v ∧ r = .ok v [M']) rfl rfl rfl (by decide) fun K hK => ?_
  have hi := tri_imm hr
  have hbr := h.br
  have hlo := h.lo
  have hhi := h.hi
  have hsz := h.sz
  obtain ⟨w, M1, p1, q1, m1, e1⟩ := pull_ok fu (k + 1) hM "way" rfl 12 (by decide)
  by_cases w0 : w = 0
  · obtain ⟨r2, M2, p2, q2, m2, e2⟩ := pull_ok fu (k + 1) m1 "shape kind" rfl 10 (by decide)
    obtain ⟨v, hv, gv⟩ : ∃ v, ixI (.tup [.fls [.int n, .tup rs], .tup [.int n], .tup [.int n, .fls rs], .tup [.int n, .tup rs, .tup []], .non, .tup [.tup rs, .int n], .str "story", .tup [.int n, .non], .int 0, .int 5]) (.int r2) = some v ∧ Gd v := by
      have : r2 = 0 ∨ r2 = 1 ∨ r2 = 2 ∨ r2 = 3 ∨ r2 = 4 ∨ r2 = 5 ∨ r2 = 6 ∨ r2 = 7 ∨ r2 = 8 ∨ r2 = 9 := by omega
      rcases this with rfl | rfl | rfl | rfl | rfl | rfl | rfl | rfl | rfl | rfl
      all_goals exact ⟨_, rfl, by simp [hi], (fun vs h => by cases h <;> simp), fun c rs' h => by cases h⟩
    have hg := gv.imm
    simp [d_law_bent, e1, e2, hM.imm, m1.imm, m2.imm, hi, w0, hv, hg, -pb_ixI_1]
    apply hK
    exact ⟨v, M2, m2, gv, by simp⟩
  by_cases w1 : w = 1
  · obtain ⟨r2, M2, p2, q2, m2, e2⟩ := pull_ok fu (k + 1) m1 "count kind" rfl 9 (by decide)
    obtain ⟨s, hs⟩ : ∃ s : Str, biI .str [.int B.lo] = some (.str s) := ⟨_, if_pos (Nat.lt_of_le_of_lt (Nat.log2_le_self _) (by omega))⟩
    have hx4 : ixI B.pv (.int 4) = some (.tup [.int B.lo, .int B.hi]) := rfl
    obtain ⟨v, hv, gv⟩ := ix_any (us := [.int (B.lo - 1), .int (B.hi + 1), .int (-1), .bl true, .str s, .non, .tup [.int B.lo], .int (10 ^ 40), .bl (B.lo == 1)]) (by simp) p2 (by simpa using q2)
    simp [-pb_ixI_1] at hv
    simp [d_law_bent, e1, e2, hM.imm, m1.imm, m2.imm, hi, w1, hs, hx4, -pb_ixI_1]
    simp [hv, gv, hi, m2.imm, -pb_ixI_1]
    apply hK
    exact ⟨_, M2, m2, gd_pair gv hi (by omega), by simp⟩
  by_cases w2 : w = 2
  · obtain ⟨ys, hy, hyl, hyi⟩ := rep_ok (x := .tup [.int 9, .int 11, .bl true]) rfl (n := B.br + 1) (by omega) (by omega)
    have hz : rs.length + ys.length ≤ sizeLine := by rw [sizeLine_eq]; omega
    have hx5 : ixI B.pv (.int 5) = some (.int B.br) := rfl
    simp [d_law_bent, e1, hM.imm, m1.imm, hi, w2, hy, hyi, hz, hx5, -pb_ixI_1, -pb_repI_1]
    apply hK
    exact ⟨_, M1, m1, gd_pair (c := .int n) (rs := rs ++ ys) rfl (by rw [immL_app, hi, hyi]; rfl) (by simp; omega), by simp⟩
  by_cases hl0 : rs.length = 0
  · have : rs = [] := List.length_eq_zero_iff.mp hl0
    subst this
    obtain ⟨r2, M2, p2, q2, m2, e2⟩ := pull_ok fu (k + 1) m1 "lone" rfl 4 (by decide)
    have hx1 : ixI B.pv (.int 1) = some (.tup (B.pl.map .int)) := rfl
    obtain ⟨ys, zs, hy, hyi, hz, hzi, hzl⟩ : ∃ ys zs, slI (.tup [.tup [.int 0, .int 12, .bl true], .tup [.int B.pl.length, .int 0, .bl false], .tup [.int 0, .int 0], .str "x"]) (some r2) none = some (.tup ys) ∧ immL ys = true ∧ slI (.tup ys) none (some 1) = some (.tup zs) ∧ immL zs = true ∧ zs.length ≤ 1000 := by
      have : r2 = 0 ∨ r2 = 1 ∨ r2 = 2 ∨ r2 = 3 := by omega
      rcases this with rfl | rfl | rfl | rfl
      · exact ⟨[.tup [.int 0, .int 12, .bl true], .tup [.int B.pl.length, .int 0, .bl false], .tup [.int 0, .int 0], .str "x"], [.tup [.int 0, .int 12, .bl true]], rfl, rfl, rfl, rfl, by simp⟩
      · exact ⟨[.tup [.int B.pl.length, .int 0, .bl false], .tup [.int 0, .int 0], .str "x"], [.tup [.int B.pl.length, .int 0, .bl false]], rfl, rfl, rfl, rfl, by simp⟩
      · exact ⟨[.tup [.int 0, .int 0], .str "x"], [.tup [.int 0, .int 0]], rfl, rfl, rfl, rfl, by simp⟩
      · exact ⟨[.str "x"], [.str "x"], rfl, rfl, rfl, rfl, by simp⟩
    simp [d_law_bent, e1, e2, hM.imm, m1.imm, m2.imm, w0, w1, w2, hx1, hy, hyi, hz, hzi, -pb_ixI_1, -pb_slI_1]
    apply hK
    exact ⟨_, M2, m2, gd_pair (c := .int n) rfl hzi hzl, by simp⟩
  obtain ⟨jj, M2, p2, q2, m2, e2⟩ := pull_ok fu (k + 1) m1 "at" rfl rs.length (by omega)
  obtain ⟨j, rfl⟩ : ∃ j : Nat, jj = j := ⟨jj.toNat, by omega⟩
  have hj : j < rs.length := by omega
  have hr0 : rs[j]? = some rs[j] := by simp [hj]
  obtain ⟨q, hq⟩ := Option.isSome_iff_exists.mp (hr _ (List.mem_of_getElem? hr0))
  obtain ⟨z, hz, _⟩ := tri_eq hq
  rw [hz] at hr0
  obtain ⟨x, y⟩ := q
  have hx := ix_tup hr0
  obtain ⟨U, hU, _, e3⟩ := law_lamps_ok fu (k + 1) B h
  obtain ⟨FR, hFR⟩ : ∃ FR, FR = (nUp 13).filter fun n => !decide (((0 : Int), n) ∈ plsL U B.pl.length) := ⟨_, rfl⟩
  have h12 : (12 : Int) ∈ FR := by
    rw [hFR]
    refine List.mem_filter.mpr ⟨mem_nUp.mpr (by omega), ?_⟩
    have : ¬ ((0 : Int), (12 : Int)) ∈ plsL U B.pl.length := by
      rw [mem_plsL, hU, mem_lampsL]
      rintro ⟨_, s, hs, hx⟩
      have := (h.ln s hs).2 12 hx
      omega
    simp [this]
  obtain ⟨f0, hf0⟩ : ∃ a, FR[0]? = some a := by
    cases FR with
    | nil => cases h12
    | cons a l => exact ⟨a, rfl⟩
  obtain ⟨fl, hfl⟩ : ∃ a, FR.getLast? = some a := by
    cases FR with
    | nil => cases h12
    | cons a l => exact ⟨_, List.getLast?_cons⟩
  have g0 : ixI (.lst (FR.map .int)) (.int 0) = some (.int f0) := ix_lst (j := 0) (by simp [hf0])
  have gl : ixI (.lst (FR.map .int)) (.int (-1)) = some (.int fl) := ix_neg1 (by simp [hfl])
  have hnl := notin_lst 0
  have s0 := sl_headP hi (i := (j : Int)) (by omega)
  have s1 := sl_tailP hi (i := (j : Int)) (by omega)
  have s2 := sl_tailP hi (i := (j : Int) + 1) (by omega)
  rw [Int.toNat_natCast] at s0 s1
  rw [show ((j : Int) + 1).toNat = j + 1 by omega] at s2
  have hx1 : ixI B.pv (.int 1) = some (.tup (B.pl.map .int)) := rfl
  simp [d_law_bent, e1, e2, hM.imm, m1.imm, m2.imm, hi, w0, w1, w2, hl0, hx, -pb_ixI_1, -pb_slI_1, -pb_ixI_2]
  rw [comp_pure (nUp 13) .int [] (fun n => !decide (((0 : Int), n) ∈ plsL U B.pl.length)) .int]
  rotate_left
  · simp [rangeL_nUp]
  · simp
  · simp
  · simp
  · intro a ha
    simp [e3, hnl]
  rw [← hFR]
  simp [g0, gl, hx1, -pb_ixI_1, -pb_ixI_2, -pb_slI_1, -Kc_nx]
  rw [Kc_nx]
  simp [g0, gl, hx1, -pb_ixI_1, -pb_ixI_2, -pb_slI_1, -Kc_nx]
  rw [Kc_nx]
  simp [g0, gl, hx1, -pb_ixI_1, -pb_ixI_2, -pb_slI_1, -Kc_nx]
  have it : ∀ m, immL (rs.take m) = true := fun m => immL_of_mem fun v hv => immL_mem hi (List.mem_of_mem_take hv)
  have id : ∀ m, immL (rs.drop m) = true := fun m => immL_of_mem fun v hv => immL_mem hi (List.mem_of_mem_drop hv)
  have a1 : ∀ v : PV, v.imm = true → binI .Add (.tup (rs.take j)) (.tup [v]) = some (.tup (rs.take j ++ [v])) := fun v hv => if_pos ⟨by have := List.length_take_le j rs; simp only [List.length_cons, List.length_nil, sizeLine_eq]; omega, it j, by simp [hv]⟩
  have a2 : ∀ (v : PV) (m : Nat), v.imm = true → binI .Add (.tup (rs.take j ++ [v])) (.tup (rs.drop m)) = some (.tup ((rs.take j ++ [v]) ++ rs.drop m)) := fun v m hv => if_pos ⟨by
    have h1 := List.length_take_le j rs
    have h2 := List.length_drop (i := m) (l := rs)
    simp only [List.length_append, List.length_cons, List.length_nil, sizeLine_eq]
    omega, by rw [immL_app, it j]; simp [hv], id m⟩
  have gd : ∀ (v : PV) (m : Nat), v.imm = true → Gd (.tup [.int n, .tup ((rs.take j ++ [v]) ++ rs.drop m)]) := fun v m hv => gd_pair rfl (by rw [immL_app, immL_app, it j, id m]; simp [hv]) (by
    have h1 := List.length_take_le j rs
    have h2 := List.length_drop (i := m) (l := rs)
    simp only [List.length_append, List.length_cons, List.length_nil]
    omega)
  by_cases w8 : w < 8
  · obtain ⟨r3, M3, p3, q3, m3, e4⟩ := pull_ok fu (k + 1) m2 "odd" rfl 14 (by decide)
    obtain ⟨v, hv, gv⟩ := ix_any (us := [.fls [.int x, .int y, .bl z], .tup [.int x, .int y], .tup [.int x, .int y, .int (if z = true then 1 else 0)], .tup [.int x, .int y, .bl z, .bl z], .tup [.bl (x == 1), .int y, .bl z], .tup [.int x, .bl (y == 1), .bl z], .tup [.int x, .non, .bl z], .tup [.int B.pl.length, .int y, .bl z], .tup [.int x, .int fl, .bl z], .tup [.int x, .int f0, .bl z], .tup [.int (-1), .int y, .bl z], .tup [.int x, .int (-1), .bl z], .non, .tup [.int x, .int y, .non]]) (by simp) p3 (by simpa using q3)
    have b1 := a1 v gv
    have b2 := a2 v (j + 1) gv
    simp [w8, e4, m2.imm, m3.imm, hi, s0, s2, hv, gv, b1, b2, -pb_ixI_1, -pb_slI_1, -pb_binI_12, -List.append_assoc]
    apply hK
    exact ⟨_, M3, m3, gd v (j + 1) gv, by simp⟩
  by_cases w9 : w = 8
  · have b1 := a1 (.tup [.int x, .int y, .bl z]) rfl
    have b2 := a2 (.tup [.int x, .int y, .bl z]) j rfl
    simp [w8, w9, m2.imm, hi, hx, s0, s1, b1, b2, -pb_ixI_1, -pb_slI_1, -pb_binI_12, -List.append_assoc]
    apply hK
    exact ⟨_, M2, m2, gd (.tup [.int x, .int y, .bl z]) j rfl, by simp⟩
  by_cases w10 : w = 9
  · have hz : rs.length ≤ sizeLine := by rw [sizeLine_eq]; omega
    simp [w8, w9, w10, m2.imm, hi, hz]
    apply hK
    exact ⟨_, M2, m2, gd_pair (c := .int n) (rs := rs.reverse) rfl (immL_of_mem fun v hv => immL_mem hi (List.mem_reverse.mp hv)) (by simp; omega), by simp⟩
  have b1 := a1 (.tup [.int x, .int y, .bl (!z)]) rfl
  by_cases w11 : w = 10
  · have b2 := a2 (.tup [.int x, .int y, .bl (!z)]) (j + 1) rfl
    simp [w8, w9, w10, w11, m2.imm, hi, s0, s2, b1, b2, -pb_ixI_1, -pb_slI_1, -pb_binI_12, -List.append_assoc]
    apply hK
    exact ⟨_, M2, m2, gd (.tup [.int x, .int y, .bl (!z)]) (j + 1) rfl, by simp⟩
  · have b2 := a2 (.tup [.int x, .int y, .bl (!z)]) j rfl
    simp [w8, w9, w10, w11, m2.imm, hi, s0, s1, b1, b2, -pb_ixI_1, -pb_slI_1, -pb_binI_12, -List.append_assoc]
    apply hK
    exact ⟨_, M2, m2, gd (.tup [.int x, .int y, .bl (!z)]) j rfl, by simp⟩
end K15
namespace K15
open PySem DI L2
theorem pairP_seq (q : Int × Int) : seqI (pairP q) = some [.int q.1, .int q.2] := rfl
theorem plsL_pos {l : List Int} {n : Nat} {q : Int × Int} (h : q ∈ plsL l n) (hl : ∀ x ∈ l, 0 ≤ x) : 0 ≤ q.1 ∧ 0 ≤ q.2 := ⟨(mem_plsL.mp h).1.1, hl _ (mem_plsL.mp h).2⟩
theorem lampsL_pos {B : Bd} (h : BoA B) {U : List Int} (hU : ∀ x, x ∈ U ↔ x ∈ lampsL B.sh) : ∀ x ∈ U, 0 ≤ x := fun x hx => by
  obtain ⟨s, hs, hx⟩ := mem_lampsL.mp ((hU x).mp hx)
  exact ((h.ln s hs).2 x hx).1
theorem breakage_ok (fu k : Nat) {M : PV} (hM : Mk M) (B : Bd) (h : BoA B) : ∃ (rs : List PV) (M' : PV), Mk M' ∧ (∀ v ∈ rs, (tri v).isSome = true) ∧ rs.length ≤ 100 ∧ callI prog fu (k + 2) "_law_breakage" [M, B.pv, .int B.br] = .ok (.tup rs) [M'] := by
  refine call_K d_law_breakage (fun r => ∃ (rs : List PV) (M' : PV), Mk M' ∧ (∀ v ∈ rs, (tri v).isSome = true) ∧ rs.length ≤ 100 ∧ r = .ok (.tup rs) [M']) rfl rfl rfl (by decide) fun K hK => ?_
  obtain ⟨U, hU, _, e0⟩ := law_lamps_ok fu k B h
  have hpos := lampsL_pos h hU
  have hbr := h.br
  simp [d_law_breakage]
  refine K_forE (plsL U B.pl.length) pairP (fun r e => (∀ q ∈ r, q ∈ plsL U B.pl.length) ∧ ∃ (rs : List PV) (M' : PV), Mk M' ∧ (∀ v ∈ rs, (tri v).isSome = true) ∧ rs.length ≤ 6 ∧ e = [.rf M', .ro false B.pv, .ro false (.int B.br), .ow (.lst rs), .un, .un]) (env0 := [.rf M, .ro false B.pv, .ro false (.int B.br), .ow (.lst []), .un, .un]) (by simp [e0]) ⟨fun _ h => h, [], M, hM, fun _ h => (by cases h), by simp, rfl⟩ ?_ ?_
  · rintro q r e N ⟨hq, rs, M', hM', hrs, hl, rfl⟩ hN
    have hi := tri_imm hrs
    have q0 := plsL_pos (hq q List.mem_cons_self) hpos
    by_cases hlt : (rs.length : Int) < B.br
    · obtain ⟨r1, M1, p1, q1, m1, e1⟩ := pull_ok fu k hM' "broken lamp" rfl 3 (by decide)
      by_cases hr1 : r1 = 0
      · obtain ⟨r2, M2, p2, q2, m2, e2⟩ := pull_ok fu k m1 "lit" rfl 2 (by decide)
        have hz : rs.length < sizeLine := by rw [sizeLine_eq]; omega
        have fin := hN [.rf M2, .ro false B.pv, .ro false (.int B.br), .ow (.lst (rs ++ [.tup [.int q.1, .int q.2, .bl (r2 == 1)]])), .un, .un] ⟨fun a ha => hq a (List.mem_cons_of_mem _ ha), _, M2, m2, fun v hv => by
          rcases List.mem_append.mp hv with hv | hv
          · exact hrs v hv
          · rw [List.mem_singleton.mp hv, tri_int, if_pos q0]; rfl, by simp; omega, rfl⟩
        simp [pairP, hlt, e1, e2, hr1, hM'.imm, m1.imm, m2.imm, hi, hz]
        exact fin
      · simp [pairP, hlt, e1, hr1, hM'.imm, m1.imm, hi]
        exact hN _ ⟨fun a ha => hq a (List.mem_cons_of_mem _ ha), rs, M1, m1, hrs, hl, rfl⟩
    · simp [pairP, hlt, hM'.imm, hi]
      exact hN _ ⟨fun a ha => hq a (List.mem_cons_of_mem _ ha), rs, M', hM', hrs, hl, rfl⟩
  · rintro e ⟨_, rs, M', hM', hrs, hl, rfl⟩
    have hi := tri_imm hrs
    simp [hi]
    apply hK
    exact ⟨rs, M', hM', hrs, by omega, by simp⟩
theorem told_shape {B : Bd} {v : PV} (h : sF B v = none) : ∃ (n : Int) (rs : List PV), v = .tup [.int n, .tup rs] ∧ ∀ r ∈ rs, (tri r).isSome = true := by
  obtain ⟨c, rs, rfl, hw, hf⟩ := sF_none h
  obtain ⟨n, rfl⟩ : ∃ n, c = .int n := by cases c <;> first | (simp [isW] at hw; done) | exact ⟨_, rfl⟩
  refine ⟨n, rs, rfl, fun r hr => ?_⟩
  obtain ⟨j, hj, rfl⟩ := List.mem_iff_getElem.mp hr
  obtain ⟨q, hq, _⟩ := wd_none (ffN_none hf j hj)
  rw [List.getElem?_eq_getElem hj] at hq
  simp at hq
  rw [hq]
  rfl
theorem hand_ok : callI prog 2000000 19 "_law_hand" [] = .ok (.bl true) [] := by kernel_rfl
theorem turn_ok {B : Bd} (h : BoA B) {M : PV} (hM : Mk M) (n : Int) (rs : List PV) (hr : ∀ r ∈ rs, (tri r).isSome = true) (hl : rs.length ≤ 100) (i : Int) (s0 s2 s4 s5 s7 : Slot) (K : SR → Prop) (N : PEnv → Prop)
    (hN : ∀ M', Mk M' → N [s0, .ow M', s2, .ow B.pv, s4, s5, .ow (.tup [.int n, .tup rs]), s7, .un, .un, .un, .un]) :
    Kp (KL N K) (exSs prog (callI prog 2000000 19) 2000000 b_law_1 [s0, .ow M, s2, .ow B.pv, s4, s5, .ow (.tup [.int n, .tup rs]), s7, .un, .un, .ow (.int i), .un]) := by
  obtain ⟨v, M1, m1, gv, e1⟩ := bent_ok 2000000 16 hM B h n rs hr hl
  have hi := tri_imm hr
  have hv := gv.imm
  have j1 := judged_ok 2000000 11 B h gv
  by_cases h5 : i = 5
  · cases hT : isT v with
    | false =>
      simp [b_law_1, e1, hM.imm, m1.imm, hi, hv, h5, isi_tuple hv, hT, j1, -pb_isiI_3]
      exact hN _ m1
    | true =>
      have e2 := due_ok 2000000 16 B h gv
      cases hs : sF B v with
      | some r =>
        rw [hs] at e2
        simp [dueP] at e2
        have hne : ¬ (Str.ofString "raised" = Str.ofString "told") := by decide
        simp [b_law_1, e1, e2, hM.imm, m1.imm, hi, hv, h5, isi_tuple hv, hT, j1, hne, -pb_isiI_3]
        exact hN _ m1
      | none =>
        obtain ⟨n2, rs2, rfl, hr2⟩ := told_shape hs
        have hl2 : rs2.length ≤ 100 := by
          unfold sF at hs
          have hbr := h.br
          by_cases hw : isW (.int n2) B.lo B.hi = true
          · simp only [hw, if_true] at hs
            by_cases hm : B.br < (rs2.length : Int)
            · rw [if_pos hm] at hs; cases hs
            · omega
          · simp [hw] at hs
        obtain ⟨v2, M2, m2, gv2, e3⟩ := bent_ok 2000000 16 m1 B h n2 rs2 hr2 hl2
        have hi2 := tri_imm hr2
        have hv2 := gv2.imm
        have j2 := judged_ok 2000000 11 B h gv2
        rw [hs] at e2
        simp [dueP] at e2
        simp [b_law_1, e1, e2, e3, hM.imm, m1.imm, m2.imm, hi, hi2, hv2, h5, j2]
        exact hN _ m2
  · simp [b_law_1, e1, hM.imm, m1.imm, hi, hv, h5, j1]
    exact hN _ m1
theorem law_pure (ns : List Int) (_ : ns.length ≤ 63) : ∃ os, callI prog 2000000 20 "law" [.lst (ns.map .int)] = .ok (.bl true) os := by
  refine call_K d_law (fun r => ∃ os, r = .ok (.bl true) os) rfl rfl rfl (by decide) fun K hK => ?_
  obtain ⟨M, m0, e0⟩ := jar_ok 2000000 18 ns
  simp [d_law, e0, hand_ok]
  refine K_rng 0 4 (fun i e => ∃ M', Mk M' ∧ e = [.ro false (.lst (ns.map .int)), .ow M', .un, .un, .un, .un, .un, .un, .un, .un, .un, .un]) (by simp) ⟨M, m0, rfl⟩ ?_ ?_
  · rintro i e N hi4 ⟨M', hM', rfl⟩ hN
    obtain ⟨B0, M1, hB0, _, _, _, m1, e1⟩ := board_ok 2000000 17 hM' 3 (by omega) (by omega)
    rw [show ((3 : Nat) : Int) = 3 by omega] at e1
    obtain ⟨r2, M2, p2, q2, m2, e2⟩ := pull_ok 2000000 18 m1 "room" rfl 4 (by decide)
    obtain ⟨br, hbr, hb0, hb6⟩ : ∃ br : Int, ixI (.tup [.int 0, .int 1, .int 2, .int 6]) (.int r2) = some (.int br) ∧ 0 ≤ br ∧ br ≤ 6 := by
      have : r2 = 0 ∨ r2 = 1 ∨ r2 = 2 ∨ r2 = 3 := by omega
      rcases this with rfl | rfl | rfl | rfl
      · exact ⟨0, rfl, by decide, by decide⟩
      · exact ⟨1, rfl, by decide, by decide⟩
      · exact ⟨2, rfl, by decide, by decide⟩
      · exact ⟨6, rfl, by decide, by decide⟩
    obtain ⟨B, hBd⟩ : ∃ B : Bd, B = { B0 with br := br } := ⟨_, rfl⟩
    have h : BoA B := by rw [hBd]; exact ⟨hB0.b1, hB0.bs, hB0.p1, hB0.p4, hB0.sz, hB0.hi, hB0.lo, hB0.s2, hB0.sn, hB0.ln, hB0.st, ⟨hb0, hb6⟩⟩
    have hsl : slI B0.pv none (some 5) = some (.tup [.tup (B0.sh.map shp), .tup (B0.pl.map .int), .bl B0.bk, .int B0.st, .tup [.int B0.lo, .int B0.hi]]) := pvh_5 B0
    have hX : PV.tup [.tup (B0.sh.map shp), .tup (B0.pl.map .int), .bl B0.bk, .int B0.st, .tup [.int B0.lo, .int B0.hi], .int br] = B.pv := by rw [hBd]; rfl
    have hx4 : ixI B.pv (.int 4) = some (.tup [.int B.lo, .int B.hi]) := rfl
    have hx5 : ixI B.pv (.int 5) = some (.int B.br) := rfl
    have hlo := h.lo
    obtain ⟨r3, M3, p3, q3, m3, e3⟩ := pull_ok 2000000 18 m2 "count" rfl (B.hi - B.lo + 1) (by omega)
    obtain ⟨rs, M4, m4, hrs, hl, e4⟩ := breakage_ok 2000000 17 m3 B h
    have hri := tri_imm hrs
    obtain ⟨U, hU, hUl, e5⟩ := law_lamps_ok 2000000 18 B h
    have hp4 := h.p4
    have hlen : (plsL U B.pl.length).length ≤ 576 := by
      rw [plsL_len]
      have : B.pl.length * U.length ≤ 4 * 144 := Nat.mul_le_mul hp4 hUl
      omega
    have g1 : Gd (.tup [.int (B.lo + r3), .tup rs]) := gd_pair rfl hri (by omega)
    have j1 := judged_ok 2000000 11 B h g1
    simp [e1, e2, hbr, hX, hx4, hx5, e3, e4, hM'.imm, m1.imm, m2.imm, m3.imm, m4.imm, hri, -pb_ixI_1, -pb_slI_1]
    refine comp_K (plsL U B.pl.length) pairP (fun r acc e => ∃ (M5 : PV) (s8 s9 : Slot), Mk M5 ∧ (∀ v ∈ acc, v.imm = true) ∧ acc.length + r.length = (plsL U B.pl.length).length ∧ (s8 = .un ∨ ∃ x : Int, s8 = .ow (.int x)) ∧ (s9 = .un ∨ ∃ x : Int, s9 = .ow (.int x)) ∧ e = [.ro false (.lst (ns.map .int)), .ow M5, .ow (.int i), .ow B.pv, .ow (.int B.lo), .ow (.int B.hi), .ow (.tup [.int (B.lo + r3), .tup rs]), .un, s8, s9, .un, .un]) (env0 := [.ro false (.lst (ns.map .int)), .ow M4, .ow (.int i), .ow B.pv, .ow (.int B.lo), .ow (.int B.hi), .ow (.tup [.int (B.lo + r3), .tup rs]), .un, .un, .un, .un, .un]) ?_ ?_ ?_ ⟨M4, .un, .un, m4, fun _ h => (by cases h), by simp, .inl rfl, .inl rfl, rfl⟩ ?_ ?_
    · simp [e5]
    · simp
    · omega
    · rintro q r acc e N2 ⟨M5, s8, s9, m5, hac, hln, hs8, hs9, rfl⟩ hN2
      obtain ⟨r6, M6, p6, q6, m6, e6⟩ := pull_ok 2000000 18 m5 "whole" rfl 2 (by decide)
      have hf8 : s8.fix = false := by rcases hs8 with rfl | ⟨x, rfl⟩ <;> rfl
      have hf9 : s9.fix = false := by rcases hs9 with rfl | ⟨x, rfl⟩ <;> rfl
      have fin := hN2 (acc ++ [.tup [.int q.1, .int q.2, .bl (r6 == 0)]]) _ ⟨M6, .ow (.int q.1), .ow (.int q.2), m6, fun v hv => by
        rcases List.mem_append.mp hv with hv | hv
        · exact hac v hv
        · rw [List.mem_singleton.mp hv]; simp, by simp at hln ⊢; omega, .inr ⟨_, rfl⟩, .inr ⟨_, rfl⟩, rfl⟩
      simp [pairP, e6, m5.imm, m6.imm, hf8, hf9]
      exact fin
    · rintro ws e ⟨M5, s8, s9, m5, hac, hln, hs8, hs9, rfl⟩
      have hwl : ws.length ≤ 1000 := by simp at hln; omega
      have hwi : immL ws = true := immL_of_mem hac
      have g2 : Gd (.tup [.int B.lo, .tup ws]) := gd_pair rfl hwi hwl
      have j2 := judged_ok 2000000 11 B h g2
      simp [j1, j2, m5.imm, hwi, hri]
      refine K_rng 0 6 (fun t e => ∃ M6, Mk M6 ∧ e = [.ro false (.lst (ns.map .int)), .ow M6, .ow (.int i), .ow B.pv, .ow (.int B.lo), .ow (.int B.hi), .ow (.tup [.int (B.lo + r3), .tup rs]), .ow (.tup ws), .un, .un, .un, .un]) (by simp) ⟨M5, m5, rfl⟩ ?_ ?_
      · rintro t e N3 ht ⟨M6, m6, rfl⟩ hN3
        exact turn_ok h m6 (B.lo + r3) rs hrs hl _ _ _ _ _ _ _ N3 fun M7 m7 => hN3 _ ⟨M7, m7, rfl⟩
      · rintro e ⟨M6, m6, rfl⟩
        simp
        exact hN _ ⟨M6, m6, rfl⟩
  · rintro e ⟨M', hM', rfl⟩
    simp
    apply hK
    simp
end K15
set_option Elab.async false
set_option linter.all false
set_option maxRecDepth 100000
set_option maxHeartbeats 0
namespace K15
open PySem PySem.Spec PyProof.Rows L2 DI
def mkD (x : Str) : He.DefD := ⟨(x, none), x, x, defArgs (src x), defBody (src x), defScope (src x), [], []⟩
def mkI (c : Str) : He.DefD := ⟨(c, some "__init__"), "__init__", c ++ ".__init__", defArgs (isrc c), defBody (isrc c), defScope (isrc c), [], []⟩
def names1 : List Str := ["is_integer", "integer_within", "is_tuple", "lamps_of", "board_lamps", "triple_word", "breakage_fault", "story_fault", "check_story", "is_story", "is_breakage", "_law_trunk", "_law_pull", "_law_size", "_law_lamps", "_law_same", "_law_board", "_law_breakage", "_law_is_number", "_law_triples", "_law_due", "_law_heard", "_law_judged", "_law_bent", "_law_hand"]
def fn : List He.DefD := (names1 ++ (["law"] : List Str)).map mkD ++ (["BadStory"] : List Str).map mkI
def fa : List He.Fa := (names1 ++ (["law"] : List Str)).map He.Fa.glo ++ ([.len, .abs, .int, .str, .bool, .min, .max, .tuple, .list, .set, .sorted, .sum, .all, .any, .dict] : List BI).map (fun f => He.Fa.free (biName f)) ++ (["range", "zip", "reversed", "enumerate", "isinstance"] : List Str).map He.Fa.free ++ ([] : List He.Fa)
abbrev R : PySem.W.OpenRow := PySem.W.OpenLaw.row PySem.Challenge.rw_brokenlamps_k15_stories_checked
abbrev hk : PySem.W.Hook := He.hookX 6 fa fn [] [] (clsB prog)
def ob (s : PySem.W.SharedT) : He.AlX := He.obsX 6 fa fn [] [] (clsB prog) (HandSHeadRun.getT s)
theorem ob_eq (s : PySem.W.SharedT) : ob s = hk.obs s.abs := He.obsX_eq (HandSHeadRun.getT_eq s)
def loose : List Str := (["LampError", "DataError", "BadStory"] : List Str) ++ names1
theorem run (w : World) : HandSHeadRun.RunEq R (PySem.W.view R.prog [33]) hk ob 3000 loose w := by
  intro os
  kernel_rfl
end K15
set_option Elab.async false
set_option linter.all false
set_option maxRecDepth 100000
set_option maxHeartbeats 0
namespace K15
open PySem PySem.Spec PyProof.Rows L2 DI
theorem facts {w : World} {K : PySem.W.Frag} {h : Heap} {mg : Str → Option Value} (X : K.In h) (G : h.Ns mainGlobals mg) (c : He.SaysD fa fn K) : Facts prog src K mg (kb K w eaT) := by
  have dd : ∀ (i : Nat) (x : Str), fn[i]? = some (mkD x) → fa[i]? = some (He.Fa.glo x) → ∃ a fd, mg x = some (.ref a) ∧ FunD K x x (defArgs (src x)) (defBody (src x)) (defScope (src x)) [] [] a fd := fun i x h1 h2 => by
    obtain ⟨fd, F⟩ := c.def_ i (d := mkD x) h1
    exact ⟨_, fd, He.glo_ok X G (c.fact i (f := .glo x) h2), F⟩
  refine ⟨fun q hq => ?_, fun f => ?_, fun x hx => ?_, fun x v hx => ?_⟩
  · simp only [prog, List.mem_cons, List.not_mem_nil, or_false] at hq
    rcases hq with rfl | rfl | rfl | rfl | rfl | rfl | rfl | rfl | rfl | rfl | rfl | rfl | rfl | rfl | rfl | rfl | rfl | rfl | rfl | rfl | rfl | rfl | rfl | rfl | rfl | rfl
    · exact dd 0 _ rfl rfl
    · exact dd 1 _ rfl rfl
    · exact dd 2 _ rfl rfl
    · exact dd 3 _ rfl rfl
    · exact dd 4 _ rfl rfl
    · exact dd 5 _ rfl rfl
    · exact dd 6 _ rfl rfl
    · exact dd 7 _ rfl rfl
    · exact dd 8 _ rfl rfl
    · exact dd 9 _ rfl rfl
    · exact dd 10 _ rfl rfl
    · exact dd 11 _ rfl rfl
    · exact dd 12 _ rfl rfl
    · exact dd 13 _ rfl rfl
    · exact dd 14 _ rfl rfl
    · exact dd 15 _ rfl rfl
    · exact dd 16 _ rfl rfl
    · exact dd 17 _ rfl rfl
    · exact dd 18 _ rfl rfl
    · exact dd 19 _ rfl rfl
    · exact dd 20 _ rfl rfl
    · exact dd 21 _ rfl rfl
    · exact dd 22 _ rfl rfl
    · exact dd 23 _ rfl rfl
    · exact dd 24 _ rfl rfl
    · exact dd 25 _ rfl rfl
  · cases f
    all_goals first
      | exact He.free_ok X G (c.fact 26 (f := .free _) rfl)
      | exact He.free_ok X G (c.fact 27 (f := .free _) rfl)
      | exact He.free_ok X G (c.fact 28 (f := .free _) rfl)
      | exact He.free_ok X G (c.fact 29 (f := .free _) rfl)
      | exact He.free_ok X G (c.fact 30 (f := .free _) rfl)
      | exact He.free_ok X G (c.fact 31 (f := .free _) rfl)
      | exact He.free_ok X G (c.fact 32 (f := .free _) rfl)
      | exact He.free_ok X G (c.fact 33 (f := .free _) rfl)
      | exact He.free_ok X G (c.fact 34 (f := .free _) rfl)
      | exact He.free_ok X G (c.fact 35 (f := .free _) rfl)
      | exact He.free_ok X G (c.fact 36 (f := .free _) rfl)
      | exact He.free_ok X G (c.fact 37 (f := .free _) rfl)
      | exact He.free_ok X G (c.fact 38 (f := .free _) rfl)
      | exact He.free_ok X G (c.fact 39 (f := .free _) rfl)
      | exact He.free_ok X G (c.fact 40 (f := .free _) rfl)
  · simp only [List.mem_cons, List.not_mem_nil, or_false] at hx
    rcases hx with rfl | rfl | rfl | rfl | rfl
    · exact He.free_ok X G (c.fact 41 (f := .free _) rfl)
    · exact He.free_ok X G (c.fact 42 (f := .free _) rfl)
    · exact He.free_ok X G (c.fact 43 (f := .free _) rfl)
    · exact He.free_ok X G (c.fact 44 (f := .free _) rfl)
    · exact He.free_ok X G (c.fact 45 (f := .free _) rfl)
  · have hx := lookup_in hx
    simp only [prog, List.mem_cons, List.not_mem_nil, or_false, Prod.mk.injEq] at hx
theorem factsX {w : World} {K : PySem.W.Frag} {h : Heap} {mg : Str → Option Value} (X : K.In h) (G : h.Ns mainGlobals mg) (c : He.SaysX fa fn [] [] (clsB prog) w h K) : FactsX prog src K mg w := by
  refine factsX_of (isrc := isrc) X G (facts X G c.t.d) c.more fun y hy hn => ?_
  obtain ⟨q, hq, rfl, e⟩ := cls_in hy
  simp only [prog, List.mem_cons, List.not_mem_nil, or_false] at hq
  rcases hq with rfl | rfl | rfl
  · exact absurd rfl hn
  · exact absurd rfl hn
  · exact ⟨init_BadStory, c.t.d.def_ 26 (d := mkI ("BadStory")) rfl⟩
end K15
open PySem PySem.W PySem.Calls PyProof.Rows
theorem PySem.Challenge.cw_brokenlamps_k15_stories_checked_holds : PySem.Challenge.rw_brokenlamps_k15_stories_checked.Holds := by
  w_on; o_law
  refine HandSHeadRun.head_any (r := OpenLaw.row PySem.Challenge.rw_brokenlamps_k15_stories_checked) (q := view (OpenLaw.row PySem.Challenge.rw_brokenlamps_k15_stories_checked).prog [33]) (H := K15.hk) (ob := K15.ob) (M := 3000) (loose := K15.loose) (d := HandSHeadRun.topDef (OpenLaw.row PySem.Challenge.rw_brokenlamps_k15_stories_checked).prog 33) (kwd := []) K15.ob_eq
    (by kernel_rfl) (fun s => by kernel_rfl) K15.run (by kernel_rfl) (by kernel_rfl) (by kernel_rfl) (by rfl) (by first | assumption | decide +kernel) (by decide +kernel) ⟨rfl, rfl, rfl, rfl, rfl, by decide +kernel⟩ ?hw ?hc
  case hw => w_witness2
  case hc =>
    refine L2.walk_ofE (l := PySem.Challenge.rw_brokenlamps_k15_stories_checked) (n := 63) (k := 23) (x := "script") (CX := DI.CXe (PySem.Challenge.rw_brokenlamps_k15_stories_checked).prog) rfl (by decide) (by kernel_rfl) ⟨rfl, by decide, by decide⟩ ?F DI.cxe_none
    intro w mg fa h Y G hmg0
    obtain ⟨K, KX, c⟩ := Y
    have hmg : mg ("law" : PySem.Str) = some (.ref fa) := by
      have e : (HandSHeadRun.topDef (OpenLaw.row PySem.Challenge.rw_brokenlamps_k15_stories_checked).prog 33).name = ("law" : PySem.Str) := by kernel_rfl
      rw [← e]
      exact hmg0
    obtain ⟨fd, sp, h1, h2, h3⟩ := DI.top_okX (P := (PySem.Challenge.rw_brokenlamps_k15_stories_checked).prog) (w := w) (n := 63) (k := 20) K15.walks (K15.factsX (w := w) KX G c) hmg (d := K15.d_law) rfl rfl rfl rfl K15.law_pure (fun _ _ _ _ _ _ us h => match us, h with | [_], _ => rfl)
    exact ⟨K, fd, sp, KX, h1, fun H a ns hl _ hS => h2 H a ns hl hS, fun base _ _ => DI.fnOk_e (h3 base)⟩
