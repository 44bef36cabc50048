import PyProof.Rows.All
import Wide.All
import OpenK.AllK
import Wide.FinOn
import HandS.ForMost
import HandS.ForExc
import HandS.Defaults
import HandS.CallSlots
import HandS.HeadEnd
import HandS.HeadHook1
import HandS.HeadHook2
import HandS.Head0
import HandS.Head1
import HandS.Head2
import HandS.IsInst
import HandS.ExcIs
import HandS.ExcField
import HandS.ExcInit
import HandS.StrMore
import KE.KExcIs
import HandS.Conv
import HandS.TupAny
import HandS.Rev
import PySem.Challenge.RW_sharenet_k09_linking
set_option Elab.async false
set_option linter.all false
set_option maxRecDepth 100000
set_option maxHeartbeats 8000000
namespace PV
open PySem L2

/-! ## A small language of values: data without addresses, and cells that may change -/
inductive Sv where
  | d (x : PyData)
  | r (n : Nat)
inductive Cell where
  | lst (xs : List Sv)
  | frz (xs : List PyData)
  | obj (c : Nat) (fs : List (Str × Sv))
  | dct (kvs : List (Str × PyData))
abbrev Sto := List Cell
abbrev Ev := List (Option Sv)
inductive Rs (α : Type) where
  | ok (a : α) (st : Sto)
  | exc (c : Nat) (p : List (Str × PyData)) (st : Sto)
  | bad
def Rs.bind {α β : Type} (r : Rs α) (f : α → Sto → Rs β) : Rs β := match r with
  | .ok a st => f a st
  | .exc c p st => .exc c p st
  | .bad => .bad
inductive SRs where
  | next (env : Ev) (st : Sto)
  | ret (w : Sv) (st : Sto)
  | brk (env : Ev) (st : Sto)
  | cont (env : Ev) (st : Sto)
  | exc (c : Nat) (p : List (Str × PyData)) (env : Ev) (st : Sto)
  | bad

/-- all of them data -/
def allD : List Sv → Option (List PyData)
  | [] => some []
  | .d x :: r => match allD r with
    | some xs => some (x :: xs)
    | none => none
  | .r _ :: _ => none
/-- what a value shows of itself -/
def view (st : Sto) : Sv → Option PyData
  | .d x => some x
  | .r n => match st[n]? with
    | some (.lst xs) => (match allD xs with
      | some ys => some (.list ys)
      | none => none)
    | some (.frz xs) => some (.list xs)
    | _ => none
def views (st : Sto) : List Sv → Option (List PyData)
  | [] => some []
  | s :: r => match view st s with
    | some x => (match views st r with
      | some xs => some (x :: xs)
      | none => none)
    | none => none

/-! ## The operations on data -/
inductive Prim where
  | add | sub | mul | fdiv | mod | neg
  | eq | ne | lt | le | gt | ge | isin | notin | isN | notN
  | idx | len | abs | int | strI | sum | all | max | join | isalnum | startswith | find | iadd | toTup | index | sortS | toLst
deriving DecidableEq

def one (c : Nat) : Str := ⟨#[c]⟩
def intMul (i j : Int) : Bool := decide (-(2 ^ 64) < i ∧ i < 2 ^ 64) || decide (-(2 ^ 64) < j ∧ j < 2 ^ 64)
/-- the scalars that are compared one by one -/
def flat : PyData → Bool
  | .none => true
  | .bool _ => true
  | .int _ => true
  | .str _ => true
  | _ => false
def intsOf : List PyData → Option (List Int)
  | [] => some []
  | .int i :: r => match intsOf r with
    | some is => some (i :: is)
    | none => none
  | _ => none
def boolsOf : List PyData → Option (List Bool)
  | [] => some []
  | .bool i :: r => match boolsOf r with
    | some is => some (i :: is)
    | none => none
  | _ => none
def strsOf : List PyData → Option (List Str)
  | [] => some []
  | .str i :: r => match strsOf r with
    | some is => some (i :: is)
    | none => none
  | _ => none
/-- the scalars that == tells apart as data does -/
def scalD : PyData → PyData → Bool
  | .none, .none => true | .none, .int _ => true | .int _, .none => true | .none, .bool _ => true | .bool _, .none => true | .none, .str _ => true | .str _, .none => true
  | .int _, .int _ => true | .bool _, .bool _ => true | .str _, .str _ => true
  | .int _, .str _ => true | .str _, .int _ => true | .bool _, .str _ => true | .str _, .bool _ => true
  | _, _ => false
/-- data that == may walk through -/
def shD (x : PyData) : Bool := x.canLay0 && decide (x.depth ≤ 1190)
def okEq (x y : PyData) : Bool := scalD x y || (shD x && shD y)
def lineOk (n : Nat) : Bool := Nat.ble n 16777216
def bindO {α β : Type} (o : Option α) (f : α → Option β) : Option β := match o with
  | some a => f a
  | none => none
def guard1 {α : Type} (b : Bool) (x : α) : Option α := match b with
  | true => some x
  | false => none
def inD (x : PyData) (xs : List PyData) : Bool := xs.any fun y => PyData.eqv y x
def isBool : PyData → Bool
  | .bool _ => true
  | _ => false
def maxI : List Int → Int
  | [] => 0
  | [x] => x
  | x :: r => if maxI r > x then maxI r else x
def isNone : PyData → Bool
  | .none => true
  | _ => false
/-- the types that isinstance is asked for -/
inductive TyN where
  | tB | tI | tS | tL | tT
deriving DecidableEq
def tyStr : TyN → String
  | .tB => "bool"
  | .tI => "int"
  | .tS => "str"
  | .tL => "list"
  | .tT => "tuple"
def isTy (t : TyN) : PyData → Option Bool
  | .none => some false
  | .bool _ => some (match t with
    | .tB => true
    | .tI => true
    | _ => false)
  | .int _ => some (match t with
    | .tI => true
    | _ => false)
  | .str _ => some (match t with
    | .tS => true
    | _ => false)
  | .list _ => some (match t with
    | .tL => true
    | _ => false)
  | .tuple _ => some (match t with
    | .tT => true
    | _ => false)
  | _ => none
/-- texts in order -/
def insS (x : Str) : List Str → List Str
  | [] => [x]
  | y :: r => if PySem.Spec.ltCps y.cps.toList x.cps.toList = true then y :: insS x r else x :: y :: r
def sortStr : List Str → List Str
  | [] => []
  | x :: r => insS x (sortStr r)
def prim : Prim → List PyData → Option PyData
  | .add, [.int i, .int j] => some (.int (i + j))
  | .add, [.str x, .str y] => guard1 (lineOk (x.length + y.length)) (.str (x ++ y))
  | .add, [.list xs, .list ys] => guard1 (lineOk (xs.length + ys.length)) (.list (xs ++ ys))
  | .add, [.tuple xs, .tuple ys] => guard1 (lineOk (xs.length + ys.length)) (.tuple (xs ++ ys))
  | .sub, [.int i, .int j] => some (.int (i - j))
  | .iadd, [.int i, .int j] => some (.int (i + j))
  | .iadd, [.str x, .str y] => guard1 (lineOk (x.length + y.length)) (.str (x ++ y))
  | .mul, [.int i, .int j] => guard1 (intMul i j) (.int (i * j))
  | .fdiv, [.int i, .int j] => guard1 (decide (0 < j ∧ j < 1073741824)) (.int (i / j))
  | .mod, [.int i, .int j] => guard1 (decide (0 < j)) (.int (i % j))
  | .neg, [.int i] => some (.int (-i))
  | .eq, [x, y] => guard1 (okEq x y) (.bool (PyData.eqv x y))
  | .ne, [x, y] => guard1 (okEq x y) (.bool (!PyData.eqv x y))
  | .lt, [.int i, .int j] => some (.bool (decide (i < j)))
  | .le, [.int i, .int j] => some (.bool (decide (i ≤ j)))
  | .le, [.str x, .str y] => some (.bool (!decide (y.cps.toList < x.cps.toList)))
  | .gt, [.int i, .int j] => some (.bool (decide (j < i)))
  | .ge, [.int i, .int j] => some (.bool (decide (j ≤ i)))
  | .isin, [x, .tuple ys] => guard1 (flat x && ys.all flat) (.bool (inD x ys))
  | .isin, [x, .list ys] => guard1 (flat x && ys.all flat) (.bool (inD x ys))
  | .isin, [.str x, .str y] => guard1 (decide (x.cps.toList.length = 1)) (.bool (decide (x.cps.toList.headD 0 ∈ y.cps.toList)))
  | .notin, [x, .tuple ys] => guard1 (flat x && ys.all flat) (.bool (!inD x ys))
  | .notin, [x, .list ys] => guard1 (flat x && ys.all flat) (.bool (!inD x ys))
  | .notin, [.str x, .str y] => guard1 (decide (x.cps.toList.length = 1)) (.bool (!decide (x.cps.toList.headD 0 ∈ y.cps.toList)))
  | .idx, [.tuple xs, .int i] => atI xs i
  | .idx, [.list xs, .int i] => atI xs i
  | .idx, [.dict [(.none, .list xs)], .int i] => atI xs i
  | .idx, [.str x, .int i] => guard1 (lineOk x.length) () |> (bindO · fun _ => bindO (atI x.cps.toList i) fun c => some (.str (one c)))
  | .len, [.list xs] => some (.int xs.length)
  | .len, [.dict [(.none, .list xs)]] => some (.int xs.length)
  | .len, [.tuple xs] => some (.int xs.length)
  | .len, [.str x] => guard1 (lineOk x.length) (.int x.length)
  | .toTup, [.list xs] => some (.tuple xs)
  | .toLst, [.list xs] => some (.list xs)
  | .sortS, [.list xs] => bindO (strsOf xs) fun ys => guard1 (decide (ys.length < 64)) (.list ((sortStr ys).map .str))
  | .abs, [.int i] => some (.int (if i < 0 then -i else i))
  | .int, [.int i] => some (.int i)
  | .int, [.bool b] => some (.int (if b then 1 else 0))
  | .int, [.str a] => guard1 (decide (a.length ≤ 640)) () |> (bindO · fun _ => bindO (PySem.intText? a) fun n => some (.int n))
  | .strI, [.int i] => guard1 (decide (i.natAbs.log2 < 1920)) (.str (toString i))
  | .sum, [.list xs] => bindO (intsOf xs) fun is => some (.int is.sum)
  | .max, [.int i, .int j] => some (.int (if j > i then j else i))
  | .max, [.list xs] => bindO (intsOf xs) fun is => guard1 (!is.isEmpty) (.int (maxI is))
  | .join, [.str s, .list xs] => bindO (strsOf xs) fun ys => guard1 (lineOk ((ys.map (·.length)).sum + ys.length * s.length)) (.str (Txt.join s ys))
  | .isalnum, [.str s] => some (.bool (Txt.isalnum s))
  | .startswith, [.str s, .str t] => some (.bool (Txt.startswith s t))
  | .find, [.str s, .str t] => some (.int (Txt.find s t))
  | .index, [.str s, .str t] => bindO (Txt.index0 s t) fun k => some (.int (k : Nat))
  | .isN, [x] => some (.bool (isNone x))
  | .notN, [x] => some (.bool (!isNone x))
  | .all, [.list xs] => bindO (boolsOf xs) fun bs => some (.bool (bs.all id))
  | _, _ => none
def toRs (st : Sto) : Option PyData → Rs Sv
  | some x => .ok (.d x) st
  | none => .bad
end PV

namespace PV
open PySem L2
mutual
inductive CE where
  | var (i : Nat)
  | lit (d : PyData)
  | glo (g : Nat)
  | op (p : Prim) (es : List CE)
  | sm (p : Prim) (o : CE) (es : List CE)
  | and_ (a b : CE)
  | or_ (a b : CE)
  | not_ (a : CE)
  | ife (c a b : CE)
  | chain (p q : Prim) (a b c : CE)
  | tup (es : List CE)
  | lstV (es : List CE)
  | lstR (es : List CE)
  | call (f : Nat) (es : List CE)
  | meth (o : CE) (c : Nat) (m : Str) (f : Nat) (es : List CE)
  | new (c f : Nat) (es : List CE)
  | fld (o : CE) (f : Str)
  | pop (o : CE)
  | slc (a : CE) (lo hi : List CE)
  | frz (e : CE)
  | lc (i : Nat) (it : CI) (cond : List CE) (elt : CE)
  | isi (t : TyN) (a : CE)
  | exIs (c : Nat)
  | exF (f : Str)
  | dnew
  | dget (o i : CE)
  | dgetD (o i e : CE)
  | din (neg : Bool) (i o : CE)
  | lc2 (i : Nat) (it : CI) (j : Nat) (it2 : CI) (cond : List CE) (elt : CE)
  | lrev (a : CE)
  | void
inductive CI where
  | lst (e : CE)
  | tup (e : CE)
  | range (es : List CE)
  | rev (e : CE)
  | str (e : CE)
  | enum (e : CE)
end
inductive CT where
  | name (i : Nat)
  | tup (is : List Nat)
  | sub (o i : CE)
  | fld (o : CE) (f : Str)
inductive CS where
  | set (t : CT) (e : CE)
  | aug (i : Nat) (p : Prim) (e : CE)
  | augF (o : CE) (f : Str) (p : Prim) (e : CE)
  | drop (e : CE)
  | app (o e : CE)
  | ext (o e : CE)
  | ite (c : CE) (a b : List CS)
  | whl (c : CE) (b : List CS)
  | fr (t : CT) (it : CI) (b : List CS)
  | ret (e : CE)
  | retN
  | brk
  | cont
  | rse (c : Nat) (es : List CE)
  | tri (b : List CS) (i c : Nat) (h : List (List CE × CE))
  | rsf (c : Nat) (f : Str) (e : CE)
  | ini (f : Str)
  | dput (o i e : CE)

structure Ctx where
  call : Nat → List Sv → Sto → Rs Sv
  init : Nat → List Sv → Sto → Rs Sv
  fld : Nat → Str → Bool
  glo : Nat → PyData
  sub : Nat → Nat → Option Bool
  exn : Option Nat
  pay : List (Str × PyData) := []
  deep : Bool := false
  xf : Nat → Str → Bool := fun _ _ => false

/-- a call: data alone are handed on without the cells -/
def evCall (call : List Sv → Sto → Rs Sv) (ss : List Sv) (st : Sto) : Rs Sv := match allD ss with
  | some ds => (match call (ds.map .d) [] with
    | .ok (.d x) _ => .ok (.d x) st
    | .ok (.r m) st2 => (match st2[m]? with
      | some (.lst xs) => (match allD xs with
        | some ys => .ok (.r st.length) (st ++ [.lst (ys.map .d)])
        | none => .bad)
      | some (.dct kvs) => .ok (.r st.length) (st ++ [.dct kvs])
      | _ => .bad)
    | .exc c p _ => .exc c p st
    | _ => .bad)
  | none => call ss st
def setC (st : Sto) (n : Nat) (c : Cell) : Sto := st.set n c
def putS (f : Str) (v : Sv) : List (Str × Sv) → List (Str × Sv)
  | [] => [(f, v)]
  | (g, x) :: r => if g = f then (g, v) :: r else (g, x) :: putS f v r
/-- a dict: its pairs in order, the keys texts -/
def lookD (kvs : List (Str × PyData)) (k : Str) : Option PyData := (kvs.find? fun kv => decide (kv.1 = k)).map (·.2)
def putD (kvs : List (Str × PyData)) (k : Str) (v : PyData) : List (Str × PyData) :=
  if (kvs.any fun kv => decide (kv.1 = k)) = true then kvs.map (fun kv => if kv.1 = k then (kv.1, v) else kv) else kvs ++ [(k, v)]
def onD (st : Sto) (s : Sv) : Option (Nat × List (Str × PyData)) := match s with
  | .r n => (match st[n]? with
    | some (.dct kvs) => some (n, kvs)
    | _ => none)
  | .d _ => none
def strK (s : Sv) : Option Str := match s with
  | .d (.str x) => some x
  | _ => none
def dgetR (a : Option (Nat × List (Str × PyData))) (k : Option Str) (st : Sto) : Rs Sv := match a, k with
  | some p, some x => (match lookD p.2 x with
    | some v => .ok (.d v) st
    | none => .bad)
  | _, _ => .bad
def dck (a : Option (Nat × List (Str × PyData))) (r : Rs Sv) : Rs Sv := match a with
  | some _ => r
  | none => .bad
def dgetDR (a : Option (Nat × List (Str × PyData))) (k : Option Str) (s : Sv) (st : Sto) : Rs Sv := match a, k with
  | some p, some x => (match lookD p.2 x with
    | some v => .ok (.d v) st
    | none => .ok s st)
  | _, _ => .bad
def dinR (neg : Bool) (a : Option (Nat × List (Str × PyData))) (k : Option Str) (st : Sto) : Rs Sv := match a, k with
  | some p, some x => .ok (.d (.bool (neg != (lookD p.2 x).isSome))) st
  | _, _ => .bad
def consO : Option PyData → List PyData → List PyData
  | some y, ys => y :: ys
  | none, ys => ys
/-- the elements that a comprehension keeps; nothing may be raised in it -/
def lcGo (f : PyData → Sto → Rs (Option PyData)) : List PyData → Sto → Option (List PyData × Sto)
  | [], st => some ([], st)
  | x :: r, st => match f x st with
    | .ok o st1 => (match lcGo f r st1 with
      | some (ys, st2) => some (consO o ys, st2)
      | none => none)
    | _ => none
/-- two clauses: what the inner loops give, one after the other -/
def lcGo2 (f : PyData → Sto → Option (List PyData × Sto)) : List PyData → Sto → Option (List PyData × Sto)
  | [], st => some ([], st)
  | x :: r, st => match f x st with
    | some (ys, st1) => (match lcGo2 f r st1 with
      | some (zs, st2) => some (ys ++ zs, st2)
      | none => none)
    | none => none
def inner2 (r : Rs (List PyData)) (k : List PyData → Sto → Option (List PyData × Sto)) : Option (List PyData × Sto) := match r with
  | .ok ys st => k ys st
  | _ => none
def lcMost (o : Option (List PyData × Sto)) : Bool := match o with
  | some (ys, _) => Nat.ble ys.length 1000000
  | none => false
def lcEnd (b : Bool) (o : Option (List PyData × Sto)) : Rs Sv := match b, o with
  | true, some (ys, st) => .ok (.d (.list ys)) st
  | _, _ => .bad
def lcEnd2 (o : Option (List PyData × Sto)) : Rs Sv := lcEnd (lcMost o) o
def asD : Rs Sv → Rs PyData
  | .ok (.d x) st => .ok x st
  | .exc c p st => .exc c p st
  | _ => .bad
def partInt : PyData → Option Int
  | .int i => some i
  | _ => none
def cutD (xs : List PyData) (lo hi : Option Int) : List PyData := (xs.drop (HT.sIx xs.length 0 lo)).take (HT.sIx xs.length xs.length hi - HT.sIx xs.length 0 lo)
def sliceD (x : PyData) (lo hi : Option Int) : Option PyData := match x with
  | .list xs => some (.list (cutD xs lo hi))
  | .tuple xs => some (.tuple (cutD xs lo hi))
  | .str s => guard1 (lineOk s.length) (.str (cutS s lo hi))
  | _ => none
/-- a part of a slice: left out, or an int -/
def partOf : List Sv → Option (Option Int)
  | [] => some none
  | [.d (.int i)] => some (some i)
  | _ => none
def onPart (o : Option (Option Int)) (k : Option Int → Rs Sv) : Rs Sv := match o with
  | some l => k l
  | none => .bad
/-- 0, 1, .. as data -/
def rangeD (lo : Int) (n : Nat) : List PyData := (List.range n).map fun (i : Nat) => .int (lo + (i : Int))
def downD (hi : Int) (n : Nat) : List PyData := (List.range n).map fun (i : Nat) => .int (hi - (i : Int))
def rngOk (i : Int) : Bool := decide (-(2 ^ 62) ≤ i ∧ i < 2 ^ 62)
def rangeOf (ss : List Sv) (st : Sto) : Rs (List PyData) := match ss with
  | [.d (.int n)] => (match rngOk n with
    | true => .ok (rangeD 0 n.toNat) st
    | false => .bad)
  | [.d (.int a), .d (.int b)] => (match rngOk a && rngOk b with
    | true => .ok (rangeD a (b - a).toNat) st
    | false => .bad)
  | [.d (.int a), .d (.int b), .d (.int c)] => (match rngOk a && rngOk b && decide (c = -1) with
    | true => .ok (downD a (a - b).toNat) st
    | false => .bad)
  | _ => .bad
/-- a text's signs -/
def signsD (x : Str) : List PyData := x.cps.toList.map fun c => .str (one c)
def enumFrom : Nat → List PyData → List PyData
  | _, [] => []
  | n, x :: r => .tuple [.int (n : Int), x] :: enumFrom (n + 1) r
def condB (r : Rs Sv) (k : Sto → Rs (Option PyData)) : Rs (Option PyData) := match r with
  | .ok (.d (.bool true)) st => k st
  | .ok (.d (.bool false)) st => .ok none st
  | .exc c p st => .exc c p st
  | _ => .bad
def someR : Rs Sv → Rs (Option PyData)
  | .ok (.d x) st => .ok (some x) st
  | .exc c p st => .exc c p st
  | _ => .bad
mutual
def evE (G : Ctx) : CE → Ev → Sto → Rs Sv
  | .var i, env, st => (match env[i]? with
    | some (some s) => .ok s st
    | _ => .bad)
  | .lit d, _, st => .ok (.d d) st
  | .glo g, _, st => .ok (.d (G.glo g)) st
  | .op p es, env, st => (evEs G es env st).bind fun ss st1 => toRs st1 (bindO (views st1 ss) (prim p))
  | .sm p o es, env, st => (evE G o env st).bind fun so st1 => (match so with
    | .d (.str x) => (evEs G es env st1).bind fun ss st2 => toRs st2 (bindO (views st2 ss) fun ds => prim p (.str x :: ds))
    | _ => .bad)
  | .and_ a b, env, st => (evE G a env st).bind fun s st1 => (match s with
    | .d (.bool true) => evE G b env st1
    | .d (.bool false) => .ok (.d (.bool false)) st1
    | _ => .bad)
  | .or_ a b, env, st => (evE G a env st).bind fun s st1 => (match s with
    | .d (.bool true) => .ok (.d (.bool true)) st1
    | .d (.bool false) => evE G b env st1
    | _ => .bad)
  | .not_ a, env, st => (evE G a env st).bind fun s st1 => (match s with
    | .d (.bool b) => .ok (.d (.bool (!b))) st1
    | _ => .bad)
  | .ife c a b, env, st => (evE G c env st).bind fun s st1 => (match s with
    | .d (.bool true) => evE G a env st1
    | .d (.bool false) => evE G b env st1
    | _ => .bad)
  | .chain p q a b c, env, st => (evE G a env st).bind fun sa st1 => (evE G b env st1).bind fun sb st2 =>
      (match bindO (views st2 [sa, sb]) (prim p) with
      | some (.bool true) => (evE G c env st2).bind fun sc st3 => toRs st3 (bindO (views st3 [sb, sc]) (prim q))
      | some (.bool false) => .ok (.d (.bool false)) st2
      | _ => .bad)
  | .tup es, env, st => (evEs G es env st).bind fun ss st1 => (match allD ss with
    | some xs => .ok (.d (.tuple xs)) st1
    | none => .bad)
  | .lstV es, env, st => (evEs G es env st).bind fun ss st1 => (match allD ss with
    | some xs => .ok (.d (.list xs)) st1
    | none => .bad)
  | .lstR es, env, st => (evEs G es env st).bind fun ss st1 => .ok (.r st1.length) (st1 ++ [.lst ss])
  | .call f es, env, st => (evEs G es env st).bind fun ss st1 => evCall (G.call f) ss st1
  | .meth o c m f es, env, st => (evE G o env st).bind fun so st1 => (match so with
    | .r n => (match st1[n]? with
      | some (.obj c' fs) => (match decide (c' = c), fs.lookup m with
        | true, none => (evEs G es env st1).bind fun ss st2 => G.call f (.r n :: ss) st2
        | _, _ => .bad)
      | _ => .bad)
    | _ => .bad)
  | .new c f es, env, st => (evEs G es env st).bind fun ss st1 => (G.init f (.r st1.length :: ss) (st1 ++ [.obj c []])).bind fun w st2 => (match w with
    | .d .none => .ok (.r st1.length) st2
    | _ => .bad)
  | .fld o f, env, st => (evE G o env st).bind fun so st1 => (match so with
    | .r n => (match st1[n]? with
      | some (.obj c fs) => (match G.fld c f, fs.lookup f with
        | true, some s => .ok s st1
        | _, _ => .bad)
      | _ => .bad)
    | _ => .bad)
  | .pop o, env, st => (evE G o env st).bind fun so st1 => (match so with
    | .r n => (match st1[n]? with
      | some (.lst xs) => (match xs[xs.length - 1]? with
        | some s => .ok s (setC st1 n (.lst xs.dropLast))
        | none => .bad)
      | _ => .bad)
    | _ => .bad)
  | .slc a lo hi, env, st => (evE G a env st).bind fun sa st1 => (evEs G lo env st1).bind fun sl st2 => onPart (partOf sl) fun l => (evEs G hi env st2).bind fun sh st3 => onPart (partOf sh) fun h => toRs st3 (bindO (view st3 sa) fun x => sliceD x l h)
  | .frz e, env, st => (evE G e env st).bind fun s st1 => (match s with
    | .d x => .ok (.d x) st1
    | .r n => (match st1[n]? with
      | some (.lst xs) => (match allD xs with
        | some ys => .ok (.d (.list ys)) (setC st1 n (.frz ys))
        | none => .bad)
      | some (.frz ys) => .ok (.d (.list ys)) st1
      | _ => .bad))
  | .lc i it cnd elt, env, st => (evI G it env st).bind fun xs st1 => lcEnd (Nat.ble xs.length 1000000) (lcGo (fun x st2 => condAll G cnd (env.set i (some (.d x))) st2 fun st3 => someR (evE G elt (env.set i (some (.d x))) st3)) xs st1)
  | .isi t a, env, st => (evE G a env st).bind fun s st1 => toRs st1 (bindO (bindO (view st1 s) (isTy t)) fun b => some (.bool b))
  | .exIs c, _, st => (match G.exn with
    | some k => (match G.sub k c with
      | some b => .ok (.d (.bool b)) st
      | none => .bad)
    | none => .bad)
  | .exF f, _, st => (match G.exn with
    | some k => (match G.pay.lookup f, G.xf k f with
      | some (.str x), true => .ok (.d (.str x)) st
      | _, _ => .bad)
    | none => .bad)
  | .dnew, _, st => .ok (.r st.length) (st ++ [.dct []])
  | .dget o i, env, st => (evE G o env st).bind fun so st1 => (evE G i env st1).bind fun si st2 => dgetR (onD st2 so) (strK si) st2
  | .dgetD o i e, env, st => (evE G o env st).bind fun so st1 => dck (onD st1 so) ((evE G i env st1).bind fun si st2 => (evE G e env st2).bind fun se st3 => dgetDR (onD st3 so) (strK si) se st3)
  | .din neg i o, env, st => (evE G i env st).bind fun si st1 => (evE G o env st1).bind fun so st2 => dinR neg (onD st2 so) (strK si) st2
  | .lc2 i it j it2 _ elt, env, st => (evI G it env st).bind fun xs st1 => lcEnd2 (lcGo2 (fun x st2 => inner2 (evI G it2 ((env.set j none).set i (some (.d x))) st2) fun us st3 => lcGo (fun y st4 => someR (evE G elt (((env.set j none).set i (some (.d x))).set j (some (.d y))) st4)) us st3) xs st1)
  | .lrev a, env, st => (evE G a env st).bind fun s st1 => (match view st1 s with
    | some (.list xs) => .ok (.r st1.length) (st1 ++ [.lst (xs.reverse.map .d)])
    | _ => .bad)
  | .void, _, _ => .bad
def evEs (G : Ctx) : List CE → Ev → Sto → Rs (List Sv)
  | [], _, st => .ok [] st
  | e :: r, env, st => (evE G e env st).bind fun s st1 => (evEs G r env st1).bind fun ss st2 => .ok (s :: ss) st2
def condAll (G : Ctx) : List CE → Ev → Sto → (Sto → Rs (Option PyData)) → Rs (Option PyData)
  | [], _, st, k => k st
  | c :: _, env, st, k => condB (evE G c env st) k
def evI (G : Ctx) : CI → Ev → Sto → Rs (List PyData)
  | .lst e, env, st => (evE G e env st).bind fun s st1 => (match s with
    | .d (.list xs) => .ok xs st1
    | _ => .bad)
  | .tup e, env, st => (evE G e env st).bind fun s st1 => (match s with
    | .d (.tuple xs) => .ok xs st1
    | _ => .bad)
  | .range es, env, st => (evEs G es env st).bind fun ss st1 => rangeOf ss st1
  | .rev e, env, st => (evE G e env st).bind fun s st1 => (match s with
    | .d (.list xs) => .ok xs.reverse st1
    | _ => .bad)
  | .str e, env, st => (evE G e env st).bind fun s st1 => (match s with
    | .d (.str x) => .ok (signsD x) st1
    | _ => .bad)
  | .enum e, env, st => (evE G e env st).bind fun s st1 => (match s with
    | .d (.list xs) => .ok (enumFrom 0 xs) st1
    | _ => .bad)
end
def bindNames : List Nat → List PyData → Ev → Ev
  | i :: is, x :: xs, env => bindNames is xs (env.set i (some (.d x)))
  | _, _, env => env
/-- the store of a value at a target -/
def evT (G : Ctx) (t : CT) (s : Sv) (env : Ev) (st : Sto) : Option (Ev × Sto) := match t with
  | .name i => some (env.set i (some s), st)
  | .tup is => (match s with
    | .d (.tuple xs) => guard1 (decide (xs.length = is.length)) (bindNames is xs env, st)
    | _ => none)
  | .sub o i => (match evE G o env st with
    | .ok (.r n) st1 => (match evE G i env st1 with
      | .ok (.d (.int j)) st2 => (match st2[n]? with
        | some (.lst xs) => (match ixN xs.length j with
          | some k => some (env, setC st2 n (.lst (xs.set k s)))
          | none => none)
        | _ => none)
      | _ => none)
    | _ => none)
  | .fld o f => (match evE G o env st with
    | .ok (.r n) st1 => (match st1[n]? with
      | some (.obj c fs) => guard1 (G.fld c f && decide (fs.length < 1000)) (env, setC st1 n (.obj c (putS f s fs)))
      | _ => none)
    | _ => none)
def nextO : Option (Ev × Sto) → SRs
  | some (env, st) => .next env st
  | none => .bad
/-- what follows a turn's body -/
def afterB (r : SRs) (k : Ev → Sto → SRs) : SRs := match r with
  | .next env st => k env st
  | .cont env st => k env st
  | .brk env st => .next env st
  | .ret w st => .ret w st
  | .exc c p env st => .exc c p env st
  | .bad => .bad
def onT (r : Rs Sv) (env : Ev) (kt kf : Sto → SRs) : SRs := match r with
  | .ok (.d (.bool true)) st => kt st
  | .ok (.d (.bool false)) st => kf st
  | .exc c p st => .exc c p env st
  | _ => .bad
def loopW (test : Ev → Sto → Rs Sv) (body : Ev → Sto → SRs) : Nat → Ev → Sto → SRs
  | 0, _, _ => .bad
  | n + 1, env, st => onT (test env st) env (fun st1 => afterB (body env st1) fun env2 st2 => loopW test body n env2 st2) fun st1 => .next env st1
def loopF (bnd : PyData → Ev → Sto → Option (Ev × Sto)) (body : Ev → Sto → SRs) : List PyData → Ev → Sto → SRs
  | [], env, st => .next env st
  | x :: r, env, st => (match bnd x env st with
    | some (env1, st1) => afterB (body env1 st1) fun env2 st2 => loopF bnd body r env2 st2
    | none => .bad)
def lift (env : Ev) (r : Rs Sv) (k : Sv → Sto → SRs) : SRs := match r with
  | .ok s st => k s st
  | .exc c p st => .exc c p env st
  | .bad => .bad
/-- what an except suite gives back -/
def retH (r : Rs Sv) : SRs := match r with
  | .ok s st => .ret s st
  | _ => .bad
def onH (r : Rs Sv) (kt kf : Sto → SRs) : SRs := match r with
  | .ok (.d (.bool true)) st => kt st
  | .ok (.d (.bool false)) st => kf st
  | _ => .bad
def evH (G : Ctx) : List (List CE × CE) → Ev → Sto → SRs
  | [], env, st => .next env st
  | ([], e) :: _, env, st => retH (evE G e env st)
  | ([c], e) :: r, env, st => onH (evE G c env st) (fun st1 => retH (evE G e env st1)) fun st1 => evH G r env st1
  | _ :: _, _, _ => .bad
def dputR (env : Ev) (s : Sv) (a : Option (Nat × List (Str × PyData))) (k : Option Str) (st : Sto) : SRs := match s, a, k with
  | .d v, some p, some x => (match decide (p.2.length < 1000000) with
    | true => .next env (setC st p.1 (.dct (putD p.2 x v)))
    | false => .bad)
  | _, _, _ => .bad
/-- what an exception may hold: nothing, or a text -/
def okP : List (Str × PyData) → Bool
  | [] => true
  | [(_, .str _)] => true
  | _ => false
/-- an exception is looked at by a clause -/
def catchH (o : Option Bool) (b : Bool) (p : List (Str × PyData)) (h : SRs) (no : SRs) : SRs := match o, b, okP p with
  | some true, true, true => h
  | some false, _, _ => no
  | _, _, _ => .bad
mutual
def evS (G : Ctx) (wf : Nat) : CS → Ev → Sto → SRs
  | .set t e, env, st => lift env (evE G e env st) fun s st1 => nextO (evT G t s env st1)
  | .aug i p e, env, st => (match env[i]? with
    | some (some (.d x)) => lift env (evE G e env st) fun s st1 => (match s with
      | .d y => (match prim p [x, y] with
        | some z => .next (env.set i (some (.d z))) st1
        | none => .bad)
      | _ => .bad)
    | _ => .bad)
  | .augF o f p e, env, st => lift env (evE G o env st) fun so st1 => (match so with
    | .r n => (match st1[n]? with
      | some (.obj c fs) => (match G.fld c f, fs.lookup f with
        | true, some (.d x) => lift env (evE G e env st1) fun s st2 => (match s, st2[n]? with
          | .d y, some (.obj c2 fs2) => (match prim p [x, y], decide (c2 = c ∧ fs2.length < 1000) with
            | some z, true => .next env (setC st2 n (.obj c (putS f (.d z) fs2)))
            | _, _ => .bad)
          | _, _ => .bad)
        | _, _ => .bad)
      | _ => .bad)
    | _ => .bad)
  | .drop e, env, st => lift env (evE G e env st) fun _ st1 => .next env st1
  | .app o e, env, st => lift env (evE G o env st) fun so st1 => (match so with
    | .r n => (match st1[n]? with
      | some (.lst _) => lift env (evE G e env st1) fun s st2 => (match st2[n]? with
        | some (.lst xs) => (match decide (xs.length < 1000000) with
          | true => .next env (setC st2 n (.lst (xs ++ [s])))
          | false => .bad)
        | _ => .bad)
      | _ => .bad)
    | _ => .bad)
  | .ext o e, env, st => lift env (evE G o env st) fun so st1 => (match so with
    | .r n => (match st1[n]? with
      | some (.lst _) => lift env (evE G e env st1) fun s st2 => (match s with
        | .d (.list ys) => (match st2[n]? with
          | some (.lst xs) => (match decide (xs.length + ys.length < 1000000) with
            | true => .next env (setC st2 n (.lst (xs ++ ys.map .d)))
            | false => .bad)
          | _ => .bad)
        | _ => .bad)
      | _ => .bad)
    | _ => .bad)
  | .ite c a b, env, st => onT (evE G c env st) env (fun st1 => evSs G wf a env st1) fun st1 => evSs G wf b env st1
  | .whl c b, env, st => loopW (fun env st => evE G c env st) (fun env st => evSs G wf b env st) wf env st
  | .fr t it b, env, st => (match evI G it env st with
    | .ok xs st1 => loopF (fun x env st => evT G t (.d x) env st) (fun env st => evSs G wf b env st) xs env st1
    | .exc c p st1 => .exc c p env st1
    | .bad => .bad)
  | .ret e, env, st => lift env (evE G e env st) fun s st1 => .ret s st1
  | .retN, _, st => .ret (.d .none) st
  | .brk, env, st => .brk env st
  | .cont, env, st => .cont env st
  | .rse c es, env, st => (match es with
    | [] => .exc c [] env st
    | _ => .bad)
  | .tri b i c h, env, st => (match evSs G wf b env st with
    | .exc k p env1 st1 => catchH (G.sub k c) (decide (i < env1.length)) p (evH { G with exn := some k, pay := p } h (env1.set i none) st1) (.exc k p env1 st1)
    | r => r)
  | .rsf c f e, env, st => (match G.deep with
    | true => lift env (evE G e env st) fun s st1 => (match s with
      | .d (.str x) => .exc c [(f, .str x)] env st1
      | _ => .bad)
    | false => .bad)
  | .ini _, _, _ => .bad
  | .dput o i e, env, st => lift env (evE G e env st) fun s st1 => lift env (evE G o env st1) fun so st2 => lift env (evE G i env st2) fun si st3 => dputR env s (onD st3 so) (strK si) st3
def evSs (G : Ctx) (wf : Nat) : List CS → Ev → Sto → SRs
  | [], env, st => .next env st
  | s :: r, env, st => (match evS G wf s env st with
    | .next env1 st1 => evSs G wf r env1 st1
    | x => x)
end
end PV
namespace PV
open PySem L2
example (G : Ctx) (a b : CE) (env : Ev) (st : Sto) : evE G (.and_ a b) env st = (evE G a env st).bind fun s st1 => (match s with
    | .d (.bool true) => evE G b env st1
    | .d (.bool false) => .ok (.d (.bool false)) st1
    | _ => .bad) := rfl
example (G : Ctx) (e : CE) (r : List CE) (env : Ev) (st : Sto) : evEs G (e :: r) env st = (evE G e env st).bind fun s st1 => (evEs G r env st1).bind fun ss st2 => .ok (s :: ss) st2 := rfl
end PV

namespace PV
open PySem L2
/-- the script: a list that is read alone -/
def scrD (ns : List Int) : PyData := .dict [(.none, .list (ns.map .int))]
section
variable (K : PySem.W.Frag) (ca : Nat → Addr)
mutual
/-- v stands for the data in what is frozen -/
inductive DRep (F : Hp) : V → PyData → Prop
  | non : DRep F .non .none
  | bl (b : Bool) : DRep F (.bl b) (.bool b)
  | int (i : Int) : DRep F (.int i) (.int i)
  | str (x : Str) : DRep F (.str x) (.str x)
  | lst {a : Addr} {xs : List V} {ds : List PyData} : Rd F a (.lst xs) → DReps F xs ds → DRep F (.ref a) (.list ds)
  | scr {a : Addr} {ns : List Int} : SqL K F a (ns.map V.int) → DRep F (.ref a) (scrD ns)
  | tup {a : Addr} {xs : List V} {ds : List PyData} : SqT K F a xs → DReps F xs ds → DRep F (.ref a) (.tuple ds)
inductive DReps (F : Hp) : List V → List PyData → Prop
  | nil : DReps F [] []
  | cons {v : V} {vs : List V} {d : PyData} {ds : List PyData} : DRep F v d → DReps F vs ds → DReps F (v :: vs) (d :: ds)
end
abbrev Sub (F F' : Hp) : Prop := ∀ a o, F a = some o → F' a = some o
variable {K}
theorem sub_r {F F' : Hp} {a : Addr} {u : HO} (e : Sub F F') (h : Rd F a u) : Rd F' a u := by
  rcases h with h | ⟨o, h⟩
  · exact .inl (e _ _ h)
  · exact .inr ⟨o, e _ _ h⟩
theorem sub_l {F F' : Hp} {a : Addr} {xs : List V} (e : Sub F F') (h : SqL K F a xs) : SqL K F' a xs := by
  rcases h with (h | ⟨o, h⟩) | h
  · exact .inl (.inl (e _ _ h))
  · exact .inl (.inr ⟨o, e _ _ h⟩)
  · exact .inr h
theorem sub_t {F F' : Hp} {a : Addr} {xs : List V} (e : Sub F F') (h : SqT K F a xs) : SqT K F' a xs := by
  rcases h with (h | ⟨o, h⟩) | h
  · exact .inl (.inl (e _ _ h))
  · exact .inl (.inr ⟨o, e _ _ h⟩)
  · exact .inr h
mutual
theorem DRep.mono {F F' : Hp} (e : Sub F F') : ∀ {v : V} {d : PyData}, DRep K F v d → DRep K F' v d
  | _, _, .non => .non
  | _, _, .bl b => .bl b
  | _, _, .int b => .int b
  | _, _, .str b => .str b
  | _, _, .lst h r => .lst (sub_r e h) (DReps.mono e r)
  | _, _, .scr h => .scr (sub_l e h)
  | _, _, .tup h r => .tup (sub_t e h) (DReps.mono e r)
theorem DReps.mono {F F' : Hp} (e : Sub F F') : ∀ {v : List V} {d : List PyData}, DReps K F v d → DReps K F' v d
  | _, _, .nil => .nil
  | _, _, .cons h r => .cons (DRep.mono e h) (DReps.mono e r)
end
mutual
theorem DRep.dp {F : Hp} : ∀ {v : V} {d : PyData}, DRep K F v d → d.canLay0 = true → Dp K F v d
  | _, _, .non, _ => .non
  | _, _, .bl b, _ => .bl b
  | _, _, .int b, _ => .int b
  | _, _, .str b, _ => .str b
  | _, _, .lst h r, e => .lst (.inl h) (DReps.dp r (by simpa [PyData.canLay0] using e))
  | _, _, .tup h r, e => .tup h (DReps.dp r (by simpa [PyData.canLay0] using e))
  | _, _, .scr h, e => by simp [scrD, PyData.canLay0] at e
theorem DReps.dp {F : Hp} : ∀ {v : List V} {d : List PyData}, DReps K F v d → PyData.canLayAll0 d = true → DpAll K F v d
  | _, _, .nil, _ => .nil
  | _, _, .cons h r, e => by
    have e' := Bool.and_eq_true_iff.mp (by simpa only [PyData.canLayAll0] using e)
    exact .cons (DRep.dp h e'.1) (DReps.dp r e'.2)
end
theorem DReps.length {F : Hp} : ∀ {vs : List V} {ds : List PyData}, DReps K F vs ds → vs.length = ds.length
  | _, _, .nil => rfl
  | _, _, .cons _ r => congrArg (· + 1) r.length
theorem DReps.append {F : Hp} : ∀ {vs : List V} {ds : List PyData} {vs' : List V} {ds' : List PyData}, DReps K F vs ds → DReps K F vs' ds' → DReps K F (vs ++ vs') (ds ++ ds')
  | _, _, _, _, .nil, s => s
  | _, _, _, _, .cons h r, s => .cons h (r.append s)
theorem DReps.get {F : Hp} : ∀ {vs : List V} {ds : List PyData} {i : Nat} {d : PyData}, DReps K F vs ds → ds[i]? = some d → ∃ v, vs[i]? = some v ∧ DRep K F v d
  | _, _, _, _, .nil, e => by simp at e
  | _, _, 0, _, .cons h _, e => by simp at e; subst e; exact ⟨_, rfl, h⟩
  | _, _, i + 1, _, .cons _ r, e => by
    obtain ⟨v, a, b⟩ := DReps.get (i := i) r (by simpa using e)
    exact ⟨v, by simpa using a, b⟩
theorem DReps.take {F : Hp} : ∀ {vs : List V} {ds : List PyData} (n : Nat), DReps K F vs ds → DReps K F (vs.take n) (ds.take n)
  | _, _, 0, _ => .nil
  | _, _, _ + 1, .nil => .nil
  | _, _, n + 1, .cons h r => .cons h (r.take n)
theorem DReps.drop {F : Hp} : ∀ {vs : List V} {ds : List PyData} (n : Nat), DReps K F vs ds → DReps K F (vs.drop n) (ds.drop n)
  | _, _, 0, r => r
  | _, _, _ + 1, .nil => .nil
  | _, _, n + 1, .cons _ r => r.drop n
theorem DReps.reverse {F : Hp} : ∀ {vs : List V} {ds : List PyData}, DReps K F vs ds → DReps K F vs.reverse ds.reverse
  | _, _, .nil => .nil
  | _, _, .cons h r => by
    rw [List.reverse_cons, List.reverse_cons]
    exact r.reverse.append (.cons h .nil)
variable (K)
/-- a value of the small language -/
def SRep (F : Hp) (ρ : List Addr) (v : V) : Sv → Prop
  | .d x => DRep K F v x
  | .r n => ∃ a, ρ[n]? = some a ∧ v = .ref a
abbrev SReps (F : Hp) (ρ : List Addr) : List V → List Sv → Prop := Paired (SRep K F ρ)
def CellOk (H F : Hp) (ρ : List Addr) (a : Addr) : Cell → Prop
  | .lst xs => F a = none ∧ ∃ vs, H a = some (.lst vs) ∧ SReps K F ρ vs xs
  | .frz xs => ∃ vs, F a = some (.lst vs) ∧ DReps K F vs xs
  | .obj c fs => F a = none ∧ ∃ dx vfs, H a = some (.ins (ca c) dx vfs) ∧ Paired (fun (p : Str × V) (q : Str × Sv) => p.1 = q.1 ∧ SRep K F ρ p.2 q.2) vfs fs
  | .dct kvs => F a = none ∧ ∃ vks : List (Key × V), H a = some (.dK vks) ∧ Paired (fun (p : Key × V) (q : Str × PyData) => p.1 = .inr q.1 ∧ DRep K F p.2 q.2) vks kvs
structure Rel (H F : Hp) (ρ : List Addr) (st : Sto) : Prop where
  sub : Sub F H
  nd : ρ.Nodup
  cells : Paired (CellOk K ca H F ρ) ρ st
structure Ext (ρ : List Addr) (H F : Hp) (ρ' : List Addr) (H' F' : Hp) : Prop where
  ff : Sub F F'
  rr : ∃ m, ρ' = ρ ++ m ∧ ∀ a ∈ m, H a = none
  hh : ∀ a o, H a = some o → a ∉ ρ → H' a = some o
  th : ∀ a o, H a = some o → ∃ o', H' a = some o'
  fn : ∀ a o, F' a = some o → F a = some o ∨ H a = none ∨ a ∈ ρ
def EnvOk (F : Hp) (ρ : List Addr) (σ : L2.St) (env : Ev) : Prop := σ.length = env.length ∧ ∀ (i : Nat) (s : Sv), env[i]? = some (some s) → ∃ v, σ[i]? = some (some v) ∧ SRep K F ρ v s
variable {K ca}
theorem Ext.refl (ρ : List Addr) (H F : Hp) : Ext ρ H F ρ H F := ⟨fun _ _ h => h, ⟨[], by simp, by simp⟩, fun _ _ h _ => h, fun _ o h => ⟨o, h⟩, fun _ _ h => .inl h⟩
theorem Ext.trans {ρ ρ' ρ'' : List Addr} {H F H' F' H'' F'' : Hp} (a : Ext ρ H F ρ' H' F') (b : Ext ρ' H' F' ρ'' H'' F'') : Ext ρ H F ρ'' H'' F'' := by
  obtain ⟨m, em, hm⟩ := a.rr
  obtain ⟨m', em', hm'⟩ := b.rr
  have back : ∀ x, H' x = none → H x = none := fun x hx => by
    cases q : H x with
    | none => rfl
    | some o =>
      obtain ⟨o', e⟩ := a.th x o q
      rw [hx] at e; cases e
  refine ⟨fun x o h => b.ff x o (a.ff x o h), ⟨m ++ m', by rw [em', em, List.append_assoc], fun x hx => ?_⟩, fun x o h hx => ?_, fun x o h => ?_, fun x o h => ?_⟩
  · rcases List.mem_append.mp hx with hx | hx
    · exact hm x hx
    · exact back x (hm' x hx)
  · refine b.hh x o (a.hh x o h hx) fun hx' => ?_
    rw [em] at hx'
    rcases List.mem_append.mp hx' with z | z
    · exact hx z
    · rw [hm x z] at h; cases h
  · obtain ⟨o', e⟩ := a.th x o h
    exact b.th x o' e
  · rcases b.fn x o h with z | z | z
    · exact a.fn x o z
    · exact .inr (.inl (back x z))
    · rw [em] at z
      rcases List.mem_append.mp z with z | z
      · exact .inr (.inr z)
      · exact .inr (.inl (hm x z))
theorem Ext.idx {ρ ρ' : List Addr} {H F H' F' : Hp} (e : Ext ρ H F ρ' H' F') {n : Nat} {a : Addr} (h : ρ[n]? = some a) : ρ'[n]? = some a := by
  obtain ⟨m, em, _⟩ := e.rr
  rw [em, List.getElem?_append_left (List.getElem?_eq_some_iff.mp h).1]
  exact h
theorem SRep.ext {ρ ρ' : List Addr} {H F H' F' : Hp} (e : Ext ρ H F ρ' H' F') {v : V} {s : Sv} (h : SRep K F ρ v s) : SRep K F' ρ' v s := by
  cases s with
  | d x => exact DRep.mono e.ff h
  | r n =>
    obtain ⟨a, h1, h2⟩ := h
    exact ⟨a, e.idx h1, h2⟩
theorem EnvOk.ext {ρ ρ' : List Addr} {H F H' F' : Hp} (e : Ext ρ H F ρ' H' F') {σ : L2.St} {env : Ev} (h : EnvOk K F ρ σ env) : EnvOk K F' ρ' σ env :=
  ⟨h.1, fun i s hi => let ⟨v, a, b⟩ := h.2 i s hi; ⟨v, a, b.ext e⟩⟩
theorem EnvOk.set {F : Hp} {ρ : List Addr} {σ : L2.St} {env : Ev} (h : EnvOk K F ρ σ env) {v : V} {s : Sv} (i : Nat) (r : SRep K F ρ v s) : EnvOk K F ρ (σ.set i (some v)) (env.set i (some s)) := by
  refine ⟨by rw [List.length_set, List.length_set]; exact h.1, fun j t hj => ?_⟩
  by_cases e : i = j
  · subst e
    have hi : i < env.length := by
      have q := (List.getElem?_eq_some_iff.mp hj).1
      rwa [List.length_set] at q
    rw [List.getElem?_set_self hi] at hj
    cases hj
    exact ⟨v, List.getElem?_set_self (by rw [h.1]; exact hi), r⟩
  · rw [List.getElem?_set_ne e] at hj ⊢
    exact h.2 j t hj
theorem Paired.get {α β : Type} {R : α → β → Prop} : ∀ {xs : List α} {ys : List β} {i : Nat} {y : β}, Paired R xs ys → ys[i]? = some y → ∃ x, xs[i]? = some x ∧ R x y
  | _, _, _, _, .nil, e => by simp at e
  | _, _, 0, _, .cons h _, e => by simp at e; subst e; exact ⟨_, rfl, h⟩
  | _, _, i + 1, _, .cons _ r, e => by
    obtain ⟨v, a, b⟩ := Paired.get (i := i) r (by simpa using e)
    exact ⟨v, by simpa using a, b⟩
theorem Paired.imp {α β : Type} {R R' : α → β → Prop} (f : ∀ x y, R x y → R' x y) : ∀ {xs : List α} {ys : List β}, Paired R xs ys → Paired R' xs ys
  | _, _, .nil => .nil
  | _, _, .cons h r => .cons (f _ _ h) (Paired.imp f r)
theorem Paired.imp_mem {α β : Type} {R R' : α → β → Prop} : ∀ {xs : List α} {ys : List β}, (∀ x y, x ∈ xs → R x y → R' x y) → Paired R xs ys → Paired R' xs ys
  | _, _, _, .nil => .nil
  | _, _, f, .cons h r => .cons (f _ _ (List.mem_cons_self) h) (Paired.imp_mem (fun x y m => f x y (List.mem_cons_of_mem _ m)) r)
theorem Paired.snoc {α β : Type} {R : α → β → Prop} {x : α} {y : β} (h : R x y) : ∀ {xs : List α} {ys : List β}, Paired R xs ys → Paired R (xs ++ [x]) (ys ++ [y])
  | _, _, .nil => .cons h .nil
  | _, _, .cons a r => .cons a (Paired.snoc h r)
theorem imp_ix {α β : Type} {R R' : α → β → Prop} : ∀ {xs : List α} {ys : List β}, (∀ (j : Nat) x y, xs[j]? = some x → R x y → R' x y) → Paired R xs ys → Paired R' xs ys
  | _, _, _, .nil => .nil
  | _, _, f, .cons h r => .cons (f 0 _ _ rfl h) (imp_ix (fun j a b e q => f (j + 1) a b (by simpa using e) q) r)
theorem Paired.setAt {α β : Type} {R R' : α → β → Prop} {y : β} : ∀ {xs : List α} {ys : List β} {i : Nat}, (∀ j x y, xs[j]? = some x → j ≠ i → R x y → R' x y) → (∀ x, xs[i]? = some x → R' x y) → Paired R xs ys → Paired R' xs (ys.set i y)
  | _, _, _, _, _, .nil => .nil
  | x :: xs, z :: ys, 0, f, g, .cons h r => .cons (g x rfl) (imp_ix (fun j a b e q => f (j + 1) a b (by simpa using e) (by simp) q) r)
  | x :: xs, z :: ys, i + 1, f, g, .cons h r => .cons (f 0 x z rfl (by simp) h) (Paired.setAt (fun j a b e ne q => f (j + 1) a b (by simpa using e) (by omega) q) (fun a e => g a (by simpa using e)) r)
theorem Rel.cell {H F : Hp} {ρ : List Addr} {st : Sto} (h : Rel K ca H F ρ st) {n : Nat} {c : Cell} (e : st[n]? = some c) : ∃ a, ρ[n]? = some a ∧ CellOk K ca H F ρ a c := Paired.get h.cells e
theorem Rel.len {H F : Hp} {ρ : List Addr} {st : Sto} (h : Rel K ca H F ρ st) : ρ.length = st.length := Paired.length h.cells
theorem CellOk.ext {ρ ρ' : List Addr} {H F H' F' : Hp} (e : Ext ρ H F ρ' H' F') {a : Addr} {c : Cell} (ha : H' a = H a) (hf : F' a = F a) (h : CellOk K ca H F ρ a c) : CellOk K ca H' F' ρ' a c := by
  cases c with
  | lst xs =>
    obtain ⟨h1, vs, h2, h3⟩ := h
    exact ⟨hf.trans h1, vs, ha.trans h2, Paired.imp (fun _ _ q => SRep.ext e q) h3⟩
  | frz xs =>
    obtain ⟨vs, h2, h3⟩ := h
    exact ⟨vs, e.ff _ _ h2, DReps.mono e.ff h3⟩
  | obj c fs =>
    obtain ⟨h1, dx, vfs, h2, h3⟩ := h
    exact ⟨hf.trans h1, dx, vfs, ha.trans h2, Paired.imp (fun _ _ q => ⟨q.1, SRep.ext e q.2⟩) h3⟩
  | dct kvs =>
    obtain ⟨h1, vks, h2, h3⟩ := h
    exact ⟨hf.trans h1, vks, ha.trans h2, Paired.imp (fun _ _ q => ⟨q.1, DRep.mono e.ff q.2⟩) h3⟩
end
end PV

namespace PV
open PySem L2
section
variable {K : PySem.W.Frag} {ca : Nat → Addr} {H F : Hp} {ρ : List Addr} {st : Sto}
theorem CellOk.some_ {a : Addr} {c : Cell} (sb : Sub F H) (h : CellOk K ca H F ρ a c) : ∃ o, H a = some o := by
  cases c with
  | lst xs =>
    obtain ⟨_, vs, h2, _⟩ := h
    exact ⟨_, h2⟩
  | frz xs =>
    obtain ⟨vs, h2, _⟩ := h
    exact ⟨_, sb _ _ h2⟩
  | obj c fs =>
    obtain ⟨_, dx, vfs, h2, _⟩ := h
    exact ⟨_, h2⟩
  | dct kvs =>
    obtain ⟨_, vks, h2, _⟩ := h
    exact ⟨_, h2⟩
theorem mem_paired {α β : Type} {R : α → β → Prop} : ∀ {xs : List α} {ys : List β} {x : α}, Paired R xs ys → x ∈ xs → ∃ y, R x y
  | _, _, _, .nil, h => by cases h
  | _, _, _, .cons h r, m => by
    rcases List.mem_cons.mp m with e | m
    · subst e; exact ⟨_, h⟩
    · exact mem_paired r m
theorem Rel.some_ (h : Rel K ca H F ρ st) {a : Addr} (m : a ∈ ρ) : ∃ o, H a = some o := by
  obtain ⟨c, q⟩ := mem_paired h.cells m
  exact q.some_ h.sub
theorem Rel.notin (h : Rel K ca H F ρ st) {a : Addr} (e : H a = none) : a ∉ ρ := fun m => by
  obtain ⟨o, q⟩ := h.some_ m
  rw [e] at q; cases q
theorem sub_upd {F' : Hp} {p : Addr} {o : HO} (h : F' p = none) : Sub F' (upd F' p o) := fun a u e => by
  rw [upd_ne (ne_of_none e h)]; exact e
theorem Rel.fnone (h : Rel K ca H F ρ st) {p : Addr} (e : H p = none) : F p = none := by
  cases q : F p with
  | none => rfl
  | some o => rw [h.sub p o q] at e; cases e
/-- what stands grows by things that are none of ours -/
theorem Rel.grow {H' : Hp} (h : Rel K ca H F ρ st) (s : Sub H H') : Rel K ca H' F ρ st := by
  refine ⟨fun a o e => s a o (h.sub a o e), h.nd, Paired.imp (fun a c q => ?_) h.cells⟩
  cases c with
  | lst xs =>
    obtain ⟨h1, vs, h2, h3⟩ := q
    exact ⟨h1, vs, s _ _ h2, h3⟩
  | frz xs => exact q
  | obj c fs =>
    obtain ⟨h1, dx, vfs, h2, h3⟩ := q
    exact ⟨h1, dx, vfs, s _ _ h2, h3⟩
  | dct kvs =>
    obtain ⟨h1, vks, h2, h3⟩ := q
    exact ⟨h1, vks, s _ _ h2, h3⟩
theorem Ext.grow {H' : Hp} (s : Sub H H') : Ext ρ H F ρ H' F :=
  ⟨fun _ _ h => h, ⟨[], by simp, by simp⟩, fun a o h _ => s a o h, fun a o h => ⟨o, s a o h⟩, fun _ _ h => .inl h⟩
/-- a new frozen thing -/
theorem Ext.fresh {p : Addr} {o : HO} (hp : H p = none) (hf : F p = none) : Ext ρ H F ρ (upd H p o) (upd F p o) :=
  ⟨sub_upd hf, ⟨[], by simp, by simp⟩, fun a u h _ => by rw [upd_ne (ne_of_none h hp)]; exact h, fun a u h => ⟨u, by rw [upd_ne (ne_of_none h hp)]; exact h⟩, fun a u h => by
    by_cases e : a = p
    · exact .inr (.inl (by rw [e]; exact hp))
    · rw [upd_ne e] at h; exact .inl h⟩
theorem Rel.fresh (h : Rel K ca H F ρ st) {p : Addr} {o : HO} (hp : H p = none) : Rel K ca (upd H p o) (upd F p o) ρ st := by
  have hf := h.fnone hp
  have E : Ext ρ H F ρ (upd H p o) (upd F p o) := Ext.fresh hp hf
  refine ⟨fun a u e => ?_, h.nd, Paired.imp_mem (fun a c m q => ?_) h.cells⟩
  · by_cases z : a = p
    · subst z; rw [upd_same] at e ⊢; exact e
    · rw [upd_ne z] at e ⊢; exact h.sub a u e
  · have ne : a ≠ p := fun z => h.notin hp (z ▸ m)
    exact q.ext E (upd_ne ne) (upd_ne ne)
/-- a new cell -/
theorem Ext.cell {p : Addr} {o : HO} (hp : H p = none) : Ext ρ H F (ρ ++ [p]) (upd H p o) F :=
  ⟨fun _ _ h => h, ⟨[p], rfl, fun a m => by simp at m; rw [m]; exact hp⟩, fun a u h _ => by rw [upd_ne (ne_of_none h hp)]; exact h, fun a u h => ⟨u, by rw [upd_ne (ne_of_none h hp)]; exact h⟩, fun a u h => .inl h⟩
theorem Rel.newCell (h : Rel K ca H F ρ st) {p : Addr} {o : HO} {c : Cell} (hp : H p = none) (hc : CellOk K ca (upd H p o) F (ρ ++ [p]) p c) : Rel K ca (upd H p o) F (ρ ++ [p]) (st ++ [c]) := by
  have E : Ext ρ H F (ρ ++ [p]) (upd H p o) F := Ext.cell hp
  refine ⟨fun a u e => ?_, ?_, Paired.snoc hc (Paired.imp_mem (fun a c m q => ?_) h.cells)⟩
  · rw [upd_ne (ne_of_none (h.sub a u e) hp)]; exact h.sub a u e
  · rw [List.nodup_append]
    refine ⟨h.nd, by simp, fun a m b mb => ?_⟩
    simp at mb
    subst mb
    exact fun z => h.notin hp (z ▸ m)
  · have ne : a ≠ p := fun z => h.notin hp (z ▸ m)
    exact q.ext E (upd_ne ne) rfl
theorem nd_idx {α : Type} {l : List α} (hN : l.Nodup) {i j : Nat} {x : α} (a : l[i]? = some x) (b : l[j]? = some x) : i = j := by
  obtain ⟨h1, e1⟩ := List.getElem?_eq_some_iff.mp a
  obtain ⟨h2, e2⟩ := List.getElem?_eq_some_iff.mp b
  exact (List.getElem_inj hN).mp (e1.trans e2.symm)
/-- a cell changes -/
theorem Ext.set {a : Addr} {n : Nat} {o : HO} (ha : ρ[n]? = some a) : Ext ρ H F ρ (upd H a o) F :=
  ⟨fun _ _ h => h, ⟨[], by simp, by simp⟩, fun b u h m => by rw [upd_ne fun z => m (by rw [z]; exact List.mem_of_getElem? ha)]; exact h, fun b u h => by
    by_cases z : b = a
    · exact ⟨o, by rw [z]; exact upd_same⟩
    · exact ⟨u, by rw [upd_ne z]; exact h⟩, fun _ _ h => .inl h⟩
theorem Rel.set (h : Rel K ca H F ρ st) {a : Addr} {n : Nat} {o : HO} {c : Cell} (ha : ρ[n]? = some a) (hf : F a = none) (hc : CellOk K ca (upd H a o) F ρ a c) : Rel K ca (upd H a o) F ρ (setC st n c) := by
  have E : Ext ρ H F ρ (upd H a o) F := Ext.set ha
  refine ⟨fun b u e => ?_, h.nd, Paired.setAt (fun j x y hx ne q => ?_) (fun x hx => ?_) h.cells⟩
  · rw [upd_ne (ne_of_none e hf)]; exact h.sub b u e
  · have nx : x ≠ a := fun z => ne (nd_idx h.nd (z ▸ hx) ha)
    exact q.ext E (upd_ne nx) rfl
  · rw [ha] at hx; cases hx; exact hc
/-- a list is frozen -/
theorem Ext.freeze {a : Addr} {n : Nat} {o : HO} (ha : ρ[n]? = some a) (hf : F a = none) : Ext ρ H F ρ H (upd F a o) :=
  ⟨sub_upd hf, ⟨[], by simp, by simp⟩, fun b u h m => h, fun b u h => ⟨u, h⟩, fun b u h => by
    by_cases z : b = a
    · exact .inr (.inr (by rw [z]; exact List.mem_of_getElem? ha))
    · rw [upd_ne z] at h; exact .inl h⟩
theorem Rel.freeze (h : Rel K ca H F ρ st) {a : Addr} {n : Nat} {o : HO} {c : Cell} (ha : ρ[n]? = some a) (hf : F a = none) (ho : H a = some o) (hc : CellOk K ca H (upd F a o) ρ a c) : Rel K ca H (upd F a o) ρ (setC st n c) := by
  have E : Ext ρ H F ρ H (upd F a o) := Ext.freeze ha hf
  refine ⟨fun b u e => ?_, h.nd, Paired.setAt (fun j x y hx ne q => ?_) (fun x hx => ?_) h.cells⟩
  · by_cases z : b = a
    · subst z; rw [upd_same] at e; rw [← e]; exact ho
    · rw [upd_ne z] at e; exact h.sub b u e
  · have nx : x ≠ a := fun z => ne (nd_idx h.nd (z ▸ hx) ha)
    exact q.ext E rfl (upd_ne nx)
  · rw [ha] at hx; cases hx; exact hc
/-! ### views -/
theorem allD_rep : ∀ {xs : List Sv} {ys : List PyData} {vs : List V}, allD xs = some ys → SReps K F ρ vs xs → DReps K F vs ys
  | [], _, _, e, .nil => by cases e; exact .nil
  | .d x :: r, _, _, e, .cons h t => by
    have e1 : (match allD r with | some xs => some (x :: xs) | none => none) = some _ := e
    cases q : allD r with
    | none => rw [q] at e1; cases e1
    | some zs =>
      rw [q] at e1
      cases e1
      exact .cons h (allD_rep q t)
  | .r _ :: _, _, _, e, _ => by cases e
/-- what stands now, its items frozen -/
inductive VRep (K : PySem.W.Frag) (H F : Hp) : V → PyData → Prop
  | non : VRep K H F .non .none
  | bl (b : Bool) : VRep K H F (.bl b) (.bool b)
  | int (i : Int) : VRep K H F (.int i) (.int i)
  | str (x : Str) : VRep K H F (.str x) (.str x)
  | lst {a : Addr} {xs : List V} {ds : List PyData} : Rd H a (.lst xs) → DReps K F xs ds → VRep K H F (.ref a) (.list ds)
  | scr {a : Addr} {ns : List Int} : SqL K H a (ns.map V.int) → VRep K H F (.ref a) (scrD ns)
  | tup {a : Addr} {xs : List V} {ds : List PyData} : SqT K F a xs → DReps K F xs ds → VRep K H F (.ref a) (.tuple ds)
abbrev VReps (K : PySem.W.Frag) (H F : Hp) : List V → List PyData → Prop := Paired (VRep K H F)
theorem DRep.v {K : PySem.W.Frag} {H F : Hp} (s : Sub F H) {v : V} {x : PyData} (r : DRep K F v x) : VRep K H F v x := by
  cases r with
  | non => exact .non
  | bl b => exact .bl b
  | int i => exact .int i
  | str z => exact .str z
  | lst a b => exact .lst (sub_r s a) b
  | scr a => exact .scr (sub_l s a)
  | tup a b => exact .tup a b
theorem VRep.d {K : PySem.W.Frag} {H F : Hp} (s : Sub F H) {v : V} {x : PyData} (r : VRep K H F v x) : DRep K H v x := by
  cases r with
  | non => exact .non
  | bl b => exact .bl b
  | int i => exact .int i
  | str z => exact .str z
  | lst a b => exact .lst a (b.mono s)
  | scr a => exact .scr a
  | tup a b => exact .tup (sub_t s a) (b.mono s)
theorem view_rep (h : Rel K ca H F ρ st) {s : Sv} {x : PyData} {v : V} (r : SRep K F ρ v s) (e : view st s = some x) : VRep K H F v x := by
  cases s with
  | d y =>
    cases e
    exact DRep.v h.sub r
  | r n =>
    obtain ⟨a, ha, rfl⟩ := r
    have e1 : (match st[n]? with
      | some (.lst xs) => (match allD xs with
        | some ys => some (.list ys)
        | none => none)
      | some (.frz xs) => some (.list xs)
      | _ => none) = some x := e
    cases q : st[n]? with
    | none => rw [q] at e1; cases e1
    | some c =>
      rw [q] at e1
      obtain ⟨a', ha', hc⟩ := h.cell q
      rw [ha] at ha'
      cases ha'
      cases c with
      | lst xs =>
        obtain ⟨_, vs, h2, h3⟩ := hc
        have e2 : (match allD xs with
          | some ys => some (PyData.list ys)
          | none => none) = some x := e1
        cases q2 : allD xs with
        | none => rw [q2] at e2; cases e2
        | some ys =>
          rw [q2] at e2
          cases e2
          exact .lst (.inl h2) (allD_rep q2 h3)
      | frz xs =>
        obtain ⟨vs, h2, h3⟩ := hc
        cases e1
        exact .lst (.inl (h.sub _ _ h2)) h3
      | obj c fs => cases e1
      | dct kvs => cases e1
theorem views_rep (h : Rel K ca H F ρ st) : ∀ {ss : List Sv} {xs : List PyData} {vs : List V}, SReps K F ρ vs ss → views st ss = some xs → VReps K H F vs xs
  | [], _, _, .nil, e => by cases e; exact .nil
  | s :: r, _, _, .cons a t, e => by
    have e1 : (match view st s with
      | some x => (match views st r with
        | some xs => some (x :: xs)
        | none => none)
      | none => none) = some _ := e
    cases q : view st s with
    | none => rw [q] at e1; cases e1
    | some x =>
      rw [q] at e1
      have e2 : (match views st r with
        | some xs => some (x :: xs)
        | none => none) = some _ := e1
      cases q2 : views st r with
      | none => rw [q2] at e2; cases e2
      | some xs =>
        rw [q2] at e2
        cases e2
        exact .cons (view_rep h a q) (views_rep h t q2)
theorem SReps.ext {ρ' : List Addr} {H' F' : Hp} (e : Ext ρ H F ρ' H' F') {vs : List V} {ss : List Sv} (h : SReps K F ρ vs ss) : SReps K F' ρ' vs ss := Paired.imp (fun _ _ q => SRep.ext e q) h
end
end PV

namespace PV
open PySem L2
section
variable (K : PySem.W.Frag) (ca : Nat → Addr)
/-- what is wanted of an exception of the class c, with the fields p -/
def xk (E : XK) (c : Nat) (p : List (Str × PyData)) (F' H' : Hp) : Prop := match p with
  | [] => E (.ref (ca c)) none H'
  | p => ∀ d vfs, H' d = some (.xd vfs) → Paired (fun (a : Str × V) (b : Str × PyData) => a.1 = b.1 ∧ DRep K F' a.2 b.2) vfs p → E (.ref (ca c)) (some d) H'
def Post (E : XK) (H F : Hp) (ρ : List Addr) (r : Rs Sv) (Q : VK) : Prop := match r with
  | .ok w st' => ∀ v H' F' ρ', Ext ρ H F ρ' H' F' → Rel K ca H' F' ρ' st' → SRep K F' ρ' v w → Q v H'
  | .exc c p st' => ∀ H' F' ρ', Ext ρ H F ρ' H' F' → Rel K ca H' F' ρ' st' → xk K ca E c p F' H'
  | .bad => False
def PostA (E : XK) (H F : Hp) (ρ : List Addr) (r : Rs (List Sv)) (Q : List V → Hp → Prop) : Prop := match r with
  | .ok w st' => ∀ v H' F' ρ', Ext ρ H F ρ' H' F' → Rel K ca H' F' ρ' st' → SReps K F' ρ' v w → Q v H'
  | .exc c p st' => ∀ H' F' ρ', Ext ρ H F ρ' H' F' → Rel K ca H' F' ρ' st' → xk K ca E c p F' H'
  | .bad => False
/-- the wish at the slots -/
abbrev at_ (W : WX) (σ : L2.St) : XK := fun cls d H => W cls d σ H
def tE (W : WX) (r : Ev → Sto → Rs Sv) : TE := fun σ H Q => ∃ F ρ st env, Rel K ca H F ρ st ∧ EnvOk K F ρ σ env ∧ Post K ca (at_ W σ) H F ρ (r env st) Q
def tEs (W : WX) (r : Ev → Sto → Rs (List Sv)) : TA := fun σ H Q => ∃ F ρ st env, Rel K ca H F ρ st ∧ EnvOk K F ρ σ env ∧ PostA K ca (at_ W σ) H F ρ (r env st) Q
def tTe (W : WX) (r : Ev → Sto → Rs Sv) : TT := fun σ H Q => tE K ca W r σ H fun v H' => ∃ b, v = .bl b ∧ Q b H'
variable {K ca} {E : XK} {H F H' F' : Hp} {ρ ρ' : List Addr}
theorem Post.ext {r : Rs Sv} {Q : VK} (h : Post K ca E H F ρ r Q) (e : Ext ρ H F ρ' H' F') : Post K ca E H' F' ρ' r Q := by
  cases r with
  | ok w st => exact fun v H2 F2 ρ2 e2 r2 s2 => h v H2 F2 ρ2 (e.trans e2) r2 s2
  | exc c p st => exact fun H2 F2 ρ2 e2 r2 => h H2 F2 ρ2 (e.trans e2) r2
  | bad => exact h
theorem PostA.ext {r : Rs (List Sv)} {Q : List V → Hp → Prop} (h : PostA K ca E H F ρ r Q) (e : Ext ρ H F ρ' H' F') : PostA K ca E H' F' ρ' r Q := by
  cases r with
  | ok w st => exact fun v H2 F2 ρ2 e2 r2 s2 => h v H2 F2 ρ2 (e.trans e2) r2 s2
  | exc c p st => exact fun H2 F2 ρ2 e2 r2 => h H2 F2 ρ2 (e.trans e2) r2
  | bad => exact h
theorem Post.bind {r : Rs Sv} {f : Sv → Sto → Rs Sv} {Q Qa : VK} (h : Post K ca E H F ρ (r.bind f) Q)
    (k : ∀ s st' v H' F' ρ', r = .ok s st' → Ext ρ H F ρ' H' F' → Rel K ca H' F' ρ' st' → SRep K F' ρ' v s → Post K ca E H' F' ρ' (f s st') Q → Qa v H') : Post K ca E H F ρ r Qa := by
  cases r with
  | ok w st => exact fun v H2 F2 ρ2 e2 r2 s2 => k w st v H2 F2 ρ2 rfl e2 r2 s2 (Post.ext (r := f w st) h e2)
  | exc c p st => exact h
  | bad => exact h
theorem Post.bindA {r : Rs (List Sv)} {f : List Sv → Sto → Rs Sv} {Q : VK} {Qa : List V → Hp → Prop} (h : Post K ca E H F ρ (r.bind f) Q)
    (k : ∀ s st' v H' F' ρ', r = .ok s st' → Ext ρ H F ρ' H' F' → Rel K ca H' F' ρ' st' → SReps K F' ρ' v s → Post K ca E H' F' ρ' (f s st') Q → Qa v H') : PostA K ca E H F ρ r Qa := by
  cases r with
  | ok w st => exact fun v H2 F2 ρ2 e2 r2 s2 => k w st v H2 F2 ρ2 rfl e2 r2 s2 (Post.ext (r := f w st) h e2)
  | exc c p st => exact h
  | bad => exact h
theorem PostA.bind {r : Rs Sv} {f : Sv → Sto → Rs (List Sv)} {Q : List V → Hp → Prop} {Qa : VK} (h : PostA K ca E H F ρ (r.bind f) Q)
    (k : ∀ s st' v H' F' ρ', r = .ok s st' → Ext ρ H F ρ' H' F' → Rel K ca H' F' ρ' st' → SRep K F' ρ' v s → PostA K ca E H' F' ρ' (f s st') Q → Qa v H') : Post K ca E H F ρ r Qa := by
  cases r with
  | ok w st => exact fun v H2 F2 ρ2 e2 r2 s2 => k w st v H2 F2 ρ2 rfl e2 r2 s2 (PostA.ext (r := f w st) h e2)
  | exc c p st => exact h
  | bad => exact h
theorem PostA.bindA {r : Rs (List Sv)} {f : List Sv → Sto → Rs (List Sv)} {Q : List V → Hp → Prop} {Qa : List V → Hp → Prop} (h : PostA K ca E H F ρ (r.bind f) Q)
    (k : ∀ s st' v H' F' ρ', r = .ok s st' → Ext ρ H F ρ' H' F' → Rel K ca H' F' ρ' st' → SReps K F' ρ' v s → PostA K ca E H' F' ρ' (f s st') Q → Qa v H') : PostA K ca E H F ρ r Qa := by
  cases r with
  | ok w st => exact fun v H2 F2 ρ2 e2 r2 s2 => k w st v H2 F2 ρ2 rfl e2 r2 s2 (PostA.ext (r := f w st) h e2)
  | exc c p st => exact h
  | bad => exact h
theorem Post.imp {r : Rs Sv} {Q Q' : VK} (h : Post K ca E H F ρ r Q) (k : ∀ v H, Q v H → Q' v H) : Post K ca E H F ρ r Q' := by
  cases r with
  | ok w st => exact fun v H2 F2 ρ2 e2 r2 s2 => k _ _ (h v H2 F2 ρ2 e2 r2 s2)
  | exc c p st => exact h
  | bad => exact h
/-- the result stands at once -/
theorem Post.here {w : Sv} {st : Sto} {Q : VK} (h : Post K ca E H F ρ (.ok w st) Q) (r : Rel K ca H F ρ st) {v : V} (s : SRep K F ρ v w) : Q v H := h v H F ρ (Ext.refl ρ H F) r s
/-- a new frozen list or tuple -/
theorem Post.newL {ds : List PyData} {st : Sto} {Q : VK} {p : Addr} {vs : List V} (h : Post K ca E H F ρ (.ok (.d (.list ds)) st) Q) (r : Rel K ca H F ρ st) (hp : H p = none) (s : DReps K F vs ds) : Q (.ref p) (upd H p (.lst vs)) :=
  h _ _ (upd F p (.lst vs)) ρ (Ext.fresh hp (r.fnone hp)) (r.fresh hp) (.lst (.inl upd_same) (s.mono (sub_upd (r.fnone hp))))
theorem Post.newT {ds : List PyData} {st : Sto} {Q : VK} {p : Addr} {vs : List V} (h : Post K ca E H F ρ (.ok (.d (.tuple ds)) st) Q) (r : Rel K ca H F ρ st) (hp : H p = none) (s : DReps K F vs ds) : Q (.ref p) (upd H p (.tup vs)) :=
  h _ _ (upd F p (.tup vs)) ρ (Ext.fresh hp (r.fnone hp)) (r.fresh hp) (.tup (.inl (.inl upd_same)) (s.mono (sub_upd (r.fnone hp))))

/-! ### primitives of two operands -/
def Prim2 (K : PySem.W.Frag) (ca : Nat → Addr) (rr : R2) (p : Prim) : Prop := ∀ (E : XK) (H F : Hp) (ρ : List Addr) (st : Sto) (x y : V) (dx dy z : PyData) (Q : VK), Rel K ca H F ρ st → VRep K H F x dx → VRep K H F y dy → prim p [dx, dy] = some z → Post K ca E H F ρ (.ok (.d z) st) Q → rr x y H Q
theorem Prim2.or1 {rr rr' : R2} {p : Prim} (h : ∀ (E : XK) (H F : Hp) (ρ : List Addr) (st : Sto) (x y : V) (dx dy z : PyData) (Q : VK), Rel K ca H F ρ st → VRep K H F x dx → VRep K H F y dy → prim p [dx, dy] = some z → Post K ca E H F ρ (.ok (.d z) st) Q → rr x y H Q ∨ rr' x y H Q) : Prim2 K ca (fun x y H Q => rr x y H Q ∨ rr' x y H Q) p := h
theorem two_views {st : Sto} {sa sb : Sv} {p : Prim} {Q : VK} (h : Post K ca E H F ρ (toRs st (bindO (views st [sa, sb]) (prim p))) Q) :
    ∃ dx dy z, view st sa = some dx ∧ view st sb = some dy ∧ prim p [dx, dy] = some z ∧ Post K ca E H F ρ (.ok (.d z) st) Q := by
  cases e1 : view st sa with
  | none =>
    have e : views st [sa, sb] = none := by simp only [views, e1]
    rw [e] at h; exact h.elim
  | some dx =>
    cases e2 : view st sb with
    | none =>
      have e : views st [sa, sb] = none := by simp only [views, e1, e2]
      rw [e] at h; exact h.elim
    | some dy =>
      have e : views st [sa, sb] = some [dx, dy] := by simp only [views, e1, e2]
      rw [e] at h
      cases e3 : prim p [dx, dy] with
      | none => simp only [bindO, e3] at h; exact h.elim
      | some z =>
        simp only [bindO, e3] at h
        exact ⟨dx, dy, z, rfl, rfl, e3, h⟩
theorem op2_eq (G : Ctx) (p : Prim) (a b : CE) (env : Ev) (st : Sto) : evE G (.op p [a, b]) env st = (evE G a env st).bind fun sa st1 => (evE G b env st1).bind fun sb st2 => toRs st2 (bindO (views st2 [sa, sb]) (prim p)) := by
  show (evEs G [a, b] env st).bind _ = _
  show (((evE G a env st).bind fun s st1 => (evEs G [b] env st1).bind fun ss st2 => .ok (s :: ss) st2).bind fun ss st1 => toRs st1 (bindO (views st1 ss) (prim p))) = _
  cases evE G a env st with
  | ok s st1 =>
    show (((evEs G [b] env st1).bind fun ss st2 => .ok (s :: ss) st2).bind fun ss st1 => toRs st1 (bindO (views st1 ss) (prim p))) = (evE G b env st1).bind fun sb st2 => toRs st2 (bindO (views st2 [s, sb]) (prim p))
    show ((((evE G b env st1).bind fun s2 st2 => (Rs.ok [] st2).bind fun ss st3 => .ok (s2 :: ss) st3).bind fun ss st2 => Rs.ok (s :: ss) st2).bind fun ss st1 => toRs st1 (bindO (views st1 ss) (prim p))) = _
    cases evE G b env st1 <;> rfl
  | exc c p st => rfl
  | bad => rfl
/-- two operands in a row -/
theorem two_ops {G : Ctx} {W : WX} {a b : CE} {σ : L2.St} {k : Sv → Sv → Sto → Rs Sv} {R : V → V → Hp → Prop} {Q : VK} {env : Ev} {st : Sto} (rel : Rel K ca H F ρ st) (eok : EnvOk K F ρ σ env)
    (h : Post K ca (at_ W σ) H F ρ ((evE G a env st).bind fun sa st1 => (evE G b env st1).bind fun sb st2 => k sa sb st2) Q)
    (f : ∀ sa sb st2 x y H2 F2 ρ2, Ext ρ H F ρ2 H2 F2 → Rel K ca H2 F2 ρ2 st2 → SRep K F2 ρ2 x sa → SRep K F2 ρ2 y sb → Post K ca (at_ W σ) H2 F2 ρ2 (k sa sb st2) Q → R x y H2) :
    tE K ca W (evE G a) σ H fun x H1 => tE K ca W (evE G b) σ H1 fun y H2 => R x y H2 := by
  refine ⟨F, ρ, st, env, rel, eok, h.bind fun sa st1 x H1 F1 ρ1 _ e1 rel1 rx p1 => ?_⟩
  refine ⟨F1, ρ1, st1, env, rel1, eok.ext e1, p1.bind fun sb st2 y H2 F2 ρ2 _ e2 rel2 ry p2 => ?_⟩
  exact f sa sb st2 x y H2 F2 ρ2 (e1.trans e2) rel2 (rx.ext e2) ry p2
theorem t_op2 {G : Ctx} {W : WX} {rr : R2} {p : Prim} {a b : CE} {σ : L2.St} {Q : VK} (hp : Prim2 K ca rr p) (h : tE K ca W (evE G (.op p [a, b])) σ H Q) : tOp rr (tE K ca W (evE G a)) (tE K ca W (evE G b)) σ H Q := by
  obtain ⟨F, ρ, st, env, rel, eok, h⟩ := h
  rw [op2_eq] at h
  refine two_ops (R := fun x y H2 => rr x y H2 Q) rel eok h fun sa sb st2 x y H2 F2 ρ2 e rel2 rx ry p2 => ?_
  obtain ⟨dx, dy, z, v1, v2, e3, q⟩ := two_views p2
  exact hp _ H2 F2 ρ2 st2 x y dx dy z Q rel2 (view_rep rel2 rx v1) (view_rep rel2 ry v2) e3 q
end
section
variable {X : Cx} {ca : Nat → Addr} {W : WX} {G : Ctx}
/-- an expression of the text is one of the small language -/
abbrev JE (X : Cx) (ca : Nat → Addr) (W : WX) (G : Ctx) (e : Expr) (c : CE) : Prop := PE X e (tE X.K ca W (evE G c))
theorem pe_imp {e : Expr} {t t' : TE} (h : PE X e t) (k : ∀ σ H Q, t' σ H Q → t σ H Q) : PE X e t' := ⟨fun pins s σ H Q I q => h.run pins s σ H Q I (k σ H Q q)⟩
theorem pt_imp {e : Expr} {t t' : TT} (h : PT X e t) (k : ∀ σ H Q, t' σ H Q → t σ H Q) : PT X e t' := ⟨fun pins s σ H Q I q => h.run pins s σ H Q I (k σ H Q q)⟩
theorem ps_imp {e : Stmt} {t t' : TS} (h : PS X e t) (k : ∀ D σ H, t' D σ H → t D σ H) : PS X e t' := ⟨fun pins s σ H Q I q => h.run pins s σ H Q I (k Q σ H q)⟩
theorem pss_imp {e : List Stmt} {t t' : TS} (h : PSs X e t) (k : ∀ D σ H, t' D σ H → t D σ H) : PSs X e t' := ⟨fun pins s σ H Q I q => h.run pins s σ H Q I (k Q σ H q)⟩
theorem je_bin {a b : Expr} {ca' cb : CE} {op : Operator} {rr : R2} {p : Prim} {pos : Pos} (ho : OpR X (binaryOp op) rr) (hp : Prim2 X.K ca rr p) (ha : JE X ca W G a ca') (hb : JE X ca W G b cb) : JE X ca W G (.BinOp a op b pos) (.op p [ca', cb]) :=
  pe_imp (pe_op ho ha hb) fun _ _ _ h => t_op2 hp h
theorem je_cmp {a b : Expr} {ca' cb : CE} {op : CmpOp} {rr : R2} {p : Prim} {pos : Pos} (ho : OpR X (compareOp op) rr) (hp : Prim2 X.K ca rr p) (hm : behindInMarks op b = false) (ha : JE X ca W G a ca') (hb : JE X ca W G b cb) : JE X ca W G (.Compare a [op] [b] pos) (.op p [ca', cb]) :=
  pe_imp (pe_cmpR ho ha hb hm) fun _ _ _ h => t_op2 hp h
theorem jt_cmp {a b : Expr} {ca' cb : CE} {op : CmpOp} {rr : R2} {p : Prim} {pos : Pos} (ho : OpR X (compareOp op) rr) (hp : Prim2 X.K ca rr p) (hm : behindInMarks op b = false) (ha : JE X ca W G a ca') (hb : JE X ca W G b cb) : PT X (.Compare a [op] [b] pos) (tTe X.K ca W (evE G (.op p [ca', cb]))) :=
  pt_imp (pt_cmpR ho ha hb hm) fun σ H Q h => t_op2 (Q := fun v H' => ∃ b, v = .bl b ∧ Q b H') hp h
end
end PV

namespace PV
open PySem L2
theorem guard1_some {α : Type} {b : Bool} {x y : α} (h : guard1 b x = some y) : b = true ∧ x = y := by
  cases b with
  | false => cases h
  | true => cases h; exact ⟨rfl, rfl⟩
theorem line_le {n : Nat} (h : lineOk n = true) : n ≤ sizeLine := Nat.le_trans (Nat.le_of_ble_eq_true h) (by decide)
section
variable {X : Cx}
/-- list + list, of lists that are read -/
def rCatR : R2 := fun x y H Q => ∃ l b xs zs, x = .ref l ∧ y = .ref b ∧ Rd H l (.lst xs) ∧ Rd H b (.lst zs) ∧ xs.length + zs.length ≤ sizeLine ∧ ∀ p, H p = none → Q (.ref p) (upd H p (.lst (xs ++ zs)))
theorem op_catR : OpR X (binaryOp .Add) rCatR := by
  intro pins s σ H x y v u Q I rx ry h
  obtain ⟨l, b, xs, zs, rfl, rfl, hH, hB, hz, q⟩ := h
  cases rx
  cases ry
  obtain ⟨z, its, n, r, e⟩ := hH.ok I.hok
  obtain ⟨z2, its2, n2, r2, e2⟩ := hB.ok I.hok
  have hl := r.length
  have hl2 := r2.length
  refine PySem.P.add_list e e2 ?_ (by rw [List.size_toArray, List.size_toArray]; omega)
  have ea : its.toArray ++ its2.toArray = (its ++ its2).toArray := by simp
  rw [ea]
  exact ⟨.ref _, _, I.lnew (t' := s.toks) (r.append r2) (by rw [List.length_append]; omega), rfl, q _ I.fresh⟩
end
section
variable {K : PySem.W.Frag} {ca : Nat → Addr} {H F : Hp} {ρ : List Addr} {E : XK} {st : Sto} {Q : VK}
theorem here_int {i : Int} (h : Post K ca E H F ρ (.ok (.d (.int i)) st) Q) (r : Rel K ca H F ρ st) : Q (.int i) H := h.here r (.int i)
theorem here_bl {b : Bool} (h : Post K ca E H F ρ (.ok (.d (.bool b)) st) Q) (r : Rel K ca H F ρ st) : Q (.bl b) H := h.here r (.bl b)
theorem here_str {x : Str} (h : Post K ca E H F ρ (.ok (.d (.str x)) st) Q) (r : Rel K ca H F ρ st) : Q (.str x) H := h.here r (.str x)

abbrev rAddP (K : PySem.W.Frag) : R2 := fun x y H Q => rI0 (fun i j => .int (i + j)) x y H Q ∨ (∃ i j, x = .str i ∧ y = .str j ∧ i.length + j.length ≤ sizeLine ∧ Q (.str (i ++ j)) H) ∨ rCatR x y H Q ∨ rCatA K x y H Q
theorem op_addP {X : Cx} : OpR X (binaryOp .Add) (rAddP X.K) := op_add.or (op_add_str.or (op_catR.or op_catA))
theorem nil_of_len {α β : Type} {xs : List α} {ys : List β} (h : xs.length = ys.length) : xs = [] ↔ ys = [] := by
  constructor
  · intro e; rw [e] at h; exact List.length_eq_zero_iff.mp h.symm
  · intro e; rw [e] at h; exact List.length_eq_zero_iff.mp h
theorem p_add : Prim2 K ca (rAddP K) .add := by
  intro E H F ρ st x y dx dy z Q rel rx ry e h
  cases rx with
  | int i =>
    cases ry with
    | int j => cases e; exact .inl ⟨i, j, rfl, rfl, here_int h rel⟩
    | _ => cases e
  | str i =>
    cases ry with
    | str j =>
      obtain ⟨g, e2⟩ := guard1_some e
      subst e2
      exact .inr (.inl ⟨i, j, rfl, rfl, line_le g, here_str h rel⟩)
    | _ => cases e
  | lst a1 d1 =>
    cases ry with
    | lst a2 d2 =>
      obtain ⟨g, e2⟩ := guard1_some e
      subst e2
      exact .inr (.inr (.inl ⟨_, _, _, _, rfl, rfl, a1, a2, by rw [d1.length, d2.length]; exact line_le g, fun p hp => h.newL rel hp (d1.append d2)⟩))
    | _ => cases e
  | tup a1 d1 =>
    cases ry with
    | tup a2 d2 =>
      obtain ⟨g, e2⟩ := guard1_some e
      subst e2
      refine .inr (.inr (.inr ⟨_, _, _, _, rfl, rfl, sub_t rel.sub a1, sub_t rel.sub a2, by rw [d1.length, d2.length]; exact line_le g, fun z => ?_, fun z1 z2 => ?_, fun z1 z2 p hp => h.newT rel hp (d1.append d2)⟩))
      · have z' := (nil_of_len d1.length).mp z
        subst z'
        exact h.here rel (.tup a2 d2)
      · have z' := (nil_of_len d2.length).mp z2
        subst z'
        rw [List.append_nil] at h
        exact h.here rel (.tup a1 d1)
    | _ => cases e
  | _ => cases e
theorem p_sub : Prim2 K ca (rI0 fun i j => .int (i - j)) .sub := by
  intro E H F ρ st x y dx dy z Q rel rx ry e h
  cases rx with
  | int i =>
    cases ry with
    | int j => cases e; exact ⟨i, j, rfl, rfl, here_int h rel⟩
    | _ => cases e
  | _ => cases e
theorem intMul_ok {i j : Int} (h : intMul i j = true) : CMul i j := by
  rcases Bool.or_eq_true_iff.mp h with h | h
  · exact .inl (of_decide_eq_true h)
  · exact .inr (of_decide_eq_true h)
theorem p_mul : Prim2 K ca (rI CMul fun i j => .int (i * j)) .mul := by
  intro E H F ρ st x y dx dy z Q rel rx ry e h
  cases rx with
  | int i =>
    cases ry with
    | int j =>
      obtain ⟨g, e2⟩ := guard1_some e
      subst e2
      exact ⟨i, j, rfl, rfl, intMul_ok g, here_int h rel⟩
    | _ => cases e
  | _ => cases e
theorem p_fdiv : Prim2 K ca (rI CDiv fun i j => .int (i / j)) .fdiv := by
  intro E H F ρ st x y dx dy z Q rel rx ry e h
  cases rx with
  | int i =>
    cases ry with
    | int j =>
      obtain ⟨g, e2⟩ := guard1_some e
      subst e2
      exact ⟨i, j, rfl, rfl, (show 0 < j ∧ j < 1073741824 from of_decide_eq_true g), here_int h rel⟩
    | _ => cases e
  | _ => cases e
theorem p_mod : Prim2 K ca (rI (fun _ j => 0 < j) fun i j => .int (i % j)) .mod := by
  intro E H F ρ st x y dx dy z Q rel rx ry e h
  cases rx with
  | int i =>
    cases ry with
    | int j =>
      obtain ⟨g, e2⟩ := guard1_some e
      subst e2
      exact ⟨i, j, rfl, rfl, of_decide_eq_true g, here_int h rel⟩
    | _ => cases e
  | _ => cases e
theorem p_ord {p : Prim} {f : Int → Int → Bool} (hp : ∀ i j, prim p [.int i, .int j] = some (.bool (f i j))) (hn : ∀ dx dy z, prim p [dx, dy] = some z → ∃ i j, dx = .int i ∧ dy = .int j) : Prim2 K ca (rI0 fun i j => .bl (f i j)) p := by
  intro E H F ρ st x y dx dy z Q rel rx ry e h
  obtain ⟨i, j, rfl, rfl⟩ := hn dx dy z e
  rw [hp] at e
  cases e
  cases rx
  cases ry
  exact ⟨i, j, rfl, rfl, here_bl h rel⟩
theorem ord_shape {p : Prim} (hp : p = .lt ∨ p = .gt ∨ p = .ge) {dx dy z : PyData} (e : prim p [dx, dy] = some z) : ∃ i j, dx = .int i ∧ dy = .int j := by
  rcases hp with rfl | rfl | rfl <;> (cases dx <;> first | (cases e; done) | (cases dy <;> first | (cases e; done) | exact ⟨_, _, rfl, rfl⟩))
theorem p_lt : Prim2 K ca (rI0 fun i j => .bl (decide (i < j))) .lt := p_ord (fun _ _ => rfl) fun _ _ _ e => ord_shape (.inl rfl) e
def rLeS : R2 := fun x y H Q => ∃ i j, x = .str i ∧ y = .str j ∧ Q (.bl (!decide (j.cps.toList < i.cps.toList))) H
theorem op_leS {X : Cx} : OpR X (compareOp .LtE) rLeS := by
  intro pins s σ H x y v u Q I rx ry h
  obtain ⟨i, j, rfl, rfl, q⟩ := h
  obtain ⟨t, rfl⟩ := rx
  obtain ⟨t', rfl⟩ := ry
  exact PySem.P.le_str (fin_bl I q rfl)
abbrev rLeP : R2 := fun x y H Q => rI0 (fun i j => .bl (decide (i ≤ j))) x y H Q ∨ rLeS x y H Q
theorem p_le : Prim2 K ca rLeP .le := by
  intro E H F ρ st x y dx dy z Q rel rx ry e h
  cases rx with
  | int i =>
    cases ry with
    | int j => cases e; exact .inl ⟨i, j, rfl, rfl, here_bl h rel⟩
    | _ => cases e
  | str i =>
    cases ry with
    | str j => cases e; exact .inr ⟨i, j, rfl, rfl, here_bl h rel⟩
    | _ => cases e
  | _ => cases e
theorem p_gt : Prim2 K ca (rI0 fun i j => .bl (decide (j < i))) .gt := p_ord (fun _ _ => rfl) fun _ _ _ e => ord_shape (.inr (.inl rfl)) e
theorem p_ge : Prim2 K ca (rI0 fun i j => .bl (decide (j ≤ i))) .ge := p_ord (fun _ _ => rfl) fun _ _ _ e => ord_shape (.inr (.inr rfl)) e
theorem shaped_can {x : PyData} (h : shD x = true) : x.canLay0 = true := (Bool.and_eq_true_iff.mp h).1
theorem shaped_dep {x : PyData} (h : shD x = true) : x.depth ≤ 1190 := of_decide_eq_true (Bool.and_eq_true_iff.mp h).2
def rEqX (K : PySem.W.Frag) : R2 := fun x y H Q => ∃ d e, Dp K H x d ∧ Dp K H y e ∧ shD d = true ∧ shD e = true ∧ Q (.bl (PyData.eqv d e)) H
def rNeX (K : PySem.W.Frag) : R2 := fun x y H Q => ∃ d e, Dp K H x d ∧ Dp K H y e ∧ shD d = true ∧ shD e = true ∧ Q (.bl (!PyData.eqv d e)) H
theorem op_eqX {X : Cx} (hu : X.A.units + 1190 < cLine) : OpR X (compareOp .Eq) (rEqX X.K) := by
  intro pins s σ H x y v u Q I rx ry h
  obtain ⟨d, e, hd, he, sd, se, q⟩ := h
  obtain ⟨as, r1⟩ := Dp.reads I d x v hd rx
  obtain ⟨bs, r2⟩ := Dp.reads I e y u he ry
  have h1 := shaped_dep sd
  exact SeqAt.compareEq_reads r1 r2 (shaped_can sd) (shaped_can se) (by have := Nat.min_le_left d.depth e.depth; omega) ⟨.bl _, H, I, rfl, q⟩
theorem op_neX {X : Cx} (hu : X.A.units + 1190 < cLine) : OpR X (compareOp .NotEq) (rNeX X.K) := by
  intro pins s σ H x y v u Q I rx ry h
  obtain ⟨d, e, hd, he, sd, se, q⟩ := h
  obtain ⟨as, r1⟩ := Dp.reads I d x v hd rx
  obtain ⟨bs, r2⟩ := Dp.reads I e y u he ry
  have h1 := shaped_dep sd
  exact SeqAt.compareNe_reads r1 r2 (shaped_can sd) (shaped_can se) (by have := Nat.min_le_left d.depth e.depth; omega) ⟨.bl _, H, I, rfl, q⟩
/-! == and != -/
abbrev rEqP (K : PySem.W.Frag) : R2 := fun x y H Q => rEq x y H Q ∨ rEqX K x y H Q
abbrev rNeP (K : PySem.W.Frag) : R2 := fun x y H Q => rNe x y H Q ∨ rNeX K x y H Q
theorem scal_rep {x y : V} {dx dy : PyData} (rx : VRep K H F x dx) (ry : VRep K H F y dy) (h : scalD dx dy = true) : scal x y = true ∧ decide (x = y) = PyData.eqv dx dy := by
  cases rx <;> cases ry <;> first
    | (refine ⟨rfl, ?_⟩; simp [PyData.eqv]; done)
    | (refine ⟨rfl, ?_⟩; rw [Bool.eq_iff_iff]; simp [PyData.eqv]; done)
    | (exfalso; simp [scalD, scrD] at h; done)
theorem p_eq : Prim2 K ca (rEqP K) .eq := by
  intro E H F ρ st x y dx dy z Q rel rx ry e h
  obtain ⟨g, e2⟩ := guard1_some (show guard1 (okEq dx dy) (PyData.bool (PyData.eqv dx dy)) = some z from e)
  subst e2
  cases s : scalD dx dy with
  | true =>
    obtain ⟨s1, s2⟩ := scal_rep rx ry s
    exact .inl ⟨s1, by rw [s2]; exact here_bl h rel⟩
  | false =>
    have g2 : (shD dx && shD dy) = true := by
      have g3 : (scalD dx dy || (shD dx && shD dy)) = true := g
      rw [s] at g3
      exact g3
    obtain ⟨a, b⟩ := Bool.and_eq_true_iff.mp g2
    exact .inr ⟨dx, dy, (rx.d rel.sub).dp (shaped_can a), (ry.d rel.sub).dp (shaped_can b), a, b, here_bl h rel⟩
theorem p_ne : Prim2 K ca (rNeP K) .ne := by
  intro E H F ρ st x y dx dy z Q rel rx ry e h
  obtain ⟨g, e2⟩ := guard1_some (show guard1 (okEq dx dy) (PyData.bool (!PyData.eqv dx dy)) = some z from e)
  subst e2
  cases s : scalD dx dy with
  | true =>
    obtain ⟨s1, s2⟩ := scal_rep rx ry s
    exact .inl ⟨s1, by rw [s2]; exact here_bl h rel⟩
  | false =>
    have g2 : (shD dx && shD dy) = true := by
      have g3 : (scalD dx dy || (shD dx && shD dy)) = true := g
      rw [s] at g3
      exact g3
    obtain ⟨a, b⟩ := Bool.and_eq_true_iff.mp g2
    exact .inr ⟨dx, dy, (rx.d rel.sub).dp (shaped_can a), (ry.d rel.sub).dp (shaped_can b), a, b, here_bl h rel⟩
/-! in, not in -/
theorem flat_v {H' : Hp} {x : V} {dx : PyData} (rx : DRep K H' x dx) (h : flat dx = true) : flatV x = true := by
  cases rx <;> first | rfl | (exfalso; simp [flat, scrD] at h; done)
theorem flat_eqv {H' : Hp} {x y : V} {dx dy : PyData} (rx : DRep K H' x dx) (ry : DRep K H' y dy) (h : flat dx = true) (h' : flat dy = true) : eqV x y = PyData.eqv dx dy := by
  cases rx <;> first
    | (exfalso; simp [flat, scrD] at h; done)
    | (cases ry <;> first
        | (exfalso; simp [flat, scrD] at h'; done)
        | (simp [eqV, PyData.eqv]; done))
theorem flats_v {H' : Hp} : ∀ {vs : List V} {ds : List PyData}, DReps K H' vs ds → ds.all flat = true → vs.all flatV = true
  | _, _, .nil, _ => rfl
  | _, _, .cons a b, h => by
    rw [List.all_cons, Bool.and_eq_true] at h ⊢
    exact ⟨flat_v a h.1, flats_v b h.2⟩
theorem in_eq {H' : Hp} {x : V} {dx : PyData} (rx : DRep K H' x dx) (hx : flat dx = true) : ∀ {vs : List V} {ds : List PyData}, DReps K H' vs ds → ds.all flat = true → inV x vs = inD dx ds
  | _, _, .nil, _ => rfl
  | _, _, .cons a b, h => by
    rw [List.all_cons, Bool.and_eq_true] at h
    show (eqV _ x || inV x _) = (PyData.eqv _ dx || inD dx _)
    rw [flat_eqv a rx h.1 hx, in_eq rx hx b h.2]
abbrev rInP (K : PySem.W.Frag) : R2 := fun x y H Q => rIn K false x y H Q ∨ (∃ (c : Nat) (z : Str), x = .str ⟨#[c]⟩ ∧ y = .str z ∧ Q (.bl (decide (c ∈ z.cps.toList))) H)
abbrev rNotInP (K : PySem.W.Frag) : R2 := fun x y H Q => rIn K true x y H Q ∨ (∃ (c : Nat) (z : Str), x = .str ⟨#[c]⟩ ∧ y = .str z ∧ Q (.bl (!decide (c ∈ z.cps.toList))) H)
theorem one_of {x : Str} (h : x.cps.toList.length = 1) : x = ⟨#[x.cps.toList.headD 0]⟩ := by
  obtain ⟨⟨l⟩⟩ := x
  match l, h with
  | [c], _ => rfl
theorem p_in : Prim2 K ca (rInP K) .isin := by
  intro E H F ρ st x y dx dy z Q rel rx ry e h
  cases ry with
  | str j =>
    cases rx with
    | str i =>
      obtain ⟨g, e2⟩ := guard1_some e
      subst e2
      exact .inr ⟨_, j, congrArg V.str (one_of (of_decide_eq_true g)), rfl, here_bl h rel⟩
    | _ => cases e
  | @lst _ _ ds a d =>
    have e' : guard1 (flat dx && ds.all flat) (PyData.bool (inD dx ds)) = some z := by cases dx <;> exact e
    obtain ⟨g, e2⟩ := guard1_some e'
    subst e2
    obtain ⟨g1, g2⟩ := Bool.and_eq_true_iff.mp g
    have rx' := rx.d rel.sub
    have d' := d.mono rel.sub
    refine .inl ⟨_, _, rfl, .inl (.inl a), flat_v rx' g1, flats_v d' g2, ?_⟩
    show Q (.bl (if false = true then !inV x _ else inV x _)) H
    rw [if_neg Bool.false_ne_true, in_eq rx' g1 d' g2]
    exact here_bl h rel
  | @tup _ _ ds a d =>
    have e' : guard1 (flat dx && ds.all flat) (PyData.bool (inD dx ds)) = some z := by cases dx <;> exact e
    obtain ⟨g, e2⟩ := guard1_some e'
    subst e2
    obtain ⟨g1, g2⟩ := Bool.and_eq_true_iff.mp g
    have rx' := rx.d rel.sub
    have d' := d.mono rel.sub
    refine .inl ⟨_, _, rfl, .inr (sub_t rel.sub a), flat_v rx' g1, flats_v d' g2, ?_⟩
    show Q (.bl (if false = true then !inV x _ else inV x _)) H
    rw [if_neg Bool.false_ne_true, in_eq rx' g1 d' g2]
    exact here_bl h rel
  | _ => cases dx <;> cases e
theorem p_notin : Prim2 K ca (rNotInP K) .notin := by
  intro E H F ρ st x y dx dy z Q rel rx ry e h
  cases ry with
  | str j =>
    cases rx with
    | str i =>
      obtain ⟨g, e2⟩ := guard1_some e
      subst e2
      exact .inr ⟨_, j, congrArg V.str (one_of (of_decide_eq_true g)), rfl, here_bl h rel⟩
    | _ => cases e
  | @lst _ _ ds a d =>
    have e' : guard1 (flat dx && ds.all flat) (PyData.bool (!inD dx ds)) = some z := by cases dx <;> exact e
    obtain ⟨g, e2⟩ := guard1_some e'
    subst e2
    obtain ⟨g1, g2⟩ := Bool.and_eq_true_iff.mp g
    have rx' := rx.d rel.sub
    have d' := d.mono rel.sub
    refine .inl ⟨_, _, rfl, .inl (.inl a), flat_v rx' g1, flats_v d' g2, ?_⟩
    show Q (.bl (if true = true then !inV x _ else inV x _)) H
    rw [if_pos rfl, in_eq rx' g1 d' g2]
    exact here_bl h rel
  | @tup _ _ ds a d =>
    have e' : guard1 (flat dx && ds.all flat) (PyData.bool (!inD dx ds)) = some z := by cases dx <;> exact e
    obtain ⟨g, e2⟩ := guard1_some e'
    subst e2
    obtain ⟨g1, g2⟩ := Bool.and_eq_true_iff.mp g
    have rx' := rx.d rel.sub
    have d' := d.mono rel.sub
    refine .inl ⟨_, _, rfl, .inr (sub_t rel.sub a), flat_v rx' g1, flats_v d' g2, ?_⟩
    show Q (.bl (if true = true then !inV x _ else inV x _)) H
    rw [if_pos rfl, in_eq rx' g1 d' g2]
    exact here_bl h rel
  | _ => cases dx <;> cases e
/-! is None -/
theorem non_v {H' : Hp} {x : V} {dx : PyData} (rx : VRep K H' F x dx) : decide (x = .non) = (match dx with
    | .none => true
    | _ => false) := by
  cases rx <;> simp [scrD]
/-! xs[i] -/
theorem atI_rep : ∀ {vs : List V} {ds : List PyData} {i : Int} {z : PyData}, DReps K F vs ds → atI ds i = some z → ∃ v, atI vs i = some v ∧ DRep K F v z := by
  intro vs ds i z d e
  unfold atI at e ⊢
  rw [d.length]
  cases q : ixN ds.length i with
  | none => rw [q] at e; cases e
  | some k =>
    rw [q] at e
    exact d.get e
theorem p_idx : Prim2 K ca (rIx K) .idx := by
  intro E H F ρ st x y dx dy z Q rel rx ry e h
  cases rx with
  | str s =>
    cases ry with
    | int i =>
      have e' : bindO (guard1 (lineOk s.length) ()) (fun _ => bindO (atI s.cps.toList i) fun c => some (PyData.str (one c))) = some z := e
      cases g : lineOk s.length with
      | false => rw [g] at e'; cases e'
      | true =>
        rw [g] at e'
        cases a : atI s.cps.toList i with
        | none => simp only [guard1, bindO, a] at e'; cases e'
        | some c =>
          simp only [guard1, bindO, a] at e'
          cases e'
          exact .inr (.inr ⟨s, i, c, rfl, rfl, line_le g, a, here_str h rel⟩)
    | _ => cases e
  | lst a d =>
    cases ry with
    | int i =>
      obtain ⟨v, e1, e2⟩ := atI_rep d (show atI _ i = some z from e)
      exact .inl ⟨_, _, i, v, rfl, rfl, .inl a, e1, h.here rel e2⟩
    | _ => cases e
  | tup a d =>
    cases ry with
    | int i =>
      obtain ⟨v, e1, e2⟩ := atI_rep d (show atI _ i = some z from e)
      exact .inr (.inl ⟨_, _, i, v, rfl, rfl, sub_t rel.sub a, e1, h.here rel e2⟩)
    | _ => cases e
  | @scr _ ns a =>
    cases ry with
    | int i =>
      have e0 : atI (ns.map PyData.int) i = some z := e
      unfold atI at e0
      rw [List.length_map] at e0
      cases q : ixN ns.length i with
      | none => rw [q] at e0; cases e0
      | some k =>
        rw [q] at e0
        have e1 : (ns.map PyData.int)[k]? = some z := e0
        rw [List.getElem?_map] at e1
        cases q2 : ns[k]? with
        | none => rw [q2] at e1; cases e1
        | some n =>
          rw [q2] at e1
          cases e1
          refine .inl ⟨_, _, i, .int n, rfl, rfl, a, ?_, here_int h rel⟩
          unfold atI
          rw [List.length_map, q]
          show (ns.map V.int)[k]? = _
          rw [List.getElem?_map, q2]
          rfl
    | _ => cases e
  | _ => cases e
end
end PV

namespace PV
open PySem L2
section
variable {K : PySem.W.Frag} {ca : Nat → Addr} {H F : Hp} {ρ : List Addr} {E : XK} {st : Sto} {Q : VK} {W : WX} {G : Ctx} {σ : L2.St}
theorem srep_d {v : V} {x : PyData} (h : SRep K F ρ v (.d x)) : DRep K F v x := h
theorem srep_true {v : V} (h : SRep K F ρ v (.d (.bool true))) : v = .bl true := by cases (srep_d h); rfl
theorem srep_bool {v : V} {b : Bool} (h : SRep K F ρ v (.d (.bool b))) : v = .bl b := by cases (srep_d h); rfl
/-- a test that comes out as b -/
theorem tTe_intro {r : Ev → Sto → Rs Sv} {QB : Bool → Hp → Prop} {env : Ev} (rel : Rel K ca H F ρ st) (eok : EnvOk K F ρ σ env) (k : Sv → Sto → Rs Sv) {Q : VK} (h : Post K ca (at_ W σ) H F ρ ((r env st).bind k) Q)
    (f : ∀ s st1 H1 F1 ρ1, Ext ρ H F ρ1 H1 F1 → Rel K ca H1 F1 ρ1 st1 → Post K ca (at_ W σ) H1 F1 ρ1 (k s st1) Q → ∃ b, s = .d (.bool b) ∧ QB b H1) : tTe K ca W r σ H QB := by
  refine ⟨F, ρ, st, env, rel, eok, h.bind fun s st1 v H1 F1 ρ1 _ e1 rel1 rv p1 => ?_⟩
  obtain ⟨b, e, q⟩ := f s st1 H1 F1 ρ1 e1 rel1 p1
  subst e
  exact ⟨b, srep_bool rv, q⟩
theorem bad_ {Q : VK} (h : Post K ca E H F ρ .bad Q) : False := h
/-- what follows a value that is True or False -/
def onB (kt kf : Sto → Rs Sv) : Sv → Sto → Rs Sv := fun s st => match s with
  | .d (.bool true) => kt st
  | .d (.bool false) => kf st
  | _ => .bad
theorem onB_inv {kt kf : Sto → Rs Sv} {s : Sv} (h : Post K ca E H F ρ (onB kt kf s st) Q) : ∃ b, s = .d (.bool b) ∧ Post K ca E H F ρ (if b = true then kt st else kf st) Q := by
  cases s with
  | r n => exact h.elim
  | d x => cases x with
    | bool b => cases b with
      | true => exact ⟨true, rfl, by rw [if_pos rfl]; exact h⟩
      | false => exact ⟨false, rfl, by rw [if_neg Bool.false_ne_true]; exact h⟩
    | _ => exact h.elim
theorem and_eq (a b : CE) (env : Ev) : evE G (.and_ a b) env st = (evE G a env st).bind (onB (fun st1 => evE G b env st1) fun st1 => .ok (.d (.bool false)) st1) := rfl
theorem or_eq (a b : CE) (env : Ev) : evE G (.or_ a b) env st = (evE G a env st).bind (onB (fun st1 => .ok (.d (.bool true)) st1) fun st1 => evE G b env st1) := rfl
theorem ife_eq (c a b : CE) (env : Ev) : evE G (.ife c a b) env st = (evE G c env st).bind (onB (fun st1 => evE G a env st1) fun st1 => evE G b env st1) := rfl
theorem not_eq (a : CE) (env : Ev) : evE G (.not_ a) env st = (evE G a env st).bind (onB (fun st1 => .ok (.d (.bool false)) st1) fun st1 => .ok (.d (.bool true)) st1) := by
  show (evE G a env st).bind _ = _
  congr 1
  funext s st1
  cases s with
  | r n => rfl
  | d x => cases x with
    | bool b => cases b <;> rfl
    | _ => rfl
theorem t_and {a b : CE} (h : tE K ca W (evE G (.and_ a b)) σ H Q) : tAndV (tE K ca W (evE G a)) (tE K ca W (evE G b)) σ H Q := by
  obtain ⟨F, ρ, st, env, rel, eok, h⟩ := h
  rw [and_eq] at h
  refine ⟨F, ρ, st, env, rel, eok, h.bind fun s st1 v H1 F1 ρ1 _ e1 rel1 rv p1 => ?_⟩
  obtain ⟨c, rfl, p⟩ := onB_inv p1
  refine ⟨c, srep_bool rv, ?_⟩
  cases c with
  | true => rw [if_pos rfl] at p ⊢; exact ⟨F1, ρ1, st1, env, rel1, eok.ext e1, p⟩
  | false => rw [if_neg Bool.false_ne_true] at p ⊢; exact here_bl p rel1
theorem t_or {a b : CE} (h : tE K ca W (evE G (.or_ a b)) σ H Q) : tOrV (tE K ca W (evE G a)) (tE K ca W (evE G b)) σ H Q := by
  obtain ⟨F, ρ, st, env, rel, eok, h⟩ := h
  rw [or_eq] at h
  refine ⟨F, ρ, st, env, rel, eok, h.bind fun s st1 v H1 F1 ρ1 _ e1 rel1 rv p1 => ?_⟩
  obtain ⟨c, rfl, p⟩ := onB_inv p1
  refine ⟨c, srep_bool rv, ?_⟩
  cases c with
  | true => rw [if_pos rfl] at p ⊢; exact here_bl p rel1
  | false => rw [if_neg Bool.false_ne_true] at p ⊢; exact ⟨F1, ρ1, st1, env, rel1, eok.ext e1, p⟩
theorem t_not {a : CE} (h : tE K ca W (evE G (.not_ a)) σ H Q) : tNotV (tE K ca W (evE G a)) σ H Q := by
  obtain ⟨F, ρ, st, env, rel, eok, h⟩ := h
  rw [not_eq] at h
  refine ⟨F, ρ, st, env, rel, eok, h.bind fun s st1 v H1 F1 ρ1 _ e1 rel1 rv p1 => ?_⟩
  obtain ⟨c, rfl, p⟩ := onB_inv p1
  refine ⟨c, srep_bool rv, ?_⟩
  cases c with
  | true => rw [if_pos rfl] at p; exact here_bl p rel1
  | false => rw [if_neg Bool.false_ne_true] at p; exact here_bl p rel1
theorem t_ife {c a b : CE} (h : tE K ca W (evE G (.ife c a b)) σ H Q) : tIf (tTe K ca W (evE G c)) (tE K ca W (evE G a)) (tE K ca W (evE G b)) σ H Q := by
  obtain ⟨F, ρ, st, env, rel, eok, h⟩ := h
  rw [ife_eq] at h
  refine tTe_intro rel eok _ h fun s st1 H1 F1 ρ1 e1 rel1 p1 => ?_
  obtain ⟨c, rfl, p⟩ := onB_inv p1
  refine ⟨c, rfl, ?_⟩
  cases c with
  | true => rw [if_pos rfl] at p ⊢; exact ⟨F1, ρ1, st1, env, rel1, eok.ext e1, p⟩
  | false => rw [if_neg Bool.false_ne_true] at p ⊢; exact ⟨F1, ρ1, st1, env, rel1, eok.ext e1, p⟩
/-! tests -/
theorem tt_and {a b : CE} {QB : Bool → Hp → Prop} (h : tTe K ca W (evE G (.and_ a b)) σ H QB) : tAnd (tTe K ca W (evE G a)) (tTe K ca W (evE G b)) σ H QB := by
  obtain ⟨F, ρ, st, env, rel, eok, h⟩ := h
  rw [and_eq] at h
  refine tTe_intro rel eok _ h fun s st1 H1 F1 ρ1 e1 rel1 p1 => ?_
  obtain ⟨c, rfl, p⟩ := onB_inv p1
  refine ⟨c, rfl, ?_⟩
  cases c with
  | true => rw [if_pos rfl] at p ⊢; exact ⟨F1, ρ1, st1, env, rel1, eok.ext e1, p⟩
  | false =>
    rw [if_neg Bool.false_ne_true] at p ⊢
    obtain ⟨b, e, q⟩ := here_bl p rel1
    cases e; exact q
theorem tt_or {a b : CE} {QB : Bool → Hp → Prop} (h : tTe K ca W (evE G (.or_ a b)) σ H QB) : tOr (tTe K ca W (evE G a)) (tTe K ca W (evE G b)) σ H QB := by
  obtain ⟨F, ρ, st, env, rel, eok, h⟩ := h
  rw [or_eq] at h
  refine tTe_intro rel eok _ h fun s st1 H1 F1 ρ1 e1 rel1 p1 => ?_
  obtain ⟨c, rfl, p⟩ := onB_inv p1
  refine ⟨c, rfl, ?_⟩
  cases c with
  | false => rw [if_neg Bool.false_ne_true] at p ⊢; exact ⟨F1, ρ1, st1, env, rel1, eok.ext e1, p⟩
  | true =>
    rw [if_pos rfl] at p ⊢
    obtain ⟨b, e, q⟩ := here_bl p rel1
    cases e; exact q
theorem tt_not {a : CE} {QB : Bool → Hp → Prop} (h : tTe K ca W (evE G (.not_ a)) σ H QB) : tNot (tTe K ca W (evE G a)) σ H QB := by
  obtain ⟨F, ρ, st, env, rel, eok, h⟩ := h
  rw [not_eq] at h
  refine tTe_intro rel eok _ h fun s st1 H1 F1 ρ1 e1 rel1 p1 => ?_
  obtain ⟨c, rfl, p⟩ := onB_inv p1
  refine ⟨c, rfl, ?_⟩
  cases c with
  | false =>
    rw [if_neg Bool.false_ne_true] at p
    obtain ⟨b, e, q⟩ := here_bl p rel1
    cases e; exact q
  | true =>
    rw [if_pos rfl] at p
    obtain ⟨b, e, q⟩ := here_bl p rel1
    cases e; exact q
/-! a < b < c -/
def chK (G : Ctx) (q : Prim) (sb : Sv) (c : CE) (env : Ev) (st2 : Sto) : Option PyData → Rs Sv
  | some (.bool true) => (evE G c env st2).bind fun sc st3 => toRs st3 (bindO (views st3 [sb, sc]) (prim q))
  | some (.bool false) => .ok (.d (.bool false)) st2
  | _ => .bad
theorem chain_eq (p q : Prim) (a b c : CE) (env : Ev) : evE G (.chain p q a b c) env st = (evE G a env st).bind fun sa st1 => (evE G b env st1).bind fun sb st2 => chK G q sb c env st2 (bindO (views st2 [sa, sb]) (prim p)) := rfl
theorem t_chain {rr rr' : R2} {p q : Prim} {a b c : CE} (hp : Prim2 K ca rr p) (hq : Prim2 K ca rr' q) (h : tE K ca W (evE G (.chain p q a b c)) σ H Q) : tChain rr rr' (tE K ca W (evE G a)) (tE K ca W (evE G b)) (tE K ca W (evE G c)) σ H Q := by
  obtain ⟨F, ρ, st, env, rel, eok, h⟩ := h
  rw [chain_eq] at h
  refine ⟨F, ρ, st, env, rel, eok, h.bind fun sa st1 x H1 F1 ρ1 _ e1 rel1 rx p1 => ?_⟩
  refine ⟨F1, ρ1, st1, env, rel1, eok.ext e1, p1.bind fun sb st2 y H2 F2 ρ2 _ e2 rel2 ry p2 => ?_⟩
  have rx2 := rx.ext e2
  have e12 := e1.trans e2
  cases v1 : view st2 sa with
  | none =>
    have e : views st2 [sa, sb] = none := by simp only [views, v1]
    rw [e] at p2; exact p2.elim
  | some dx =>
    cases v2 : view st2 sb with
    | none =>
      have e : views st2 [sa, sb] = none := by simp only [views, v1, v2]
      rw [e] at p2; exact p2.elim
    | some dy =>
      have e : views st2 [sa, sb] = some [dx, dy] := by simp only [views, v1, v2]
      rw [e] at p2
      cases e3 : prim p [dx, dy] with
      | none => simp only [bindO, e3] at p2; exact p2.elim
      | some z =>
        simp only [bindO, e3] at p2
        have hz : ∃ k, z = .bool k := by
          cases z with
          | bool k => exact ⟨k, rfl⟩
          | _ => exact p2.elim
        obtain ⟨k, rfl⟩ := hz
        refine hp (fun _ _ _ => True) H2 F2 ρ2 st2 x y dx dy _ _ rel2 (view_rep rel2 rx2 v1) (view_rep rel2 ry v2) e3 ?_
        intro v H3 F3 ρ3 ex3 rel3 rv
        refine ⟨k, srep_bool rv, ?_⟩
        cases k with
        | false =>
          rw [if_neg Bool.false_ne_true]
          exact p2 _ H3 F3 ρ3 ex3 rel3 (.bl false)
        | true =>
          rw [if_pos rfl]
          have p3 : Post K ca (at_ W σ) H3 F3 ρ3 ((evE G c env st2).bind fun sc st3 => toRs st3 (bindO (views st3 [sb, sc]) (prim q))) Q := Post.ext p2 ex3
          refine ⟨F3, ρ3, st2, env, rel3, (eok.ext e12).ext ex3, p3.bind fun sc st4 w H4 F4 ρ4 _ e4 rel4 rw4 p4 => ?_⟩
          obtain ⟨dy', dz, zz, w1, w2, e5, q5⟩ := two_views p4
          exact hq _ H4 F4 ρ4 st4 y w dy' dz zz Q rel4 (view_rep rel4 ((ry.ext ex3).ext e4) w1) (view_rep rel4 rw4 w2) e5 q5
/-! several -/
theorem t_nil {Q' : List V → Hp → Prop} (h : tEs K ca W (evEs G []) σ H Q') : tNil σ H Q' := by
  obtain ⟨F, ρ, st, env, rel, eok, h⟩ := h
  exact h [] H F ρ (Ext.refl ρ H F) rel .nil
theorem t_cons {e : CE} {es : List CE} {QA : List V → Hp → Prop} (h : tEs K ca W (evEs G (e :: es)) σ H QA) : tCons (tE K ca W (evE G e)) (tEs K ca W (evEs G es)) σ H QA := by
  obtain ⟨F, ρ, st, env, rel, eok, h⟩ := h
  have h' : PostA K ca (at_ W σ) H F ρ ((evE G e env st).bind fun s st1 => (evEs G es env st1).bind fun ss st2 => .ok (s :: ss) st2) QA := h
  refine ⟨F, ρ, st, env, rel, eok, h'.bind fun s st1 v H1 F1 ρ1 _ e1 rel1 rv p1 => ?_⟩
  refine ⟨F1, ρ1, st1, env, rel1, eok.ext e1, p1.bindA fun ss st2 vs H2 F2 ρ2 _ e2 rel2 rvs p2 => ?_⟩
  exact p2 _ H2 F2 ρ2 (Ext.refl ρ2 H2 F2) rel2 (.cons (rv.ext e2) rvs)
theorem evEs_len {G : Ctx} {env : Ev} : ∀ {es : List CE} {ss : List Sv} {st st1 : Sto}, evEs G es env st = .ok ss st1 → ss.length = es.length := by
  intro es
  induction es with
  | nil => intro ss st st1 e; cases e; rfl
  | cons c r ih =>
    intro ss st st1 e
    have e' : ((evE G c env st).bind fun s st1 => (evEs G r env st1).bind fun ss st2 => .ok (s :: ss) st2) = .ok ss st1 := e
    cases q1 : evE G c env st with
    | ok s st2 =>
      rw [q1] at e'
      have e'' : ((evEs G r env st2).bind fun ss st2 => Rs.ok (s :: ss) st2) = .ok ss st1 := e'
      cases q2 : evEs G r env st2 with
      | ok ss' st3 =>
        rw [q2] at e''
        cases e''
        rw [List.length_cons, List.length_cons, ih q2]
      | exc c p st => rw [q2] at e''; cases e''
      | bad => rw [q2] at e''; cases e''
    | exc c p st => rw [q1] at e'; cases e'
    | bad => rw [q1] at e'; cases e'
/-- a display, a call: what is made of the values in a row -/
theorem t_args {es : List CE} {k : List Sv → Sto → Rs Sv} {r : List V → Hp → VK → Prop} {env : Ev} (rel : Rel K ca H F ρ st) (eok : EnvOk K F ρ σ env) (h : Post K ca (at_ W σ) H F ρ ((evEs G es env st).bind k) Q)
    (f : ∀ ss st1 vs H1 F1 ρ1, Ext ρ H F ρ1 H1 F1 → Rel K ca H1 F1 ρ1 st1 → SReps K F1 ρ1 vs ss → Post K ca (at_ W σ) H1 F1 ρ1 (k ss st1) Q → r vs H1 Q) : tEs K ca W (evEs G es) σ H fun vs H1 => r vs H1 Q :=
  ⟨F, ρ, st, env, rel, eok, h.bindA fun ss st1 vs H1 F1 ρ1 _ e1 rel1 rvs p1 => f ss st1 vs H1 F1 ρ1 e1 rel1 rvs p1⟩
theorem t_tup {es : List CE} (hl : Nat.ble es.length 1000 = true) (h : tE K ca W (evE G (.tup es)) σ H Q) : tTup (tEs K ca W (evEs G es)) σ H Q := by
  obtain ⟨F, ρ, st, env, rel, eok, h⟩ := h
  have h' : Post K ca (at_ W σ) H F ρ ((evEs G es env st).bind fun ss st1 => (match allD ss with
    | some xs => .ok (.d (.tuple xs)) st1
    | none => .bad)) Q := h
  refine ⟨F, ρ, st, env, rel, eok, h'.bindA fun ss st1 vs H1 F1 ρ1 eq e1 rel1 rvs p1 => ?_⟩
  cases q : allD ss with
  | none => rw [q] at p1; exact p1.elim
  | some xs =>
    rw [q] at p1
    have d := allD_rep q rvs
    refine ⟨?_, fun p hp => Post.newT (ds := xs) p1 rel1 hp d⟩
    have l1 := evEs_len eq
    have l2 : vs.length = ss.length := Paired.length rvs
    have l3 := Nat.le_of_ble_eq_true hl
    have l4 : (1000 : Nat) ≤ sizeLine := by decide
    omega
theorem t_lstV {es : List CE} (hl : Nat.ble es.length 1000 = true) (h : tE K ca W (evE G (.lstV es)) σ H Q) : tLst (tEs K ca W (evEs G es)) σ H Q := by
  obtain ⟨F, ρ, st, env, rel, eok, h⟩ := h
  have h' : Post K ca (at_ W σ) H F ρ ((evEs G es env st).bind fun ss st1 => (match allD ss with
    | some xs => .ok (.d (.list xs)) st1
    | none => .bad)) Q := h
  refine ⟨F, ρ, st, env, rel, eok, h'.bindA fun ss st1 vs H1 F1 ρ1 eq e1 rel1 rvs p1 => ?_⟩
  cases q : allD ss with
  | none => rw [q] at p1; exact p1.elim
  | some xs =>
    rw [q] at p1
    have d := allD_rep q rvs
    refine ⟨?_, fun p hp => Post.newL (ds := xs) p1 rel1 hp d⟩
    have l1 := evEs_len eq
    have l2 : vs.length = ss.length := Paired.length rvs
    have l3 := Nat.le_of_ble_eq_true hl
    have l4 : (1000 : Nat) ≤ sizeLine := by decide
    omega
theorem t_lstR {es : List CE} (hl : Nat.ble es.length 1000 = true) (h : tE K ca W (evE G (.lstR es)) σ H Q) : tLst (tEs K ca W (evEs G es)) σ H Q := by
  obtain ⟨F, ρ, st, env, rel, eok, h⟩ := h
  have h' : Post K ca (at_ W σ) H F ρ ((evEs G es env st).bind fun ss st1 => .ok (.r st1.length) (st1 ++ [.lst ss])) Q := h
  refine ⟨F, ρ, st, env, rel, eok, h'.bindA fun ss st1 vs H1 F1 ρ1 eq e1 rel1 rvs p1 => ?_⟩
  refine ⟨?_, fun p hp => ?_⟩
  · have l1 := evEs_len eq
    have l2 : vs.length = ss.length := Paired.length rvs
    have l3 := Nat.le_of_ble_eq_true hl
    have l4 : (1000 : Nat) ≤ sizeLine := by decide
    omega
  · have E1 : Ext ρ1 H1 F1 (ρ1 ++ [p]) (upd H1 p (.lst vs)) F1 := Ext.cell hp
    refine p1 _ _ F1 (ρ1 ++ [p]) E1 (rel1.newCell hp ⟨rel1.fnone hp, vs, upd_same, SReps.ext E1 rvs⟩) ⟨p, ?_, rfl⟩
    rw [← rel1.len]
    simp
end
section
variable {X : Cx} {ca : Nat → Addr} {W : WX} {G : Ctx} {pos : Pos}
abbrev JA (X : Cx) (ca : Nat → Addr) (W : WX) (G : Ctx) (e : List Expr) (c : List CE) : Prop := PA X e (tEs X.K ca W (evEs G c))
abbrev JT (X : Cx) (ca : Nat → Addr) (W : WX) (G : Ctx) (e : Expr) (c : CE) : Prop := PT X e (tTe X.K ca W (evE G c))
theorem pa_imp {e : List Expr} {t t' : TA} (h : PA X e t) (k : ∀ σ H Q, t' σ H Q → t σ H Q) : PA X e t' := ⟨fun pos pins s σ H Q I q => h.run pos pins s σ H Q I (k σ H Q q)⟩
theorem ja_nil : JA X ca W G [] [] := pa_imp pa_nil fun _ _ _ h => t_nil h
theorem ja_cons {e : Expr} {es : List Expr} {c : CE} {cs : List CE} (h : JE X ca W G e c) (hr : JA X ca W G es cs) (hs : starEach (e :: es) X.env = (false, eval e X.env) :: starEach es X.env) : JA X ca W G (e :: es) (c :: cs) :=
  pa_imp (pa_cons h hr hs) fun _ _ _ h => t_cons h
theorem je_var {i : Nat} {x : Str} (hN : X.N[i]? = some x) (hv : Vis X.env.scope x) (hd : (x == ("__debug__" : Str)) = false) (hcd : (x == ("__classdict__" : Str)) = false) : JE X ca W G (.Name x pos) (.var i) :=
  pe_imp (pe_var hN hv hd hcd) fun σ H Q ⟨F, ρ, st, env, rel, eok, h⟩ => by
    have h' : Post X.K ca (at_ W σ) H F ρ (match env[i]? with
      | some (some s) => .ok s st
      | _ => .bad) Q := h
    cases e : env[i]? with
    | none => rw [e] at h'; exact h'.elim
    | some o =>
      cases o with
      | none => rw [e] at h'; exact h'.elim
      | some s =>
        rw [e] at h'
        obtain ⟨v, e1, r⟩ := eok.2 i s e
        exact ⟨v, e1, Post.here h' rel r⟩
/-- a global's value -/
def GloOk (X : Cx) (x : Str) (d : PyData) : Prop := ∃ v u, X.mg x = some u ∧ RelV v u ∧ ∀ F, DRep X.K F v d
theorem je_glo {x : Str} {g : Nat} (hg : Gl X x) (h : GloOk X x (G.glo g)) (hd : (x == ("__debug__" : Str)) = false) : JE X ca W G (.Name x pos) (.glo g) := by
  obtain ⟨v, u, hm, r, dr⟩ := h
  exact pe_imp (pe_glob hg hm r hd) fun σ H Q ⟨F, ρ, st, env, rel, eok, h⟩ => Post.here (w := .d (G.glo g)) h rel (dr F)
theorem je_int {i : Int} {j : Nat} : JE X ca W G (.Constant (.int i) j pos) (.lit (.int i)) := pe_imp pe_int fun σ H Q ⟨F, ρ, st, env, rel, eok, h⟩ => Post.here (w := .d (.int i)) h rel (.int i)
theorem je_bl {i : Bool} {j : Nat} : JE X ca W G (.Constant (.bool i) j pos) (.lit (.bool i)) := pe_imp pe_bl fun σ H Q ⟨F, ρ, st, env, rel, eok, h⟩ => Post.here (w := .d (.bool i)) h rel (.bl i)
theorem je_str {i : Str} {j : Nat} : JE X ca W G (.Constant (.str i) j pos) (.lit (.str i)) := pe_imp pe_str fun σ H Q ⟨F, ρ, st, env, rel, eok, h⟩ => Post.here (w := .d (.str i)) h rel (.str i)
theorem je_non {j : Nat} : JE X ca W G (.Constant .none j pos) (.lit .none) := pe_imp pe_non fun σ H Q ⟨F, ρ, st, env, rel, eok, h⟩ => Post.here (w := .d .none) h rel .non
theorem je_one {op} {a : Expr} {c : CE} (h : JE X ca W G a c) : JE X ca W G (.BoolOp op [a] pos) c := pe_one h
theorem je_and {a b : Expr} {rest : List Expr} {c1 c2 : CE} (ha : JE X ca W G a c1) (hb : JE X ca W G (.BoolOp .And (b :: rest) pos) c2) : JE X ca W G (.BoolOp .And (a :: b :: rest) pos) (.and_ c1 c2) := pe_imp (pe_and ha hb) fun _ _ _ h => t_and h
theorem je_or {a b : Expr} {rest : List Expr} {c1 c2 : CE} (ha : JE X ca W G a c1) (hb : JE X ca W G (.BoolOp .Or (b :: rest) pos) c2) : JE X ca W G (.BoolOp .Or (a :: b :: rest) pos) (.or_ c1 c2) := pe_imp (pe_or ha hb) fun _ _ _ h => t_or h
theorem je_not {a : Expr} {c : CE} (ha : JE X ca W G a c) : JE X ca W G (.UnaryOp .Not a pos) (.not_ c) := pe_imp (pe_not ha) fun _ _ _ h => t_not h
theorem je_ife {c a b : Expr} {c1 c2 c3 : CE} (hc : JT X ca W G c c1) (ha : JE X ca W G a c2) (hb : JE X ca W G b c3) : JE X ca W G (.IfExp c a b pos) (.ife c1 c2 c3) := pe_imp (pe_ifExp hc ha hb) fun _ _ _ h => t_ife h
theorem pw_imp {e : Expr} {t t' : TT} (h : PW X e t) (k : ∀ σ H Q, t' σ H Q → t σ H Q) : PW X e t' := ⟨fun w pins s σ H Q I q => h.run w pins s σ H Q I (k σ H Q q)⟩
abbrev JW (X : Cx) (ca : Nat → Addr) (W : WX) (G : Ctx) (e : Expr) (c : CE) : Prop := PW X e (tTe X.K ca W (evE G c))
theorem jw_and1 {a : Expr} {c : CE} (ha : JT X ca W G a c) : JW X ca W G (.BoolOp .And [a] pos) c := pw_and1 ha
theorem jw_or1 {a : Expr} {c : CE} (ha : JT X ca W G a c) : JW X ca W G (.BoolOp .Or [a] pos) c := pw_or1 ha
theorem jw_and {a b : Expr} {rest : List Expr} {c1 c2 : CE} (ha : JT X ca W G a c1) (hb : JW X ca W G (.BoolOp .And (b :: rest) pos) c2) : JW X ca W G (.BoolOp .And (a :: b :: rest) pos) (.and_ c1 c2) := pw_imp (pw_and ha hb) fun _ _ _ h => tt_and h
theorem jw_or {a b : Expr} {rest : List Expr} {c1 c2 : CE} (ha : JT X ca W G a c1) (hb : JW X ca W G (.BoolOp .Or (b :: rest) pos) c2) : JW X ca W G (.BoolOp .Or (a :: b :: rest) pos) (.or_ c1 c2) := pw_imp (pw_or ha hb) fun _ _ _ h => tt_or h
theorem jt_not {a : Expr} {c : CE} (ha : JT X ca W G a c) : JT X ca W G (.UnaryOp .Not a pos) (.not_ c) := pt_imp (pt_not ha) fun _ _ _ h => tt_not h
theorem jt_val {e : Expr} {c : CE} (h : JE X ca W G e c) (he : ∀ whole, isTrue e X.env whole = (do let v ← whole; standAt e.pos; holding [v] (truthy v))) : JT X ca W G e c := pt_imp (pt_val h he) fun _ _ _ h => h
theorem je_chain {a b c : Expr} {c1 c2 c3 : CE} {o o' : CmpOp} {rr rr' : R2} {p q : Prim} (ho : OpR X (compareOp o) rr) (ho' : OpR X (compareOp o') rr') (hp : Prim2 X.K ca rr p) (hq : Prim2 X.K ca rr' q) (ha : JE X ca W G a c1) (hb : JE X ca W G b c2) (hc : JE X ca W G c c3)
    (hm : lastMarks [o, o'] [b, c] = false) : JE X ca W G (.Compare a [o, o'] [b, c] pos) (.chain p q c1 c2 c3) := pe_imp (pe_chain ho ho' ha hb hc hm) fun _ _ _ h => t_chain hp hq h
theorem jt_chain {a b c : Expr} {c1 c2 c3 : CE} {o o' : CmpOp} {rr rr' : R2} {p q : Prim} (ho : OpR X (compareOp o) rr) (ho' : OpR X (compareOp o') rr') (hp : Prim2 X.K ca rr p) (hq : Prim2 X.K ca rr' q) (ha : JE X ca W G a c1) (hb : JE X ca W G b c2) (hc : JE X ca W G c c3)
    (hm : lastMarks [o, o'] [b, c] = false) : JT X ca W G (.Compare a [o, o'] [b, c] pos) (.chain p q c1 c2 c3) := pt_imp (pt_chain ho ho' ha hb hc hm) fun σ H Q h => t_chain (Q := fun v H' => ∃ b, v = .bl b ∧ Q b H') hp hq h
theorem je_tup {es : List Expr} {k : Nat} {cs : List CE} (h : JA X ca W G es cs) (hl : Nat.ble cs.length 1000 = true) : JE X ca W G (.Tuple es k pos) (.tup cs) := pe_imp (pe_tup h) fun _ _ _ q => t_tup hl q
theorem je_lstV {es : List Expr} {cs : List CE} (h : JA X ca W G es cs) (hl : Nat.ble cs.length 1000 = true) : JE X ca W G (.List es pos) (.lstV cs) := pe_imp (pe_lst h) fun _ _ _ q => t_lstV hl q
theorem je_lstR {es : List Expr} {cs : List CE} (h : JA X ca W G es cs) (hl : Nat.ble cs.length 1000 = true) : JE X ca W G (.List es pos) (.lstR cs) := pe_imp (pe_lst h) fun _ _ _ q => t_lstR hl q
theorem je_idx {a b : Expr} {c1 c2 : CE} (ha : JE X ca W G a c1) (hb : JE X ca W G b c2) (hs : PlainIx b) : JE X ca W G (.Subscript a b pos) (.op .idx [c1, c2]) := pe_imp (pe_ix ix_seq ha hb hs) fun _ _ _ h => t_op2 p_idx h
end
end PV

namespace PV
open PySem L2 PySem.Spec PyProof.Rows
/-! ## Room for calls: one level for each call -/
structure Room (k : Nat) (A : Around) : Prop where
  hd : A.handled = none
  dp : A.depth + k + 5 < recursionLimit
  un : A.units + 4 * k + 1200 < cLine
section
variable {j k : Nat} {A : Around}
theorem Room.mono (r : Room k A) (h : j ≤ k) : Room j A := ⟨r.hd, by have := r.dp; omega, by have := r.un; omega⟩
theorem Room.deeper (r : Room (k + 1) A) (env : Env) : Room k (A.deeper env) := ⟨r.hd, by have := r.dp; show A.depth + 1 + k + 5 < _; omega, by have := r.un; show A.units + 3 + 4 * k + 1200 < _; omega⟩
theorem Room.make (r : Room (k + 1) A) (C : Addr) (us : List Value) (kw : List (Str × Value)) : Room k (A.under (.builtin "type.__call__" ⟨.ref C :: us, kw⟩)) :=
  ⟨r.hd, by have := r.dp; rw [make_depth]; omega, by have := r.un; rw [make_units]; omega⟩
theorem Room.depth (r : Room k A) : A.depth < recursionLimit := by have := r.dp; omega
theorem Room.of (r : L2.Room 231 A) (h : k ≤ 602) : Room k A := ⟨r.hd, by have := r.dp; omega, by have := r.un; omega⟩
end
/-- a def's promise, by this room -/
structure FnOk (P : Program) (w : World) (K : PySem.W.Frag) (mg : Str → Option Value) (base : Heap) (CX : CXT) (k : Nat) (f : Addr) (fd : FuncData) (ps : List Str) (sp : Sp) : Prop where
  len : ∀ vs H Q E, sp vs H Q E → vs.length = ps.length
  run : ∀ (A : Around) (outer : List Env) (s : Shared) (H : Hp) (args : Args) (us : List Value) (vs : List V) (Q : VK) (E : XK), Room k A → Env0 P w K mg base A outer s H → BindsTo s fd args (ps.zip us) → Vals vs us → sp vs H Q E →
    codeAny (model P w) A (.call (.ref f) args) (CR CX outer P w H s Q E) s
section
variable {P : Program} {w : World} {K : PySem.W.Frag} {mg : Str → Option Value} {base : Heap} {CX : CXT} {k : Nat} {f : Addr} {fd : FuncData} {ps : List Str} {sp : Sp}
theorem FnOk.out (F : FnOk P w K mg base CX k f fd ps sp) (h : k ≤ 602) : L2.FnOk P w K mg base CX 231 f fd ps sp :=
  ⟨F.len, fun A outer s H args us vs Q E hr => F.run A outer s H args us vs Q E (Room.of hr h)⟩
theorem fund_ok {x qual : Str} {params : Arguments} {body : List Stmt} {scope : Scope} {dvs : List V} {kws : List (Str × V)} {N : List Str} (F : FunD K x qual params body scope dvs kws f fd) (S : FnScope N ps scope) (len : ∀ vs H Q E, sp vs H Q E → vs.length = ps.length)
    (hbody : ∀ (cdv : Value) (A : Around) (outer : List Env) (s : Shared) (H : Hp) (vs : List V) (Q : VK) (E : XK), Room k (A.deeper (envOfC qual scope s.heap.objs.size f cdv)) → sp vs H Q E →
      ∃ t, PSs (cxOf CX P w K mg base N qual scope f cdv A outer s H E) body t ∧ t { nx := fun _ H' => Q .non H', rt := Q } (start N vs) H) : FnOk P w K mg base CX (k + 1) f fd ps sp := by
  obtain ⟨oc, od, dV, kV, doc, pm, an, cdv, ct, osl, rfl, lk, hcd, _, _⟩ := F.ex
  refine ⟨len, fun A outer s H args us vs Q E hr e0 hb r hsp => ?_⟩
  have hl := len _ _ _ _ hsp
  have KX : K.In s.heap := e0.mod.kin.keeps fun b o e => (e0.bs b o e).1
  have lim : s.heap.NoLimit := e0.mod.nolimit.keeps fun b o e => (e0.bs b o e).1
  have hkind : ∀ y ∈ ps.zip us, scope.names.lookup y.1 = some .local ∨ (scope.names.lookup y.1 = some .cell ∧ ((cellsFrom (s.heap.objs.size + 1) scope.names []).lookup y.1).isSome = true) := fun ⟨n, v⟩ hy => by
    rcases S.par n (List.of_mem_zip hy).1 with q | q
    · exact .inl q
    · exact .inr ⟨q, PySem.W.cellsFrom_some _ _ _ (.inl q)⟩
  refine codeAny_call_function hr.depth (KX _ _ lk) rfl S.co S.gen rfl (PySem.W.codeRec_of KX hcd) (hb _ _ _ _ ?_)
  refine wpAny_newFunctionEnv_cells S.kind hkind fun env he s1 x => ?_
  subst he
  refine ⟨lim.keeps x.toInCall.keep, codeAny_func ?_⟩
  obtain ⟨t, ht, hq⟩ := hbody cdv A outer s H vs Q E (hr.deeper _) hsp
  have I : Inv (cxOf CX P w K mg base N qual scope f cdv A outer s H E) [] (start N vs) H s1 := inv_start S hr.hd e0 hl r x
  refine wpAny_mono (ht.run [] s1 (start N vs) H _ I hq) (fun fl s' hs => ?_) fun e s' hs => hs
  have fin : ∀ {σ' : L2.St} {H' : Hp} {v : V} {u : Value}, Inv (cxOf CX P w K mg base N qual scope f cdv A outer s H E) [] σ' H' s' → RelV v u → Q v H' → L2.CE outer P w H s Q u s' :=
    fun {σ' H' v u} J rv q => ⟨v, H', J.os, J.bare, J.base, J.hok, rv, q⟩
  cases fl with
  | ret u =>
    obtain ⟨v, σ', H', J, rv, q⟩ := hs
    exact fin J rv q
  | next =>
    obtain ⟨σ', H', J, q⟩ := hs
    exact fin (v := V.non) (u := Value.none) J rfl q
  | brk =>
    obtain ⟨_, _, _, q⟩ := hs
    exact False.elim q
  | cont =>
    obtain ⟨_, _, _, q⟩ := hs
    exact False.elim q
end
section
variable {X : Cx} {CX : CXT} {k : Nat} {f : Addr} {fd : FuncData} {ps : List Str} {sp : Sp} {E : L2.St → XK} {x : Str} {p pos : Pos} {e : Expr} {es : List Expr} {t : TA}
theorem run_fnS {pins : List (Addr × Obj)} {σ : L2.St} {H : Hp} {s : Shared} {Q : VK} {us : List Value} {vs : List V} (F : FnOk X.prog X.w X.K X.mg X.base CX k f fd ps sp) (hr : Room k X.A) (hb : Binds X.K fd ps []) (hx : PassesAt CX X σ (E σ))
    (I : Inv X pins σ H s) (r : Vals vs us) (h : sp vs H Q (E σ)) : wpAny (model X.prog X.w) X.A (call (.ref f) us) (EP X pins σ Q) X.xe s := by
  have hl : us.length = ps.length := by rw [← r.length]; exact F.len _ _ _ _ h
  have b := hb s us I.kIn (by rw [List.append_nil]; exact hl)
  rw [List.append_nil] at b
  refine wpAny_call (codeAny_mono (F.run X.A X.stack s H ⟨us, []⟩ us vs Q (E σ) hr I.env0 b r h) fun r s' hq => ?_)
  cases r with
  | error e => exact hx pins H s e s' I hq
  | ok fl =>
    cases fl with
    | ret u => exact I.after hq
    | next => exact False.elim hq
    | brk => exact False.elim hq
    | cont => exact False.elim hq
theorem pe_callS (F : FnOk X.prog X.w X.K X.mg X.base CX k f fd ps sp) (hr : Room k X.A) (hg : Gl X x) (hm : X.mg x = some (.ref f)) (hk : PySem.W.keepIn X.K (.ref f) = true) (hb : Binds X.K fd ps []) (hx : ∀ σ, PassesAt CX X σ (E σ))
    (ha : PA X (e :: es) t) (hdb : (x == ("__debug__" : Str)) = false := by decide) (he : starEach (e :: es) X.env = (false, eval e X.env) :: starEach es X.env := by rfl) (hpl : (backTo pos (starEach es X.env)).any (·.1) = false := by rfl) :
    PE X (.Call (.Name x p) (e :: es) [] pos) (tCallS sp E t) := by
  refine ⟨fun pins s σ H Q I h => ?_⟩
  refine wpAny_Call_Name_kw (ld_glob I hg hm ?_ hdb)
  refine PySem.W.callWith_K (h₀ := X.base) I.ok.mod.kin hk (thn (ha.run pos pins s σ H _ I h) fun us s1 ⟨vs, H1, I1, r, q⟩ => ⟨I1.kIn, ?_⟩) he hpl
  exact run_fnS F hr hb (hx σ) I1 r q
end
/-- what a def promises: it does what the small language says -/
def Prom (K : PySem.W.Frag) (ca : Nat → Addr) (n : Nat) (ev : List Sv → Sto → Rs Sv) : Sp := fun vs H Q E => ∃ F ρ st ss, Rel K ca H F ρ st ∧ SReps K F ρ vs ss ∧ ss.length = n ∧ Post K ca E H F ρ (ev ss st) Q
theorem Prom.len {K : PySem.W.Frag} {ca : Nat → Addr} {n : Nat} {ev : List Sv → Sto → Rs Sv} {vs : List V} {H : Hp} {Q : VK} {E : XK} (h : Prom K ca n ev vs H Q E) : vs.length = n := by
  obtain ⟨F, ρ, st, ss, _, r, l, _⟩ := h
  rw [← l]
  exact Paired.length r
section
variable {K : PySem.W.Frag} {ca : Nat → Addr} {H F : Hp} {ρ : List Addr} {E : XK} {st : Sto} {Q : VK} {W : WX} {G : Ctx} {σ : L2.St}
theorem dreps_sreps : ∀ {vs : List V} {ds : List PyData}, DReps K F vs ds → SReps K F ρ vs (ds.map .d)
  | _, _, .nil => .nil
  | _, _, .cons a b => .cons a (dreps_sreps b)
theorem Ext.nil {ρ' : List Addr} {H' F' : Hp} (e : Ext [] H F ρ' H' F') : Ext ρ H F ρ H' F' :=
  ⟨e.ff, ⟨[], by simp, by simp⟩, fun a o h _ => e.hh a o h (by simp), e.th, fun a o h => by
    rcases e.fn a o h with z | z | z
    · exact .inl z
    · exact .inr (.inl z)
    · cases z⟩
theorem Rel.nil {ρ' : List Addr} {H' F' : Hp} {st' : Sto} (h : Rel K ca H F ρ st) (e : Ext [] H F ρ' H' F') (h' : Rel K ca H' F' ρ' st') : Rel K ca H' F' ρ st := by
  refine ⟨h'.sub, h.nd, Paired.imp_mem (fun a c m q => ?_) h.cells⟩
  obtain ⟨o, ho⟩ := q.some_ h.sub
  refine q.ext (Ext.nil (ρ := ρ) e) (by rw [ho]; exact e.hh a o ho (by simp)) ?_
  cases q1 : F a with
  | some u => exact e.ff a u q1
  | none =>
    cases q2 : F' a with
    | none => rfl
    | some u =>
      rcases e.fn a u q2 with z | z | z
      · rw [q1] at z; cases z
      · rw [ho] at z; cases z
      · cases z
theorem SRep.more {l : List Addr} {v : V} {s : Sv} (h : SRep K F ρ v s) : SRep K F (ρ ++ l) v s := by
  cases s with
  | d x => exact h
  | r n =>
    obtain ⟨a, h1, h2⟩ := h
    exact ⟨a, by rw [List.getElem?_append_left (List.getElem?_eq_some_iff.mp h1).1]; exact h1, h2⟩
theorem CellOk.more {l : List Addr} {a : Addr} {c : Cell} (h : CellOk K ca H F ρ a c) : CellOk K ca H F (ρ ++ l) a c := by
  cases c with
  | lst xs =>
    obtain ⟨h1, vs, h2, h3⟩ := h
    exact ⟨h1, vs, h2, Paired.imp (fun _ _ q => q.more) h3⟩
  | frz xs => exact h
  | obj c fs =>
    obtain ⟨h1, dx, vfs, h2, h3⟩ := h
    exact ⟨h1, dx, vfs, h2, Paired.imp (fun _ _ q => ⟨q.1, q.2.more⟩) h3⟩
  | dct kvs => exact h
theorem Prom.of_evCall {n : Nat} {ev : List Sv → Sto → Rs Sv} {ss : List Sv} {vs : List V} (rel : Rel K ca H F ρ st) (r : SReps K F ρ vs ss) (hl : ss.length = n) (h : Post K ca E H F ρ (evCall ev ss st) Q) : Prom K ca n ev vs H Q E := by
  cases q : allD ss with
  | none =>
    refine ⟨F, ρ, st, ss, rel, r, hl, ?_⟩
    have e : evCall ev ss st = ev ss st := by simp only [evCall, q]
    rw [e] at h
    exact h
  | some ds =>
    have d := allD_rep q r
    have hl2 : (ds.map Sv.d).length = n := by
      rw [List.length_map, ← d.length, Paired.length r]
      exact hl
    refine ⟨F, [], [], ds.map .d, ⟨rel.sub, List.nodup_nil, .nil⟩, dreps_sreps d, hl2, ?_⟩
    cases q2 : ev (ds.map .d) [] with
    | bad =>
      simp only [evCall, q, q2] at h
      exact h.elim
    | exc c p st2 =>
      simp only [evCall, q, q2] at h
      exact fun H' F' ρ' ex rel' => h H' F' ρ (Ext.nil ex) (rel.nil ex rel')
    | ok w st2 =>
      cases w with
      | r m =>
        have h' : Post K ca E H F ρ (match st2[m]? with
          | some (.lst xs) => (match allD xs with
            | some ys => .ok (.r st.length) (st ++ [.lst (ys.map .d)])
            | none => .bad)
          | some (.dct kvs) => .ok (.r st.length) (st ++ [.dct kvs])
          | _ => .bad) Q := by
          simp only [evCall, q, q2] at h
          exact h
        cases q3 : st2[m]? with
        | none => rw [q3] at h'; exact h'.elim
        | some c0 =>
          rw [q3] at h'
          cases c0 with
          | frz xs => exact h'.elim
          | obj c fs => exact h'.elim
          | dct kvs =>
            have h2 : Post K ca E H F ρ (.ok (.r st.length) (st ++ [.dct kvs])) Q := h'
            intro v H' F' ρ' ex rel' rv
            obtain ⟨a, ha, rfl⟩ := rv
            obtain ⟨a', ha', fa, vks, Ha, rs⟩ := rel'.cell q3
            rw [ha] at ha'
            cases ha'
            have e0 := Ext.nil (ρ := ρ) ex
            have r0 := rel.nil ex rel'
            have hn : H a = none := by
              obtain ⟨mm, em, hm⟩ := ex.rr
              rw [em, List.nil_append] at ha
              exact hm a (List.mem_of_getElem? ha)
            have na : a ∉ ρ := rel.notin hn
            refine h2 (.ref a) H' F' (ρ ++ [a]) ⟨e0.ff, ⟨[a], rfl, fun b m => by simp at m; rw [m]; exact hn⟩, e0.hh, e0.th, e0.fn⟩ ⟨r0.sub, ?_, Paired.snoc ⟨fa, vks, Ha, rs⟩ (Paired.imp (fun _ _ q => q.more) r0.cells)⟩ ⟨a, ?_, rfl⟩
            · rw [List.nodup_append]
              refine ⟨rel.nd, by simp, fun b mb c mc => ?_⟩
              simp at mc
              subst mc
              exact fun z => na (z ▸ mb)
            · rw [List.getElem?_append_right (by rw [rel.len]; exact Nat.le_refl _), rel.len, Nat.sub_self]
              rfl
          | lst xs =>
            have h2 : Post K ca E H F ρ (match allD xs with
              | some ys => .ok (.r st.length) (st ++ [.lst (ys.map .d)])
              | none => .bad) Q := h'
            cases q4 : allD xs with
            | none => rw [q4] at h2; exact h2.elim
            | some ys =>
              rw [q4] at h2
              intro v H' F' ρ' ex rel' rv
              obtain ⟨a, ha, rfl⟩ := rv
              obtain ⟨a', ha', fa, vs', Ha, rs⟩ := rel'.cell q3
              rw [ha] at ha'
              cases ha'
              have dr := allD_rep q4 rs
              have e0 := Ext.nil (ρ := ρ) ex
              have r0 := rel.nil ex rel'
              have hn : H a = none := by
                obtain ⟨mm, em, hm⟩ := ex.rr
                rw [em, List.nil_append] at ha
                exact hm a (List.mem_of_getElem? ha)
              have na : a ∉ ρ := rel.notin hn
              refine h2 (.ref a) H' F' (ρ ++ [a]) ⟨e0.ff, ⟨[a], rfl, fun b m => by simp at m; rw [m]; exact hn⟩, e0.hh, e0.th, e0.fn⟩ ⟨r0.sub, ?_, Paired.snoc ⟨fa, vs', Ha, dreps_sreps dr⟩ (Paired.imp (fun _ _ q => q.more) r0.cells)⟩ ⟨a, ?_, rfl⟩
              · rw [List.nodup_append]
                refine ⟨rel.nd, by simp, fun b mb c mc => ?_⟩
                simp at mc
                subst mc
                exact fun z => na (z ▸ mb)
              · rw [List.getElem?_append_right (by rw [rel.len]; exact Nat.le_refl _), rel.len, Nat.sub_self]
                rfl
      | d x =>
        simp only [evCall, q, q2] at h
        exact fun v H' F' ρ' ex rel' rv => h v H' F' ρ (Ext.nil ex) (rel.nil ex rel') rv
theorem t_call {f n : Nat} {es : List CE} (hl : es.length = n) (h : tE K ca W (evE G (.call f es)) σ H Q) : tCallS (Prom K ca n (G.call f)) (WE W) (tEs K ca W (evEs G es)) σ H Q := by
  obtain ⟨F, ρ, st, env, rel, eok, h⟩ := h
  have h' : Post K ca (at_ W σ) H F ρ ((evEs G es env st).bind fun ss st1 => evCall (G.call f) ss st1) Q := h
  refine ⟨F, ρ, st, env, rel, eok, h'.bindA fun ss st1 vs H1 F1 ρ1 eq e1 rel1 rvs p1 => ?_⟩
  exact Prom.of_evCall rel1 rvs ((evEs_len eq).trans hl) p1
/-- the fields of an object -/
abbrev FRep (K : PySem.W.Frag) (F : Hp) (ρ : List Addr) : List (Str × V) → List (Str × Sv) → Prop := Paired (fun (p : Str × V) (q : Str × Sv) => p.1 = q.1 ∧ SRep K F ρ p.2 q.2)
theorem frep_some {f : Str} : ∀ {vfs : List (Str × V)} {fs : List (Str × Sv)} {s : Sv}, FRep K F ρ vfs fs → fs.lookup f = some s → ∃ v, vfs.lookup f = some v ∧ SRep K F ρ v s
  | _, _, _, .nil, e => by cases e
  | (g, v) :: vr, (g', s') :: r, s, .cons ⟨h1, h2⟩ t, e => by
    have hg : g = g' := h1
    subst hg
    by_cases z : f = g
    · subst z
      simp only [List.lookup, beq_self_eq_true] at e ⊢
      cases e
      exact ⟨v, rfl, h2⟩
    · have zb : (f == g) = false := beq_eq_false_iff_ne.mpr z
      simp only [List.lookup, zb] at e ⊢
      exact frep_some t e
theorem frep_none {f : Str} : ∀ {vfs : List (Str × V)} {fs : List (Str × Sv)}, FRep K F ρ vfs fs → fs.lookup f = none → vfs.lookup f = none
  | _, _, .nil, _ => rfl
  | (g, v) :: vr, (g', s') :: r, .cons ⟨h1, h2⟩ t, e => by
    have hg : g = g' := h1
    subst hg
    by_cases z : f = g
    · subst z
      simp only [List.lookup, beq_self_eq_true] at e
      cases e
    · have zb : (f == g) = false := beq_eq_false_iff_ne.mpr z
      simp only [List.lookup, zb] at e ⊢
      exact frep_none t e
theorem frep_put {f : Str} {v : V} {s : Sv} (r : SRep K F ρ v s) : ∀ {vfs : List (Str × V)} {fs : List (Str × Sv)}, FRep K F ρ vfs fs → FRep K F ρ (putF f v vfs) (putS f s fs)
  | _, _, .nil => .cons ⟨rfl, r⟩ .nil
  | (g, w) :: vr, (g', s') :: sr, .cons ⟨h1, h2⟩ t => by
    have hg : g = g' := h1
    subst hg
    show FRep K F ρ (if g = f then (g, v) :: vr else (g, w) :: putF f v vr) (if g = f then (g, s) :: sr else (g, s') :: putS f s sr)
    by_cases z : g = f
    · rw [if_pos z, if_pos z]; exact .cons ⟨rfl, r⟩ t
    · rw [if_neg z, if_neg z]; exact .cons ⟨rfl, h2⟩ (frep_put r t)
theorem frep_ext {ρ' : List Addr} {H' F' : Hp} (e : Ext ρ H F ρ' H' F') {vfs : List (Str × V)} {fs : List (Str × Sv)} (h : FRep K F ρ vfs fs) : FRep K F' ρ' vfs fs := Paired.imp (fun _ _ q => ⟨q.1, SRep.ext e q.2⟩) h
/-- an object that is read -/
theorem obj_inv {n c : Nat} {fs : List (Str × Sv)} {v : V} (rel : Rel K ca H F ρ st) (r : SRep K F ρ v (.r n)) (e : st[n]? = some (.obj c fs)) : ∃ a dx vfs, ρ[n]? = some a ∧ v = .ref a ∧ F a = none ∧ H a = some (.ins (ca c) dx vfs) ∧ FRep K F ρ vfs fs := by
  obtain ⟨a, ha, rfl⟩ := r
  obtain ⟨a', ha', hc⟩ := rel.cell e
  rw [ha] at ha'
  cases ha'
  obtain ⟨h1, dx, vfs, h2, h3⟩ := hc
  exact ⟨a, dx, vfs, ha, rfl, h1, h2, h3⟩
theorem lst_inv {n : Nat} {xs : List Sv} {v : V} (rel : Rel K ca H F ρ st) (r : SRep K F ρ v (.r n)) (e : st[n]? = some (.lst xs)) : ∃ a vs, ρ[n]? = some a ∧ v = .ref a ∧ F a = none ∧ H a = some (.lst vs) ∧ SReps K F ρ vs xs := by
  obtain ⟨a, ha, rfl⟩ := r
  obtain ⟨a', ha', hc⟩ := rel.cell e
  rw [ha] at ha'
  cases ha'
  obtain ⟨h1, vs, h2, h3⟩ := hc
  exact ⟨a, vs, ha, rfl, h1, h2, h3⟩
/-- the text's classes, as the facts of the top say -/
structure ClsOk (K : PySem.W.Frag) (ca : Nat → Addr) (G : Ctx) : Prop where
  cls : ∀ c f, G.fld c f = true → Cls K (ca c) ∧ NoAttr K (ca c) f
theorem fld_some {c : Nat} {f : Str} {fs : List (Str × Sv)} {k : Sv → Rs Sv} (h : Post K ca E H F ρ (match G.fld c f, fs.lookup f with
    | true, some s => k s
    | _, _ => .bad) Q) : G.fld c f = true ∧ ∃ s, fs.lookup f = some s ∧ Post K ca E H F ρ (k s) Q := by
  cases q1 : G.fld c f with
  | false => rw [q1] at h; exact h.elim
  | true =>
    cases q2 : fs.lookup f with
    | none => rw [q1, q2] at h; exact h.elim
    | some s => rw [q1, q2] at h; exact ⟨rfl, s, rfl, h⟩
theorem t_fld {o : CE} {f : Str} (C : ClsOk K ca G) (h : tE K ca W (evE G (.fld o f)) σ H Q) : tFld K (tE K ca W (evE G o)) f σ H Q := by
  obtain ⟨F, ρ, st, env, rel, eok, h⟩ := h
  have h' : Post K ca (at_ W σ) H F ρ ((evE G o env st).bind fun so st1 => (match so with
    | .r n => (match st1[n]? with
      | some (.obj c fs) => (match G.fld c f, fs.lookup f with
        | true, some s => .ok s st1
        | _, _ => .bad)
      | _ => .bad)
    | _ => .bad)) Q := h
  refine ⟨F, ρ, st, env, rel, eok, h'.bind fun so st1 v H1 F1 ρ1 _ e1 rel1 rv p1 => ?_⟩
  cases so with
  | d x => exact p1.elim
  | r n =>
    have p2 : Post K ca (at_ W σ) H1 F1 ρ1 (match st1[n]? with
      | some (.obj c fs) => (match G.fld c f, fs.lookup f with
        | true, some s => .ok s st1
        | _, _ => .bad)
      | _ => .bad) Q := p1
    cases q : st1[n]? with
    | none => rw [q] at p2; exact p2.elim
    | some c0 =>
      rw [q] at p2
      cases c0 with
      | lst xs => exact p2.elim
      | frz xs => exact p2.elim
      | dct kvs => exact p2.elim
      | obj c fs =>
        obtain ⟨g, s, hs, p3⟩ := fld_some (k := fun s => .ok s st1) p2
        obtain ⟨a, dx, vfs, ha, rfl, fa, Ha, fr⟩ := obj_inv rel1 rv q
        obtain ⟨w, hw, rw_⟩ := frep_some fr hs
        obtain ⟨k1, k2⟩ := C.cls c f g
        exact ⟨a, ca c, dx, vfs, w, rfl, Ha, k1, k2, hw, Post.here p3 rel1 rw_⟩
/-! o.m(..) -/
def tMethW (C : Addr) (m : Str) (sp : Sp) (E : L2.St → XK) (ta : TE) (t : TA) : TE := fun σ H Q => ta σ H fun x H1 => ∃ a dx fs, x = .ref a ∧ H1 a = some (.ins C dx fs) ∧ fs.lookup m = none ∧
  t σ H1 fun vs H2 => sp (x :: vs) H2 Q (E σ)
def tMakeW (C : Addr) (sp : Sp) (E : L2.St → XK) (t : TA) : TE := fun σ H Q => t σ H fun vs H1 => ∀ x dx, H1 x = none → H1 dx = none → dx ≠ x →
  sp (.ref x :: vs) (upd (upd H1 dx (.own x)) x (.ins C dx [])) (fun v H2 => v = .non ∧ Q (.ref x) H2) (E σ)
theorem meth_go {c n : Nat} {m : Str} {o : Option Cell} {k : Nat → List (Str × Sv) → Rs Sv} (h : Post K ca E H F ρ (match o with
      | some (.obj c' fs) => (match decide (c' = c), fs.lookup m with
        | true, none => k c' fs
        | _, _ => .bad)
      | _ => .bad) Q) : ∃ fs, o = some (.obj c fs) ∧ fs.lookup m = none ∧ Post K ca E H F ρ (k c fs) Q := by
  cases o with
  | none => exact h.elim
  | some c0 =>
    cases c0 with
    | lst xs => exact h.elim
    | frz xs => exact h.elim
    | dct kvs => exact h.elim
    | obj c' fs =>
      have h2 : Post K ca E H F ρ (match decide (c' = c), fs.lookup m with
        | true, none => k c' fs
        | _, _ => .bad) Q := h
      cases q1 : decide (c' = c) with
      | false => rw [q1] at h2; exact h2.elim
      | true =>
        cases q2 : fs.lookup m with
        | some s => rw [q1, q2] at h2; exact h2.elim
        | none =>
          rw [q1, q2] at h2
          have e : c' = c := of_decide_eq_true q1
          subst e
          exact ⟨fs, rfl, q2, h2⟩
theorem t_meth {o : CE} {c f n : Nat} {m : Str} {es : List CE} (hl : es.length + 1 = n) (h : tE K ca W (evE G (.meth o c m f es)) σ H Q) : tMethW (ca c) m (Prom K ca n (G.call f)) (WE W) (tE K ca W (evE G o)) (tEs K ca W (evEs G es)) σ H Q := by
  obtain ⟨F, ρ, st, env, rel, eok, h⟩ := h
  have h' : Post K ca (at_ W σ) H F ρ ((evE G o env st).bind fun so st1 => (match so with
    | .r n => (match st1[n]? with
      | some (.obj c' fs) => (match decide (c' = c), fs.lookup m with
        | true, none => (evEs G es env st1).bind fun ss st2 => G.call f (.r n :: ss) st2
        | _, _ => .bad)
      | _ => .bad)
    | _ => .bad)) Q := h
  refine ⟨F, ρ, st, env, rel, eok, h'.bind fun so st1 v H1 F1 ρ1 _ e1 rel1 rv p1 => ?_⟩
  cases so with
  | d x => exact p1.elim
  | r j =>
    obtain ⟨fs, q, l, p2⟩ := meth_go (n := j) (k := fun _ _ => (evEs G es env st1).bind fun ss st2 => G.call f (.r j :: ss) st2) p1
    obtain ⟨a, dx, vfs, ha, rfl, fa, Ha, fr⟩ := obj_inv rel1 rv q
    refine ⟨a, dx, vfs, rfl, Ha, frep_none fr l, F1, ρ1, st1, env, rel1, eok.ext e1, p2.bindA fun ss st2 vs H2 F2 ρ2 eq e2 rel2 rvs p3 => ?_⟩
    exact ⟨F2, ρ2, st2, .r j :: ss, rel2, .cons ⟨a, e2.idx ha, rfl⟩ rvs, by rw [List.length_cons, evEs_len eq]; exact hl, p3⟩
theorem t_new {c f n : Nat} {es : List CE} (hl : es.length + 1 = n) (h : tE K ca W (evE G (.new c f es)) σ H Q) : tMakeW (ca c) (Prom K ca n (G.init f)) (WE W) (tEs K ca W (evEs G es)) σ H Q := by
  obtain ⟨F, ρ, st, env, rel, eok, h⟩ := h
  have h' : Post K ca (at_ W σ) H F ρ ((evEs G es env st).bind fun ss st1 => (G.init f (.r st1.length :: ss) (st1 ++ [.obj c []])).bind fun w st2 => (match w with
    | .d .none => .ok (.r st1.length) st2
    | _ => .bad)) Q := h
  refine ⟨F, ρ, st, env, rel, eok, h'.bindA fun ss st1 vs H1 F1 ρ1 eq e1 rel1 rvs p1 => ?_⟩
  intro x dx hx hdx ne
  -- the instance's own dict, then the instance
  have s1 : Sub H1 (upd H1 dx (.own x)) := sub_upd hdx
  have rel2 : Rel K ca (upd H1 dx (.own x)) F1 ρ1 st1 := rel1.grow s1
  have hx2 : (upd H1 dx (.own x)) x = none := by rw [upd_ne (Ne.symm ne)]; exact hx
  have E2 : Ext ρ1 H1 F1 ρ1 (upd H1 dx (.own x)) F1 := Ext.grow s1
  have E3 : Ext ρ1 (upd H1 dx (.own x)) F1 (ρ1 ++ [x]) (upd (upd H1 dx (.own x)) x (.ins (ca c) dx [])) F1 := Ext.cell hx2
  have rel3 : Rel K ca (upd (upd H1 dx (.own x)) x (.ins (ca c) dx [])) F1 (ρ1 ++ [x]) (st1 ++ [.obj c []]) := rel2.newCell hx2 ⟨rel2.fnone hx2, dx, [], upd_same, .nil⟩
  have ix : (ρ1 ++ [x])[st1.length]? = some x := by
    rw [← rel1.len]
    simp
  have rvs3 := SReps.ext (E2.trans E3) rvs
  refine ⟨F1, ρ1 ++ [x], st1 ++ [.obj c []], .r st1.length :: ss, rel3, .cons ⟨x, ix, rfl⟩ rvs3, by rw [List.length_cons, evEs_len eq]; exact hl, ?_⟩
  have p2 := Post.ext p1 (E2.trans E3)
  refine p2.bind fun w st2 v H2 F2 ρ2 _ e2 relz rv p3 => ?_
  cases w with
  | r j => exact p3.elim
  | d y =>
    cases y with
    | none =>
      cases (srep_d rv)
      exact ⟨rfl, p3.here relz ⟨x, e2.idx ix, rfl⟩⟩
    | _ => exact p3.elim
end
section
variable {X : Cx} {ca : Nat → Addr} {W : WX} {G : Ctx} {pos : Pos} {CX : CXT} {k : Nat} {f C : Addr} {fd : FuncData} {ps : List Str} {sp : Sp} {E : L2.St → XK} {x m : Str} {p apos : Pos} {e o : Expr} {es : List Expr} {ta : TE} {t : TA}
theorem pe_methW {pl : Sem Bool} (he : PE X o ta) (c : Cls X.K C) (hm : Meth X.K C m f) (Fn : FnOk X.prog X.w X.K X.mg X.base CX k f fd ps sp) (hr : Room k X.A) (hb : Binds X.K fd ps []) (hx : ∀ σ, PassesAt CX X σ (E σ)) (ha : PA X (e :: es) t)
    (hst : starEach (e :: es) X.env = (false, eval e X.env) :: starEach es X.env) (hpl : (backTo pos (starEach es X.env)).any (·.1) = false)
    (ht : eval (.Call (.Attribute o m apos) (e :: es) [] pos) X.env = (do
      let ov ← eval o X.env
      standAt apos.atName
      let (f, first) ← holding [ov] (getMethod ov m pl)
      callWith pos f first (backTo pos (starEach (e :: es) X.env)) (backToKw pos (keywordEach [] X.env)))) :
    PE X (.Call (.Attribute o m apos) (e :: es) [] pos) (tMethW C m sp E ta t) := by
  refine ⟨fun pins s σ H Q I h => ?_⟩
  refine PySem.W.methodCall_KW (pl := pl) (thn (he.run pins s σ H _ I h) fun u s1 ⟨x, H1, I1, rx, a, dx, fs, ex, ea, l, q⟩ => ?_) ht
  subst ex
  obtain rfl : u = Value.ref a := rx
  refine getmeth_ok I1 ea c hm l ?_
  refine PySem.W.callWith_K (first := [.ref a]) (h₀ := X.base) I.ok.mod.kin hm.kp (thn (ha.run pos pins s1 σ H1 _ I1 q) fun us s2 ⟨vs, H2, I2, r, q2⟩ => ⟨I2.kIn, ?_⟩) hst hpl
  exact run_fnS (us := .ref a :: us) (vs := .ref a :: vs) Fn hr hb (hx σ) I2 (.cons rfl r) q2
theorem pe_methW0 {pl : Sem Bool} (he : PE X o ta) (c : Cls X.K C) (hm : Meth X.K C m f) (Fn : FnOk X.prog X.w X.K X.mg X.base CX k f fd ps sp) (hr : Room k X.A) (hb : Binds X.K fd ps []) (hx : ∀ σ, PassesAt CX X σ (E σ)) (hn : ∀ σ H Q, t σ H Q → Q [] H)
    (ht : eval (.Call (.Attribute o m apos) [] [] pos) X.env = (do
      let ov ← eval o X.env
      standAt apos.atName
      let (f, first) ← holding [ov] (getMethod ov m pl)
      callWith pos f first (backTo pos (starEach [] X.env)) (backToKw pos (keywordEach [] X.env)))) :
    PE X (.Call (.Attribute o m apos) [] [] pos) (tMethW C m sp E ta t) := by
  refine ⟨fun pins s σ H Q I h => ?_⟩
  refine PySem.W.methodCall_KW (pl := pl) (thn (he.run pins s σ H _ I h) fun u s1 ⟨x, H1, I1, rx, a, dx, fs, ex, ea, l, q⟩ => ?_) ht
  subst ex
  obtain rfl : u = Value.ref a := rx
  refine getmeth_ok I1 ea c hm l ?_
  exact PySem.W.callWith_K0 (first := [.ref a]) I1.kIn hm.kp (run_fnS (us := [.ref a]) (vs := [.ref a]) Fn hr hb (hx σ) I1 (.cons rfl .nil) (hn _ _ _ q))
theorem run_makeW {pins : List (Addr × Obj)} {σ : L2.St} {H : Hp} {s : Shared} {Q : VK} {us : List Value} {vs : List V} (M : Mk X.K C f) (Fn : FnOk X.prog X.w X.K X.mg X.base CX k f fd ps sp) (hr : Room (k + 1) X.A) (hb : Binds X.K fd ps [])
    (hx : ∀ σ, PassesAt CX X σ (E σ)) (I : Inv X pins σ H s) (r : Vals vs us)
    (h : ∀ x dx, H x = none → H dx = none → dx ≠ x → sp (.ref x :: vs) (upd (upd H dx (.own x)) x (.ins C dx [])) (fun v H2 => v = .non ∧ Q (.ref x) H2) (E σ)) :
    wpAny (model X.prog X.w) X.A (call (.ref C) us) (EP X pins σ Q) X.xe s := by
  have hq := h (s.heap.objs.size + 1) s.heap.objs.size (I.hok.fresh (Nat.le_succ _)) (I.hok.fresh (Nat.le_refl _)) (Nat.ne_of_lt (Nat.lt_succ_self _))
  have I2 := Inv.made (C := C) I
  have r2 : Vals (V.ref (s.heap.objs.size + 1) :: vs) (Value.ref (s.heap.objs.size + 1) :: us) := .cons rfl r
  have hl : (Value.ref (s.heap.objs.size + 1) :: us).length = ps.length := by
    have e := r2.length
    rw [Fn.len _ _ _ _ hq] at e
    exact e.symm
  have b := hb _ (Value.ref (s.heap.objs.size + 1) :: us) I2.kIn (by rw [List.append_nil]; exact hl)
  rw [List.append_nil] at b
  refine wpAny_call (make_map (f := f) I.kIn M.makes M.init (beq_iff_eq.mp M.fn) (codeAny_mono (Fn.run _ X.stack _ _ ⟨Value.ref (s.heap.objs.size + 1) :: us, []⟩ (Value.ref (s.heap.objs.size + 1) :: us) _ _ (E σ) (hr.make C us [])
    (I2.env0.make C us []) b r2 hq) fun r s' hq' => ?_))
  cases r with
  | error e => exact hx σ pins _ _ e s' I2 hq'
  | ok fl =>
    cases fl with
    | ret u =>
      obtain ⟨v, H', I3, rv, ev, q3⟩ := I2.after hq'
      subst ev
      exact ⟨rv, ⟨V.ref (s.heap.objs.size + 1), H', I3, rfl, q3⟩⟩
    | next => exact False.elim hq'
    | brk => exact False.elim hq'
    | cont => exact False.elim hq'
theorem pe_makeW (M : Mk X.K C f) (Fn : FnOk X.prog X.w X.K X.mg X.base CX k f fd ps sp) (hr : Room (k + 1) X.A) (hg : Gl X x) (hm : X.mg x = some (.ref C)) (hb : Binds X.K fd ps []) (hx : ∀ σ, PassesAt CX X σ (E σ))
    (ha : PA X (e :: es) t) (hdb : (x == ("__debug__" : Str)) = false) (he : starEach (e :: es) X.env = (false, eval e X.env) :: starEach es X.env) (hpl : (backTo pos (starEach es X.env)).any (·.1) = false) :
    PE X (.Call (.Name x p) (e :: es) [] pos) (tMakeW C sp E t) := by
  refine ⟨fun pins s σ H Q I h => ?_⟩
  refine wpAny_Call_Name_kw (ld_glob I hg hm ?_ hdb)
  refine PySem.W.callWith_K (h₀ := X.base) I.ok.mod.kin M.kp (thn (ha.run pos pins s σ H _ I h) fun us s1 ⟨vs, H1, I1, r, q⟩ => ⟨I1.kIn, ?_⟩) he hpl
  exact run_makeW M Fn hr hb hx I1 r q
theorem pe_makeW0 (M : Mk X.K C f) (Fn : FnOk X.prog X.w X.K X.mg X.base CX k f fd ps sp) (hr : Room (k + 1) X.A) (hg : Gl X x) (hm : X.mg x = some (.ref C)) (hb : Binds X.K fd ps []) (hx : ∀ σ, PassesAt CX X σ (E σ)) (hn : ∀ σ H Q, t σ H Q → Q [] H)
    (hdb : (x == ("__debug__" : Str)) = false) : PE X (.Call (.Name x p) [] [] pos) (tMakeW C sp E t) := by
  refine ⟨fun pins s σ H Q I h => ?_⟩
  refine wpAny_Call_Name_kw (ld_glob I hg hm ?_ hdb)
  exact PySem.W.callWith_K0 I.kIn M.kp (run_makeW (us := []) (vs := []) M Fn hr hb hx I .nil (hn _ _ _ h))
end
end PV

namespace PV
open PySem L2 PySem.Spec PyProof.Rows
section
variable {K : PySem.W.Frag} {ca : Nat → Addr} {H F : Hp} {ρ : List Addr} {E : XK} {st : Sto} {Q : VK} {W : WX} {G : Ctx} {σ : L2.St}
/-! ### primitives of a row of values -/
def PrimN (K : PySem.W.Frag) (ca : Nat → Addr) (r : List V → Hp → VK → Prop) (p : Prim) : Prop := ∀ (E : XK) (H F : Hp) (ρ : List Addr) (st : Sto) (vs : List V) (ds : List PyData) (z : PyData) (Q : VK), Rel K ca H F ρ st → VReps K H F vs ds → prim p ds = some z → Post K ca E H F ρ (.ok (.d z) st) Q → r vs H Q
theorem views_inv {ss : List Sv} {f : List PyData → Option PyData} (h : Post K ca E H F ρ (toRs st (bindO (views st ss) f)) Q) : ∃ ds z, views st ss = some ds ∧ f ds = some z ∧ Post K ca E H F ρ (.ok (.d z) st) Q := by
  cases e1 : views st ss with
  | none => rw [e1] at h; exact h.elim
  | some ds =>
    rw [e1] at h
    cases e2 : f ds with
    | none => simp only [bindO, e2] at h; exact h.elim
    | some z => simp only [bindO, e2] at h; exact ⟨ds, z, rfl, e2, h⟩
theorem t_opN {r : List V → Hp → VK → Prop} {p : Prim} {es : List CE} (hp : PrimN K ca r p) (h : tE K ca W (evE G (.op p es)) σ H Q) : tCB r (tEs K ca W (evEs G es)) σ H Q := by
  obtain ⟨F, ρ, st, env, rel, eok, h⟩ := h
  have h' : Post K ca (at_ W σ) H F ρ ((evEs G es env st).bind fun ss st1 => toRs st1 (bindO (views st1 ss) (prim p))) Q := h
  refine t_args rel eok h' fun ss st1 vs H1 F1 ρ1 e1 rel1 rvs p1 => ?_
  obtain ⟨ds, z, v1, e2, q⟩ := views_inv p1
  exact hp _ H1 F1 ρ1 st1 vs ds z Q rel1 (views_rep rel1 rvs v1) e2 q
theorem p_len : PrimN K ca (fun xs H Q => ∃ x n, xs = [x] ∧ LenV K x H n ∧ Q (.int n) H) .len := by
  intro E H F ρ st vs ds z Q rel r e h
  cases r with
  | nil => cases e
  | cons rx rt =>
    cases rt with
    | cons _ _ =>
      cases rx <;> cases e
    | nil =>
      cases rx with
      | str s =>
        obtain ⟨g, e2⟩ := guard1_some e
        subst e2
        exact ⟨_, _, rfl, ⟨line_le g, rfl⟩, here_int h rel⟩
      | lst a d =>
        cases e
        refine ⟨_, _, rfl, .inl ⟨_, .inl a, rfl⟩, ?_⟩
        rw [d.length]
        exact here_int h rel
      | tup a d =>
        cases e
        refine ⟨_, _, rfl, .inr ⟨_, sub_t rel.sub a, rfl⟩, ?_⟩
        rw [d.length]
        exact here_int h rel
      | @scr _ ns a =>
        have e' : some (PyData.int ((ns.map PyData.int).length : Int)) = some z := e
        cases e'
        refine ⟨_, _, rfl, .inl ⟨_, a, rfl⟩, ?_⟩
        rw [List.length_map]
        rw [List.length_map] at h
        exact here_int h rel
      | _ => cases e
theorem p_abs : PrimN K ca (fun xs H Q => ∃ i, xs = [.int i] ∧ Q (.int (if i < 0 then -i else i)) H) .abs := by
  intro E H F ρ st vs ds z Q rel r e h
  cases r with
  | nil => cases e
  | cons rx rt =>
    cases rt with
    | cons _ _ => cases rx <;> cases e
    | nil =>
      cases rx with
      | int i => cases e; exact ⟨i, rfl, here_int h rel⟩
      | _ => cases e
theorem p_int : PrimN K ca (fun xs H Q => ((∃ i, xs = [.int i] ∧ Q (.int i) H) ∨ ∃ k, xs = [.bl k] ∧ Q (.int (if k then 1 else 0)) H) ∨ ∃ a n, xs = [.str a] ∧ PySem.intText? a = some n ∧ a.length ≤ 640 ∧ Q (.int n) H) .int := by
  intro E H F ρ st vs ds z Q rel r e h
  cases r with
  | nil => cases e
  | cons rx rt =>
    cases rt with
    | cons _ _ => cases rx <;> cases e
    | nil =>
      cases rx with
      | int i => cases e; exact .inl (.inl ⟨i, rfl, here_int h rel⟩)
      | bl i => cases e; exact .inl (.inr ⟨i, rfl, here_int h rel⟩)
      | str a =>
        have e2 : bindO (guard1 (decide (a.length ≤ 640)) ()) (fun _ => bindO (PySem.intText? a) fun n => some (PyData.int n)) = some z := e
        by_cases hl : a.length ≤ 640
        · rw [decide_eq_true hl] at e2
          have e3 : bindO (PySem.intText? a) (fun n => some (PyData.int n)) = some z := e2
          cases hn : PySem.intText? a with
          | none => rw [hn] at e3; cases e3
          | some n => rw [hn] at e3; cases e3; exact .inr ⟨a, n, rfl, hn, hl, here_int h rel⟩
        · rw [decide_eq_false hl] at e2; cases e2
      | _ => cases e
theorem p_str : PrimN K ca (fun xs H Q => ∃ i, xs = [.int i] ∧ i.natAbs.log2 < 1920 ∧ Q (.str (toString i)) H) .strI := by
  intro E H F ρ st vs ds z Q rel r e h
  cases r with
  | nil => cases e
  | cons rx rt =>
    cases rt with
    | cons _ _ => cases rx <;> cases e
    | nil =>
      cases rx with
      | int i =>
        obtain ⟨g, e2⟩ := guard1_some e
        subst e2
        exact ⟨i, rfl, of_decide_eq_true g, here_str h rel⟩
      | _ => cases e
theorem ints_rep {H' : Hp} : ∀ {ds : List PyData} {is : List Int} {vs : List V}, intsOf ds = some is → DReps K H' vs ds → vs = is.map V.int
  | [], is, _, e, .nil => by cases e; rfl
  | d :: r, is, _, e, .cons a t => by
    cases d with
    | int i =>
      have e1 : (match intsOf r with | some is => some (i :: is) | none => none) = some is := e
      cases q : intsOf r with
      | none => rw [q] at e1; cases e1
      | some js =>
        rw [q] at e1
        cases e1
        cases a
        rw [List.map_cons, ints_rep q t]
    | _ => cases e
theorem bools_rep {H' : Hp} : ∀ {ds : List PyData} {is : List Bool} {vs : List V}, boolsOf ds = some is → DReps K H' vs ds → vs = is.map V.bl
  | [], is, _, e, .nil => by cases e; rfl
  | d :: r, is, _, e, .cons a t => by
    cases d with
    | bool i =>
      have e1 : (match boolsOf r with | some is => some (i :: is) | none => none) = some is := e
      cases q : boolsOf r with
      | none => rw [q] at e1; cases e1
      | some js =>
        rw [q] at e1
        cases e1
        cases a
        rw [List.map_cons, bools_rep q t]
    | _ => cases e
theorem strs_rep {H' : Hp} : ∀ {ds : List PyData} {is : List Str} {vs : List V}, strsOf ds = some is → DReps K H' vs ds → vs = is.map V.str
  | [], is, _, e, .nil => by cases e; rfl
  | d :: r, is, _, e, .cons a t => by
    cases d with
    | str i =>
      have e1 : (match strsOf r with | some is => some (i :: is) | none => none) = some is := e
      cases q : strsOf r with
      | none => rw [q] at e1; cases e1
      | some js =>
        rw [q] at e1
        cases e1
        cases a
        rw [List.map_cons, strs_rep q t]
    | _ => cases e
theorem p_tuple : PrimN K ca (fun xs H Q => ∃ p ys, xs = [.ref p] ∧ ((SqL K H p ys ∧ ∀ l, H l = none → Q (.ref l) (upd H l (.tup ys))) ∨ (SqT K H p ys ∧ Q (.ref p) H))) .toTup := by
  intro E H F ρ st vs ds z Q rel r e h
  cases r with
  | nil => cases e
  | cons rx rt =>
    cases rt with
    | cons _ _ => cases rx <;> cases e
    | nil =>
      cases rx with
      | @lst a xs ds a1 d =>
        cases e
        refine ⟨a, xs, rfl, .inl ⟨.inl a1, fun l hl => ?_⟩⟩
        have hf := rel.fnone hl
        exact h (.ref l) _ _ ρ (Ext.fresh hl hf) (rel.fresh hl) (.tup (.inl (.inl upd_same)) (d.mono (sub_upd hf)))
      | _ => cases e
theorem p_toLst : PrimN K ca (fun xs H Q => ∃ p ys, xs = [.ref p] ∧ (SqL K H p ys ∨ SqT K H p ys) ∧ ∀ l, H l = none → Q (.ref l) (upd H l (.lst ys))) .toLst := by
  intro E H F ρ st vs ds z Q rel r e h
  cases r with
  | nil => cases e
  | cons rx rt =>
    cases rt with
    | cons _ _ => cases rx <;> cases e
    | nil =>
      cases rx with
      | @lst a xs ds a1 d =>
        cases e
        exact ⟨a, xs, rfl, .inl (.inl a1), fun l hl => h.newL rel hl d⟩
      | _ => cases e
def leS (a b : Str) : Prop := a.cps.toList ≤ b.cps.toList
theorem lt_leS {a b : Str} : PySem.Spec.ltCps b.cps.toList a.cps.toList = false ↔ leS a b := by
  rw [PyProof.Rows.ltCps_eq, decide_eq_false_iff_not]
  exact List.not_lt
theorem leS_trans {a b c : Str} (h : leS a b) (k : leS b c) : leS a c := List.le_trans h k
theorem leS_anti {a b : Str} (h : leS a b) (k : leS b a) : a = b := by
  have e := List.le_antisymm h k
  obtain ⟨x⟩ := a
  obtain ⟨y⟩ := b
  have e2 : x = y := Array.toList_inj.mp e
  rw [e2]
theorem rising_pw : ∀ (r : List Str) (p : Str), PyProof.Rows.risingS p r = true → (p :: r).Pairwise leS
  | [], p, _ => by simp
  | x :: r, p, h => by
    have h' : (!PySem.Spec.ltCps x.cps.toList p.cps.toList && PyProof.Rows.risingS x r) = true := h
    obtain ⟨h1, h2⟩ := Bool.and_eq_true_iff.mp h'
    have l1 : leS p x := lt_leS.mp (by simpa using h1)
    have ih := rising_pw r x h2
    refine List.Pairwise.cons (fun y my => ?_) ih
    rcases List.mem_cons.mp my with rfl | my
    · exact l1
    · exact leS_trans l1 ((List.pairwise_cons.mp ih).1 y my)
theorem sorted_pw {r : List Str} (h : PyProof.Rows.sortedS r = true) : r.Pairwise leS := by
  cases r with
  | nil => exact List.Pairwise.nil
  | cons x r => exact rising_pw r x h
theorem ins_perm (x : Str) : ∀ r : List Str, (insS x r).Perm (x :: r)
  | [] => List.Perm.refl _
  | y :: r => by
    unfold insS
    split
    · exact ((ins_perm x r).cons y).trans (List.Perm.swap x y r)
    · exact List.Perm.refl _
theorem ins_pw (x : Str) : ∀ r : List Str, r.Pairwise leS → (insS x r).Pairwise leS
  | [], _ => by unfold insS; simp
  | y :: r, h => by
    obtain ⟨h1, h2⟩ := List.pairwise_cons.mp h
    unfold insS
    split
    · rename_i hlt
      have hyx : leS y x := by
        rw [PyProof.Rows.ltCps_eq] at hlt
        have q := of_decide_eq_true hlt
        exact List.not_lt.mp (List.lt_asymm q)
      refine List.Pairwise.cons (fun z mz => ?_) (ins_pw x r h2)
      rcases List.mem_cons.mp ((ins_perm x r).subset mz) with rfl | mz
      · exact hyx
      · exact h1 z mz
    · rename_i hlt
      have hxy : leS x y := lt_leS.mp (by simpa using hlt)
      refine List.Pairwise.cons (fun z mz => ?_) h
      rcases List.mem_cons.mp mz with rfl | mz
      · exact hxy
      · exact leS_trans hxy (h1 z mz)
theorem sort_perm : ∀ r : List Str, (sortStr r).Perm r
  | [] => List.Perm.refl _
  | x :: r => (ins_perm x (sortStr r)).trans ((sort_perm r).cons x)
theorem sort_pw : ∀ r : List Str, (sortStr r).Pairwise leS
  | [] => List.Pairwise.nil
  | x :: r => ins_pw x _ (sort_pw r)
theorem sort_uniq {ys zs : List Str} (hp : zs.Perm ys) (hs : PyProof.Rows.sortedS zs = true) : zs = sortStr ys :=
  List.Perm.eq_of_pairwise (fun _ _ _ _ h k => leS_anti h k) (sorted_pw hs) (sort_pw ys) (hp.trans (sort_perm ys).symm)
theorem dreps_strs : ∀ xs : List Str, DReps K F (xs.map V.str) (xs.map PyData.str)
  | [] => .nil
  | x :: xs => .cons (.str x) (dreps_strs xs)
theorem p_sortS : PrimN K ca (rSortedS K) .sortS := by
  intro E H F ρ st vs ds z Q rel r e h
  cases r with
  | nil => cases e
  | cons rx rt =>
    cases rt with
    | cons _ _ => cases rx <;> cases e
    | nil =>
      cases rx with
      | @lst a xs ds a1 d =>
        have e' : bindO (strsOf ds) (fun ys => guard1 (decide (ys.length < 64)) (PyData.list ((sortStr ys).map .str))) = some z := e
        cases q : strsOf ds with
        | none => rw [q] at e'; cases e'
        | some ys =>
          rw [q] at e'
          have e2 : guard1 (decide (ys.length < 64)) (PyData.list ((sortStr ys).map .str)) = some z := e'
          cases q2 : decide (ys.length < 64) with
          | false => rw [q2] at e2; cases e2
          | true =>
            rw [q2] at e2
            cases e2
            have ex := strs_rep q d
            refine ⟨a, ys, rfl, .inl (by rw [← ex]; exact a1), of_decide_eq_true q2, fun zs p hp hs hn => ?_⟩
            rw [sort_uniq hp hs]
            exact h.newL rel hn (dreps_strs _)
      | _ => cases e
theorem p_sum : PrimN K ca (rSum K) .sum := by
  intro E H F ρ st vs ds z Q rel r e h
  cases r with
  | nil => cases e
  | cons rx rt =>
    cases rt with
    | cons _ _ => cases rx <;> cases e
    | nil =>
      cases rx with
      | @lst a xs ds a1 d =>
        have e' : bindO (intsOf ds) (fun is => some (PyData.int is.sum)) = some z := e
        cases q : intsOf ds with
        | none => rw [q] at e'; cases e'
        | some is =>
          rw [q] at e'
          cases e'
          have hv := ints_rep q d
          subst hv
          exact ⟨a, is, rfl, .inl a1, here_int h rel⟩
      | _ => cases e
theorem p_all : PrimN K ca (rAll K) .all := by
  intro E H F ρ st vs ds z Q rel r e h
  cases r with
  | nil => cases e
  | cons rx rt =>
    cases rt with
    | cons _ _ => cases rx <;> cases e
    | nil =>
      cases rx with
      | @lst a xs ds a1 d =>
        have e' : bindO (boolsOf ds) (fun is => some (PyData.bool (is.all id))) = some z := e
        cases q : boolsOf ds with
        | none => rw [q] at e'; cases e'
        | some is =>
          rw [q] at e'
          cases e'
          have hv := bools_rep q d
          subst hv
          exact ⟨a, is, rfl, .inl a1, here_bl h rel⟩
      | _ => cases e
theorem maxI_spec : ∀ {ns : List Int}, ns ≠ [] → maxI ns ∈ ns ∧ ∀ y ∈ ns, y ≤ maxI ns
  | [], h => absurd rfl h
  | [x], _ => ⟨by simp [maxI], by simp [maxI]⟩
  | x :: y :: r, _ => by
    obtain ⟨h1, h2⟩ := maxI_spec (ns := y :: r) (by simp)
    have e : maxI (x :: y :: r) = if maxI (y :: r) > x then maxI (y :: r) else x := rfl
    rw [e]
    split
    · rename_i g
      refine ⟨List.mem_cons_of_mem _ h1, fun z hz => ?_⟩
      rcases List.mem_cons.mp hz with q | q
      · omega
      · exact h2 z q
    · rename_i g
      refine ⟨List.mem_cons_self, fun z hz => ?_⟩
      rcases List.mem_cons.mp hz with q | q
      · omega
      · have := h2 z q; omega
theorem p_max : PrimN K ca (fun vs H Q => rMax K vs H Q ∨ ∃ i j, vs = [.int i, .int j] ∧ Q (.int (if j > i then j else i)) H) .max := by
  intro E H F ρ st vs ds z Q rel r e h
  cases r with
  | nil => cases e
  | cons rx rt =>
    cases rx with
    | int i =>
      cases rt with
      | nil => cases e
      | cons ry rt =>
        cases rt with
        | cons _ _ => cases ry <;> cases e
        | nil =>
          cases ry with
          | int j => cases e; exact .inr ⟨i, j, rfl, here_int h rel⟩
          | _ => cases e
    | @lst a xs ds a1 d =>
      cases rt with
      | cons _ _ => cases e
      | nil =>
        have e' : bindO (intsOf ds) (fun is => guard1 (!is.isEmpty) (PyData.int (maxI is))) = some z := e
        cases q : intsOf ds with
        | none => rw [q] at e'; cases e'
        | some is =>
          rw [q] at e'
          obtain ⟨g, e2⟩ := guard1_some (show guard1 (!is.isEmpty) (PyData.int (maxI is)) = some z from e')
          subst e2
          have hv := ints_rep q d
          subst hv
          have hne : is ≠ [] := fun z => by rw [z] at g; cases g
          obtain ⟨m1, m2⟩ := maxI_spec hne
          refine .inl ⟨a, is, rfl, .inl a1, List.length_pos_iff.mpr hne, fun m hm hle => ?_⟩
          have em : m = maxI is := Int.le_antisymm (m2 m hm) (hle _ m1)
          rw [em]
          exact here_int h rel
    | _ => cases rt <;> cases e
/-! ### methods of texts -/
def PrimM (K : PySem.W.Frag) (ca : Nat → Addr) (r : V → List V → Hp → VK → Prop) (p : Prim) : Prop := ∀ (E : XK) (H F : Hp) (ρ : List Addr) (st : Sto) (x : Str) (vs : List V) (ds : List PyData) (z : PyData) (Q : VK), Rel K ca H F ρ st → VReps K H F vs ds → prim p (.str x :: ds) = some z → Post K ca E H F ρ (.ok (.d z) st) Q → r (.str x) vs H Q
theorem sm_inv {k : Str → Rs Sv} {so : Sv} {v : V} (h : Post K ca E H F ρ (match so with
    | .d (.str x) => k x
    | _ => .bad) Q) (rv : SRep K F ρ v so) : ∃ x, v = .str x ∧ Post K ca E H F ρ (k x) Q := by
  cases so with
  | r n => exact h.elim
  | d x => cases x with
    | str s => cases (srep_d rv); exact ⟨s, rfl, h⟩
    | _ => exact h.elim
theorem t_sm0 {p : Prim} {o : CE} {r : V → List V → Hp → VK → Prop} (hp : PrimM K ca r p) (h : tE K ca W (evE G (.sm p o [])) σ H Q) : tBM0 K "str" r (tE K ca W (evE G o)) σ H Q := by
  obtain ⟨F, ρ, st, env, rel, eok, h⟩ := h
  have h' : Post K ca (at_ W σ) H F ρ ((evE G o env st).bind fun so st1 => (match so with
    | .d (.str x) => (evEs G [] env st1).bind fun ss st2 => toRs st2 (bindO (views st2 ss) fun ds => prim p (.str x :: ds))
    | _ => .bad)) Q := h
  refine ⟨F, ρ, st, env, rel, eok, h'.bind fun so st1 v H1 F1 ρ1 _ e1 rel1 rv p1 => ?_⟩
  obtain ⟨x, rfl, p2⟩ := sm_inv (k := fun x => (evEs G [] env st1).bind fun ss st2 => toRs st2 (bindO (views st2 ss) fun ds => prim p (.str x :: ds))) p1 rv
  have p3 : Post K ca (at_ W σ) H1 F1 ρ1 (toRs st1 (bindO (views st1 []) fun ds => prim p (.str x :: ds))) Q := p2
  obtain ⟨ds, z, v1, e2, q⟩ := views_inv p3
  cases v1
  exact ⟨rfl, hp _ H1 F1 ρ1 st1 x [] [] z Q rel1 .nil e2 q⟩
theorem t_sm {p : Prim} {o : CE} {es : List CE} {r : V → List V → Hp → VK → Prop} (hp : PrimM K ca r p) (h : tE K ca W (evE G (.sm p o es)) σ H Q) : tBM K "str" r (tE K ca W (evE G o)) (tEs K ca W (evEs G es)) σ H Q := by
  obtain ⟨F, ρ, st, env, rel, eok, h⟩ := h
  have h' : Post K ca (at_ W σ) H F ρ ((evE G o env st).bind fun so st1 => (match so with
    | .d (.str x) => (evEs G es env st1).bind fun ss st2 => toRs st2 (bindO (views st2 ss) fun ds => prim p (.str x :: ds))
    | _ => .bad)) Q := h
  refine ⟨F, ρ, st, env, rel, eok, h'.bind fun so st1 v H1 F1 ρ1 _ e1 rel1 rv p1 => ?_⟩
  obtain ⟨x, rfl, p2⟩ := sm_inv (k := fun x => (evEs G es env st1).bind fun ss st2 => toRs st2 (bindO (views st2 ss) fun ds => prim p (.str x :: ds))) p1 rv
  refine ⟨rfl, t_args (r := fun vs H Q => r (.str x) vs H Q) rel1 (eok.ext e1) p2 fun ss st2 vs H2 F2 ρ2 e2 rel2 rvs p3 => ?_⟩
  obtain ⟨ds, z, v1, e3, q⟩ := views_inv p3
  exact hp _ H2 F2 ρ2 st2 x vs ds z Q rel2 (views_rep rel2 rvs v1) e3 q
theorem p_isalnum : PrimM K ca (fun x xs H Q => ∃ a, x = .str a ∧ xs = [] ∧ True ∧ Q (.bl (Txt.isalnum a)) H) .isalnum := by
  intro E H F ρ st x vs ds z Q rel r e h
  cases r with
  | nil => cases e; exact ⟨x, rfl, rfl, trivial, here_bl h rel⟩
  | cons _ _ => cases e
theorem p_startswith : PrimM K ca (fun x xs H Q => ∃ a b, x = .str a ∧ xs = [.str b] ∧ Q (.bl (Txt.startswith a b)) H) .startswith := by
  intro E H F ρ st x vs ds z Q rel r e h
  cases r with
  | nil => cases e
  | cons rx rt =>
    cases rt with
    | cons _ _ => cases rx <;> cases e
    | nil =>
      cases rx with
      | str y => cases e; exact ⟨x, y, rfl, rfl, here_bl h rel⟩
      | _ => cases e
theorem p_find : PrimM K ca (fun x xs H Q => ∃ a b, x = .str a ∧ xs = [.str b] ∧ Q (.int (Txt.find a b)) H) .find := by
  intro E H F ρ st x vs ds z Q rel r e h
  cases r with
  | nil => cases e
  | cons rx rt =>
    cases rt with
    | cons _ _ => cases rx <;> cases e
    | nil =>
      cases rx with
      | str y => cases e; exact ⟨x, y, rfl, rfl, here_int h rel⟩
      | _ => cases e
theorem mt_indexR {X : Cx} : MtR X "str.index" (fun x xs H Q => ∃ a b k, x = .str a ∧ xs = [.str b] ∧ Txt.index0 a b = some k ∧ Q (.int (k : Nat)) H) := by
  intro pins s σ H x xs v us Q I rx rs h
  obtain ⟨a, b, k, rfl, rfl, e, h⟩ := h
  obtain ⟨t, rfl⟩ := rx
  cases rs with
  | cons r1 rs =>
    cases rs
    obtain ⟨u, rfl⟩ := r1
    cases q : Builtin.Str.occurrences a b 0 a.length 1 with
    | nil =>
      unfold Txt.index0 at e
      rw [q] at e
      cases e
    | cons k2 rest =>
      have e2 : k2 = k := by
        unfold Txt.index0 at e
        rw [q] at e
        exact Option.some.inj e
      subst e2
      exact PySem.SC.index q ⟨.int (k2 : Nat), H, I.tok _, ⟨_, rfl⟩, h⟩
theorem p_index : PrimM K ca (fun x xs H Q => ∃ a b k, x = .str a ∧ xs = [.str b] ∧ Txt.index0 a b = some k ∧ Q (.int (k : Nat)) H) .index := by
  intro E H F ρ st x vs ds z Q rel r e h
  cases r with
  | nil => cases e
  | cons rx rt =>
    cases rt with
    | cons _ _ => cases rx <;> cases e
    | nil =>
      cases rx with
      | str y =>
        obtain ⟨k, e1, e2⟩ : ∃ k, Txt.index0 x y = some k ∧ z = .int (k : Nat) := by
          have e' : bindO (Txt.index0 x y) (fun k => some (PyData.int (k : Nat))) = some z := e
          cases q : Txt.index0 x y with
          | none => rw [q] at e'; cases e'
          | some k => rw [q] at e'; cases e'; exact ⟨k, rfl, rfl⟩
        subst e2
        exact ⟨x, y, k, rfl, rfl, e1, here_int h rel⟩
      | _ => cases e
theorem p_join : PrimM K ca (fun x xs H Q => ∃ a p, ∃ ys : List Str, x = .str a ∧ xs = [.ref p] ∧ (SqL K H p (ys.map V.str) ∨ SqT K H p (ys.map V.str)) ∧
    (ys.map (·.length)).sum + ys.length * a.length ≤ 16777216 ∧ Q (.str (Txt.join a ys)) H) .join := by
  intro E H F ρ st x vs ds z Q rel r e h
  cases r with
  | nil => cases e
  | cons rx rt =>
    cases rt with
    | cons _ _ => cases rx <;> cases e
    | nil =>
      cases rx with
      | @lst a xs ds a1 d =>
        have e' : bindO (strsOf ds) (fun ys => guard1 (lineOk ((ys.map (·.length)).sum + ys.length * x.length)) (PyData.str (Txt.join x ys))) = some z := e
        cases q : strsOf ds with
        | none => rw [q] at e'; cases e'
        | some ys =>
          rw [q] at e'
          obtain ⟨g, e2⟩ := guard1_some (show guard1 (lineOk ((ys.map (·.length)).sum + ys.length * x.length)) (PyData.str (Txt.join x ys)) = some z from e')
          subst e2
          have hv := strs_rep q d
          subst hv
          exact ⟨x, a, ys, rfl, rfl, .inl (.inl a1), Nat.le_of_ble_eq_true g, here_str h rel⟩
      | _ => cases e
/-! ### xs.pop() -/
theorem lst_go {o : Option Cell} {k : List Sv → Rs Sv} (h : Post K ca E H F ρ (match o with
      | some (.lst xs) => k xs
      | _ => .bad) Q) : ∃ xs, o = some (.lst xs) ∧ Post K ca E H F ρ (k xs) Q := by
  cases o with
  | none => exact h.elim
  | some c0 =>
    cases c0 with
    | lst xs => exact ⟨xs, rfl, h⟩
    | frz xs => exact h.elim
    | obj c' fs => exact h.elim
    | dct kvs => exact h.elim
theorem Paired.dropLast {α β : Type} {R : α → β → Prop} : ∀ {xs : List α} {ys : List β}, Paired R xs ys → Paired R xs.dropLast ys.dropLast
  | _, _, .nil => .nil
  | [x], [y], .cons _ .nil => .nil
  | x :: x2 :: xs, y :: y2 :: ys, .cons h (.cons h2 r) => .cons h (Paired.dropLast (xs := x2 :: xs) (ys := y2 :: ys) (.cons h2 r))
theorem t_pop {o : CE} (h : tE K ca W (evE G (.pop o)) σ H Q) : tBM0 K "list" rPop (tE K ca W (evE G o)) σ H Q := by
  obtain ⟨F, ρ, st, env, rel, eok, h⟩ := h
  have h' : Post K ca (at_ W σ) H F ρ ((evE G o env st).bind fun so st1 => (match so with
    | .r n => (match st1[n]? with
      | some (.lst xs) => (match xs[xs.length - 1]? with
        | some s => .ok s (setC st1 n (.lst xs.dropLast))
        | none => .bad)
      | _ => .bad)
    | _ => .bad)) Q := h
  refine ⟨F, ρ, st, env, rel, eok, h'.bind fun so st1 v H1 F1 ρ1 _ e1 rel1 rv p1 => ?_⟩
  cases so with
  | d x => exact p1.elim
  | r n =>
    obtain ⟨xs, q, p2⟩ := lst_go (k := fun xs => (match xs[xs.length - 1]? with
        | some s => .ok s (setC st1 n (.lst xs.dropLast))
        | none => .bad)) p1
    obtain ⟨a, vs, ha, rfl, fa, Ha, rs⟩ := lst_inv rel1 rv q
    cases q2 : xs[xs.length - 1]? with
    | none => rw [q2] at p2; exact p2.elim
    | some s =>
      rw [q2] at p2
      obtain ⟨y, hy, ry⟩ := Paired.get rs q2
      refine ⟨.inl ⟨rfl, vs, .inl (.inl Ha)⟩, a, vs, y, rfl, rfl, Ha, by rw [Paired.length rs]; exact hy, ?_⟩
      have E1 : Ext ρ1 H1 F1 ρ1 (upd H1 a (.lst vs.dropLast)) F1 := Ext.set ha
      exact p2 y _ F1 ρ1 E1 (rel1.set ha fa ⟨fa, vs.dropLast, upd_same, SReps.ext E1 (Paired.dropLast rs)⟩) (ry.ext E1)
/-! ### slices -/
def sOf (lo : List CE) : Option Int → List Sv → Prop := fun _ _ => True
theorem cut_rep {xs : List V} {ds : List PyData} (d : DReps K F xs ds) (lo hi : Option Int) : DReps K F (cutV xs lo hi) (cutD ds lo hi) := by
  unfold cutV cutD
  rw [d.length]
  exact (d.drop _).take _
abbrev rSlP (K : PySem.W.Frag) : V → Option Int → Option Int → Hp → VK → Prop := fun x lo hi H Q => (∃ a xs, x = .ref a ∧ SqL K H a xs ∧ ∀ p, H p = none → Q (.ref p) (upd H p (.lst (cutV xs lo hi)))) ∨ rSlA K x lo hi H Q ∨ rSlS x lo hi H Q
theorem sl_all {X : Cx} : SlR X (rSlP X.K) := sl_list.or (sl_tupA.or sl_str)
theorem slice_ok {x : V} {dx z : PyData} {lo hi : Option Int} (rel : Rel K ca H F ρ st) (rx : VRep K H F x dx) (e : sliceD dx lo hi = some z) (h : Post K ca E H F ρ (.ok (.d z) st) Q) : rSlP K x lo hi H Q := by
  cases rx with
  | str s =>
    obtain ⟨g, e2⟩ := guard1_some e
    subst e2
    exact .inr (.inr ⟨s, rfl, line_le g, here_str h rel⟩)
  | lst a d =>
    cases e
    exact .inl ⟨_, _, rfl, .inl a, fun p hp => h.newL rel hp (cut_rep d lo hi)⟩
  | tup a d =>
    cases e
    refine .inr (.inl ⟨_, _, rfl, sub_t rel.sub a, fun w => ?_, fun w p hp => h.newT rel hp (cut_rep d lo hi)⟩)
    have e : ∀ {α : Type} (xs : List α), HT.sIx xs.length 0 lo = 0 → HT.sIx xs.length xs.length hi = xs.length → (xs.drop (HT.sIx xs.length 0 lo)).take (HT.sIx xs.length xs.length hi - HT.sIx xs.length 0 lo) = xs := fun xs h1 h2 => by
      rw [h1, h2]
      simp
    rw [d.length] at w
    have e2 := e _ w.1 w.2
    unfold cutD at h
    rw [e2] at h
    exact h.here rel (.tup a d)
  | _ => cases e
end
end PV

namespace PV
open PySem L2 PySem.Spec PyProof.Rows
/-- the iterator yields the data xs -/
def Wk (K : PySem.W.Frag) (F : Hp) (J : It) (xs : List PyData) : Prop := ∀ F' H' : Hp, Sub F F' → Sub F' H' →
  (∀ i, i < xs.length → J.go i H') ∧ (∀ i, xs.length ≤ i → J.stop i H') ∧
  (∀ i v H'' x, J.yld i H' v H'' → xs[i]? = some x → ∃ F'', ((H'' = H' ∧ F'' = F') ∨ ∃ p o, H' p = none ∧ H'' = upd H' p o ∧ F'' = upd F' p o) ∧ DRep K F'' v x)
section
variable {K : PySem.W.Frag} {ca : Nat → Addr} {H F H' F' : Hp} {ρ ρ' : List Addr} {E : XK} {st : Sto} {Q : VK} {W : WX} {G : Ctx} {σ : L2.St}
theorem Wk.mono {J : It} {xs : List PyData} (w : Wk K F J xs) (s : Sub F F') : Wk K F' J xs := fun F2 H2 a b => w F2 H2 (fun x o h => a x o (s x o h)) b
variable (K ca W)
def PostI (E : XK) (H F : Hp) (ρ : List Addr) (r : Rs (List PyData)) (R : It → Hp → Prop) : Prop := match r with
  | .ok xs st' => ∀ J H' F' ρ', Ext ρ H F ρ' H' F' → Rel K ca H' F' ρ' st' → Wk K F' J xs → R J H'
  | .exc c p st' => ∀ H' F' ρ', Ext ρ H F ρ' H' F' → Rel K ca H' F' ρ' st' → xk K ca E c p F' H'
  | .bad => False
def tI (r : Ev → Sto → Rs (List PyData)) : TI := fun σ H R => ∃ F ρ st env, Rel K ca H F ρ st ∧ EnvOk K F ρ σ env ∧ PostI K ca (at_ W σ) H F ρ (r env st) R
variable {K ca W}
theorem PostI.ext {r : Rs (List PyData)} {R : It → Hp → Prop} (h : PostI K ca E H F ρ r R) (e : Ext ρ H F ρ' H' F') : PostI K ca E H' F' ρ' r R := by
  cases r with
  | ok w st => exact fun v H2 F2 ρ2 e2 r2 s2 => h v H2 F2 ρ2 (e.trans e2) r2 s2
  | exc c p st => exact fun H2 F2 ρ2 e2 r2 => h H2 F2 ρ2 (e.trans e2) r2
  | bad => exact h
theorem PostI.bind {r : Rs Sv} {f : Sv → Sto → Rs (List PyData)} {R : It → Hp → Prop} {Qa : VK} (h : PostI K ca E H F ρ (r.bind f) R)
    (k : ∀ s st' v H' F' ρ', r = .ok s st' → Ext ρ H F ρ' H' F' → Rel K ca H' F' ρ' st' → SRep K F' ρ' v s → PostI K ca E H' F' ρ' (f s st') R → Qa v H') : Post K ca E H F ρ r Qa := by
  cases r with
  | ok w st => exact fun v H2 F2 ρ2 e2 r2 s2 => k w st v H2 F2 ρ2 rfl e2 r2 s2 (PostI.ext (r := f w st) h e2)
  | exc c p st => exact h
  | bad => exact h
theorem PostI.bindA {r : Rs (List Sv)} {f : List Sv → Sto → Rs (List PyData)} {R : It → Hp → Prop} {Qa : List V → Hp → Prop} (h : PostI K ca E H F ρ (r.bind f) R)
    (k : ∀ s st' v H' F' ρ', r = .ok s st' → Ext ρ H F ρ' H' F' → Rel K ca H' F' ρ' st' → SReps K F' ρ' v s → PostI K ca E H' F' ρ' (f s st') R → Qa v H') : PostA K ca E H F ρ r Qa := by
  cases r with
  | ok w st => exact fun v H2 F2 ρ2 e2 r2 s2 => k w st v H2 F2 ρ2 rfl e2 r2 s2 (PostI.ext (r := f w st) h e2)
  | exc c p st => exact h
  | bad => exact h
theorem PostI.here {xs : List PyData} {R : It → Hp → Prop} {J : It} (h : PostI K ca E H F ρ (.ok xs st) R) (rel : Rel K ca H F ρ st) (w : Wk K F J xs) : R J H := h J H F ρ (Ext.refl ρ H F) rel w
theorem wk_list {a : Addr} {vs : List V} {xs : List PyData} (h : Rd F a (.lst vs)) (d : DReps K F vs xs) : Wk K F (Itl K a) xs := by
  intro F2 H2 s1 s2
  have h2 : Rd H2 a (.lst vs) := sub_r s2 (sub_r s1 h)
  refine ⟨fun i hi => ?_, fun i hi => ⟨vs, .inl h2, by rw [d.length]; exact hi⟩, fun i v H3 x hy hx => ?_⟩
  · obtain ⟨v, hv, _⟩ := d.get (List.getElem?_eq_getElem hi)
    exact ⟨vs, v, .inl h2, hv⟩
  · obtain ⟨rfl, hy⟩ := hy
    obtain ⟨v', hv, dv⟩ := d.get hx
    have e := hy vs (.inl h2)
    rw [hv] at e
    cases e
    exact ⟨F2, .inl ⟨rfl, rfl⟩, dv.mono s1⟩
theorem wk_tup {a : Addr} {vs : List V} {xs : List PyData} (h : SqT K F a vs) (d : DReps K F vs xs) : Wk K F (Itt K a) xs := by
  intro F2 H2 s1 s2
  have h2 : SqT K H2 a vs := sub_t s2 (sub_t s1 h)
  refine ⟨fun i hi => ?_, fun i hi => ⟨vs, h2, by rw [d.length]; exact hi⟩, fun i v H3 x hy hx => ?_⟩
  · obtain ⟨v, hv, _⟩ := d.get (List.getElem?_eq_getElem hi)
    exact ⟨vs, v, h2, hv⟩
  · obtain ⟨rfl, hy⟩ := hy
    obtain ⟨v', hv, dv⟩ := d.get hx
    have e := hy vs h2
    rw [hv] at e
    cases e
    exact ⟨F2, .inl ⟨rfl, rfl⟩, dv.mono s1⟩
theorem rangeD_get {lo : Int} {n i : Nat} {x : PyData} (h : (rangeD lo n)[i]? = some x) : i < n ∧ x = .int (lo + (i : Int)) := by
  unfold rangeD at h
  rw [List.getElem?_map] at h
  by_cases q : i < n
  · rw [List.getElem?_range q] at h
    cases h
    exact ⟨q, rfl⟩
  · rw [List.getElem?_eq_none (by rw [List.length_range]; omega)] at h
    cases h
theorem rangeD_len {lo : Int} {n : Nat} : (rangeD lo n).length = n := by
  unfold rangeD
  rw [List.length_map, List.length_range]
theorem wk_range {lo : Int} {n : Nat} : Wk K F (Itr lo n) (rangeD lo n) := by
  intro F2 H2 s1 s2
  refine ⟨fun i hi => by rw [rangeD_len] at hi; exact hi, fun i hi => by rw [rangeD_len] at hi; exact hi, fun i v H3 x hy hx => ?_⟩
  obtain ⟨rfl, rfl⟩ := hy
  obtain ⟨_, rfl⟩ := rangeD_get hx
  exact ⟨F2, .inl ⟨rfl, rfl⟩, .int _⟩
theorem wk_down {hi : Int} {n : Nat} : Wk K F (Itc hi (-1) n) (downD hi n) := by
  intro F2 H2 s1 s2
  have hl : (downD hi n).length = n := by unfold downD; rw [List.length_map, List.length_range]
  refine ⟨fun i h => by rw [hl] at h; exact h, fun i h => by rw [hl] at h; exact h, fun i v H3 x hy hx => ?_⟩
  obtain ⟨rfl, rfl⟩ := hy
  unfold downD at hx
  rw [List.getElem?_map] at hx
  by_cases q : i < n
  · rw [List.getElem?_range q] at hx
    cases hx
    rw [show hi + (i : Int) * (-1) = hi - (i : Int) by omega]
    exact ⟨F2, .inl ⟨rfl, rfl⟩, .int _⟩
  · rw [List.getElem?_eq_none (by rw [List.length_range]; omega)] at hx
    cases hx
theorem wk_rev {a : Addr} {vs : List V} {xs : List PyData} (h : Rd F a (.lst vs)) (d : DReps K F vs xs) : Wk K F (Itv K a vs.length) xs.reverse := by
  intro F2 H2 s1 s2
  have h2 : Rd H2 a (.lst vs) := sub_r s2 (sub_r s1 h)
  have hl := d.length
  refine ⟨fun i hi => ?_, fun i hi => by rw [List.length_reverse] at hi; show vs.length ≤ i; omega, fun i v H3 x hy hx => ?_⟩
  · rw [List.length_reverse] at hi
    refine ⟨by omega, vs, vs[vs.length - 1 - i], .inl h2, List.getElem?_eq_getElem (by omega)⟩
  · obtain ⟨rfl, hy⟩ := hy
    have hi : i < xs.length := by
      have := (List.getElem?_eq_some_iff.mp hx).1
      rwa [List.length_reverse] at this
    rw [List.getElem?_reverse hi] at hx
    obtain ⟨v', hv, dv⟩ := d.get hx
    have e := hy vs (.inl h2)
    rw [hl, hv] at e
    cases e
    exact ⟨F2, .inl ⟨rfl, rfl⟩, dv.mono s1⟩
theorem enum_len : ∀ (n : Nat) (xs : List PyData), (enumFrom n xs).length = xs.length
  | _, [] => rfl
  | n, x :: r => congrArg (· + 1) (enum_len (n + 1) r)
theorem enum_get : ∀ (n : Nat) (xs : List PyData) (i : Nat) (x : PyData), (enumFrom n xs)[i]? = some x → ∃ y, xs[i]? = some y ∧ x = .tuple [.int ((n + i : Nat) : Int), y]
  | _, [], i, x, h => by simp [enumFrom] at h
  | n, y :: r, 0, x, h => by
    simp [enumFrom] at h
    exact ⟨y, rfl, h.symm⟩
  | n, y :: r, i + 1, x, h => by
    obtain ⟨z, h1, h2⟩ := enum_get (n + 1) r i x (by simpa [enumFrom] using h)
    refine ⟨z, by simpa using h1, ?_⟩
    rw [h2, show n + 1 + i = n + (i + 1) by omega]
theorem wk_enum {a : Addr} {vs : List V} {xs : List PyData} (h : Rd F a (.lst vs)) (d : DReps K F vs xs) : Wk K F (Ite K a) (enumFrom 0 xs) := by
  intro F2 H2 s1 s2
  have h2 : Rd H2 a (.lst vs) := sub_r s2 (sub_r s1 h)
  have hl := d.length
  refine ⟨fun i hi => ?_, fun i hi => ?_, fun i v H3 x hy hx => ?_⟩
  · rw [enum_len] at hi
    obtain ⟨v, hv, _⟩ := d.get (List.getElem?_eq_getElem hi)
    exact ⟨vs, v, .inl h2, hv⟩
  · rw [enum_len] at hi
    exact ⟨vs, .inl h2, by omega⟩
  · obtain ⟨T, w, rfl, hT, rfl, hw⟩ := hy
    obtain ⟨y, hy, rfl⟩ := enum_get 0 xs i x hx
    obtain ⟨v', hv, dv⟩ := d.get hy
    have e := hw vs (.inl h2)
    rw [hv] at e
    cases e
    have hf : F2 T = none := by
      cases q : F2 T with
      | none => rfl
      | some o => rw [s2 T o q] at hT; cases hT
    refine ⟨upd F2 T (.tup [.int (i : Nat), w]), .inr ⟨T, _, hT, rfl, rfl⟩, ?_⟩
    have hs := sub_upd (o := .tup [.int (i : Nat), w]) hf
    refine .tup (.inl (.inl upd_same)) (.cons ?_ (.cons ((dv.mono s1).mono hs) .nil))
    rw [Nat.zero_add]
    exact .int _
theorem lstI {e : Sv} {f : List PyData → List PyData} {R : It → Hp → Prop} (h : PostI K ca E H F ρ (match e with
    | .d (.list xs) => .ok (f xs) st
    | _ => .bad) R) : ∃ xs, e = .d (.list xs) ∧ PostI K ca E H F ρ (.ok (f xs) st) R := by
  cases e with
  | r n => exact h.elim
  | d x => cases x with
    | list xs => exact ⟨xs, rfl, h⟩
    | _ => exact h.elim
theorem tupI {e : Sv} {R : It → Hp → Prop} (h : PostI K ca E H F ρ (match e with
    | .d (.tuple xs) => .ok xs st
    | _ => .bad) R) : ∃ xs, e = .d (.tuple xs) ∧ PostI K ca E H F ρ (.ok xs st) R := by
  cases e with
  | r n => exact h.elim
  | d x => cases x with
    | tuple xs => exact ⟨xs, rfl, h⟩
    | _ => exact h.elim
theorem list_inv {v : V} {xs : List PyData} (h : SRep K F ρ v (.d (.list xs))) : ∃ a vs, v = .ref a ∧ Rd F a (.lst vs) ∧ DReps K F vs xs := by
  cases (srep_d h) with
  | lst a d => exact ⟨_, _, rfl, a, d⟩
theorem tup_inv {v : V} {xs : List PyData} (h : SRep K F ρ v (.d (.tuple xs))) : ∃ a vs, v = .ref a ∧ SqT K F a vs ∧ DReps K F vs xs := by
  cases (srep_d h) with
  | tup a d => exact ⟨_, _, rfl, a, d⟩
theorem ti_lst {e : CE} {R : It → Hp → Prop} (h : tI K ca W (evI G (.lst e)) σ H R) : iList K (tE K ca W (evE G e)) σ H R := by
  obtain ⟨F, ρ, st, env, rel, eok, h⟩ := h
  have h' : PostI K ca (at_ W σ) H F ρ ((evE G e env st).bind fun s st1 => (match s with
    | .d (.list xs) => .ok xs st1
    | _ => .bad)) R := h
  refine ⟨F, ρ, st, env, rel, eok, h'.bind fun so st1 v H1 F1 ρ1 _ e1 rel1 rv p1 => ?_⟩
  obtain ⟨xs, rfl, p2⟩ := lstI (f := fun xs => xs) p1
  obtain ⟨a, vs, rfl, ha, d⟩ := list_inv rv
  exact ⟨a, rfl, ⟨vs, .inl (sub_r rel1.sub ha)⟩, p2.here rel1 (wk_list ha d)⟩
theorem ti_tup {e : CE} {R : It → Hp → Prop} (h : tI K ca W (evI G (.tup e)) σ H R) : iTup K (tE K ca W (evE G e)) σ H R := by
  obtain ⟨F, ρ, st, env, rel, eok, h⟩ := h
  have h' : PostI K ca (at_ W σ) H F ρ ((evE G e env st).bind fun s st1 => (match s with
    | .d (.tuple xs) => .ok xs st1
    | _ => .bad)) R := h
  refine ⟨F, ρ, st, env, rel, eok, h'.bind fun so st1 v H1 F1 ρ1 _ e1 rel1 rv p1 => ?_⟩
  obtain ⟨xs, rfl, p2⟩ := tupI p1
  obtain ⟨a, vs, rfl, ha, d⟩ := tup_inv rv
  exact ⟨a, rfl, ⟨vs, sub_t rel1.sub ha⟩, p2.here rel1 (wk_tup ha d)⟩
theorem ti_rev {e : CE} {R : It → Hp → Prop} (h : tI K ca W (evI G (.rev e)) σ H R) : iRev K (tEs K ca W (evEs G [e])) σ H R := by
  obtain ⟨F, ρ, st, env, rel, eok, h⟩ := h
  have h' : PostI K ca (at_ W σ) H F ρ ((evE G e env st).bind fun s st1 => (match s with
    | .d (.list xs) => .ok xs.reverse st1
    | _ => .bad)) R := h
  refine ⟨F, ρ, st, env, rel, eok, ?_⟩
  show PostA K ca (at_ W σ) H F ρ ((evE G e env st).bind fun s st1 => .ok [s] st1) _
  cases q : evE G e env st with
  | bad => rw [q] at h'; exact h'.elim
  | exc c p st1 => rw [q] at h'; exact h'
  | ok s st1 =>
    rw [q] at h'
    intro vs H1 F1 ρ1 e1 rel1 rvs
    cases rvs with
    | cons rv rt =>
      cases rt
      have p1 := PostI.ext h' e1
      obtain ⟨xs, rfl, p2⟩ := lstI (f := fun xs => xs.reverse) p1
      obtain ⟨a, vs, rfl, ha, d⟩ := list_inv rv
      exact ⟨a, vs, rfl, .inl (sub_r rel1.sub ha), p2.here rel1 (wk_rev ha d)⟩
theorem ti_enum {e : CE} {R : It → Hp → Prop} (h : tI K ca W (evI G (.enum e)) σ H R) : iEnum K (tEs K ca W (evEs G [e])) σ H R := by
  obtain ⟨F, ρ, st, env, rel, eok, h⟩ := h
  have h' : PostI K ca (at_ W σ) H F ρ ((evE G e env st).bind fun s st1 => (match s with
    | .d (.list xs) => .ok (enumFrom 0 xs) st1
    | _ => .bad)) R := h
  refine ⟨F, ρ, st, env, rel, eok, ?_⟩
  show PostA K ca (at_ W σ) H F ρ ((evE G e env st).bind fun s st1 => .ok [s] st1) _
  cases q : evE G e env st with
  | bad => rw [q] at h'; exact h'.elim
  | exc c p st1 => rw [q] at h'; exact h'
  | ok s st1 =>
    rw [q] at h'
    intro vs H1 F1 ρ1 e1 rel1 rvs
    cases rvs with
    | cons rv rt =>
      cases rt
      have p1 := PostI.ext h' e1
      obtain ⟨xs, rfl, p2⟩ := lstI (f := fun xs => enumFrom 0 xs) p1
      obtain ⟨a, vs, rfl, ha, d⟩ := list_inv rv
      exact ⟨a, vs, rfl, .inl (sub_r rel1.sub ha), p2.here rel1 (wk_enum ha d)⟩
theorem wk_str {x : Str} : Wk K F (Its x) (signsD x) := by
  intro F2 H2 s1 s2
  have hl : (signsD x).length = x.cps.size := by unfold signsD; rw [List.length_map, Array.length_toList]
  refine ⟨fun i hi => by rw [hl] at hi; exact hi, fun i hi => by rw [hl] at hi; exact hi, fun i v H3 y hy hx => ?_⟩
  obtain ⟨rfl, c, hc, rfl⟩ := hy
  unfold signsD at hx
  rw [List.getElem?_map, Array.getElem?_toList, hc] at hx
  cases hx
  exact ⟨F2, .inl ⟨rfl, rfl⟩, .str _⟩
theorem ti_str {e : CE} {R : It → Hp → Prop} (h : tI K ca W (evI G (.str e)) σ H R) : iStr (tE K ca W (evE G e)) σ H R := by
  obtain ⟨F, ρ, st, env, rel, eok, h⟩ := h
  have h' : PostI K ca (at_ W σ) H F ρ ((evE G e env st).bind fun s st1 => (match s with
    | .d (.str x) => .ok (signsD x) st1
    | _ => .bad)) R := h
  refine ⟨F, ρ, st, env, rel, eok, h'.bind fun so st1 v H1 F1 ρ1 _ e1 rel1 rv p1 => ?_⟩
  cases so with
  | r n => exact p1.elim
  | d y =>
    cases y with
    | str x =>
      cases (srep_d rv)
      exact ⟨x, rfl, PostI.here p1 rel1 wk_str⟩
    | _ => exact p1.elim
theorem rngOk_inv {n : Int} (h : rngOk n = true) : -(2 ^ 62) ≤ n ∧ n < 2 ^ 62 := of_decide_eq_true h
theorem ti_range1 {e : CE} {R : It → Hp → Prop} (h : tI K ca W (evI G (.range [e])) σ H R) : iRng1 (tEs K ca W (evEs G [e])) σ H R := by
  obtain ⟨F, ρ, st, env, rel, eok, h⟩ := h
  have h' : PostI K ca (at_ W σ) H F ρ ((evEs G [e] env st).bind fun ss st1 => rangeOf ss st1) R := h
  refine ⟨F, ρ, st, env, rel, eok, h'.bindA fun ss st1 vs H1 F1 ρ1 eq e1 rel1 rvs p1 => ?_⟩
  have l := evEs_len eq
  match ss, rvs, l, p1 with
  | [s], .cons rv .nil, _, p1 =>
    cases s with
    | r n => exact p1.elim
    | d x =>
      cases x with
      | int n =>
        have p2 : PostI K ca (at_ W σ) H1 F1 ρ1 (match rngOk n with
          | true => .ok (rangeD 0 n.toNat) st1
          | false => .bad) R := p1
        cases (srep_d rv)
        cases q : rngOk n with
        | false => rw [q] at p2; exact p2.elim
        | true =>
          rw [q] at p2
          obtain ⟨g1, g2⟩ := rngOk_inv q
          exact ⟨n, rfl, g1, g2, PostI.here p2 rel1 wk_range⟩
      | _ => exact p1.elim
theorem ti_range2 {e e2 : CE} {R : It → Hp → Prop} (h : tI K ca W (evI G (.range [e, e2])) σ H R) : iRng2 (tEs K ca W (evEs G [e, e2])) σ H R := by
  obtain ⟨F, ρ, st, env, rel, eok, h⟩ := h
  have h' : PostI K ca (at_ W σ) H F ρ ((evEs G [e, e2] env st).bind fun ss st1 => rangeOf ss st1) R := h
  refine ⟨F, ρ, st, env, rel, eok, h'.bindA fun ss st1 vs H1 F1 ρ1 eq e1 rel1 rvs p1 => ?_⟩
  have l := evEs_len eq
  match ss, rvs, l, p1 with
  | [s, s2], .cons rv (.cons rv2 .nil), _, p1 =>
    cases s with
    | r n => exact p1.elim
    | d x =>
      cases x with
      | int a =>
        cases s2 with
        | r n => exact p1.elim
        | d y =>
          cases y with
          | int b =>
            have p2 : PostI K ca (at_ W σ) H1 F1 ρ1 (match rngOk a && rngOk b with
              | true => .ok (rangeD a (b - a).toNat) st1
              | false => .bad) R := p1
            cases (srep_d rv)
            cases (srep_d rv2)
            cases q : rngOk a && rngOk b with
            | false => rw [q] at p2; exact p2.elim
            | true =>
              rw [q] at p2
              obtain ⟨q1, q2⟩ := Bool.and_eq_true_iff.mp q
              obtain ⟨g1, g2⟩ := rngOk_inv q1
              obtain ⟨g3, g4⟩ := rngOk_inv q2
              exact ⟨a, b, rfl, ⟨g1, g2, g3, g4⟩, PostI.here p2 rel1 wk_range⟩
          | _ => exact p1.elim
      | _ => cases s2 <;> exact p1.elim
theorem ti_range3 {e e2 e3 : CE} {R : It → Hp → Prop} (h : tI K ca W (evI G (.range [e, e2, e3])) σ H R) : iRng3 (tEs K ca W (evEs G [e, e2, e3])) σ H R := by
  obtain ⟨F, ρ, st, env, rel, eok, h⟩ := h
  have h' : PostI K ca (at_ W σ) H F ρ ((evEs G [e, e2, e3] env st).bind fun ss st1 => rangeOf ss st1) R := h
  refine ⟨F, ρ, st, env, rel, eok, h'.bindA fun ss st1 vs H1 F1 ρ1 eq e1 rel1 rvs p1 => ?_⟩
  have l := evEs_len eq
  match ss, rvs, l, p1 with
  | [s, s2, s3], .cons rv (.cons rv2 (.cons rv3 .nil)), _, p1 =>
    cases s with
    | r n => exact p1.elim
    | d x =>
      cases x with
      | int a =>
        cases s2 with
        | r n => exact p1.elim
        | d y =>
          cases y with
          | int b =>
            cases s3 with
            | r n => exact p1.elim
            | d z =>
              cases z with
              | int c =>
                have p2 : PostI K ca (at_ W σ) H1 F1 ρ1 (match rngOk a && rngOk b && decide (c = -1) with
                  | true => .ok (downD a (a - b).toNat) st1
                  | false => .bad) R := p1
                cases (srep_d rv)
                cases (srep_d rv2)
                cases (srep_d rv3)
                cases q : rngOk a && rngOk b && decide (c = -1) with
                | false => rw [q] at p2; exact p2.elim
                | true =>
                  rw [q] at p2
                  obtain ⟨q1, q3⟩ := Bool.and_eq_true_iff.mp q
                  obtain ⟨q1, q2⟩ := Bool.and_eq_true_iff.mp q1
                  obtain ⟨g1, g2⟩ := rngOk_inv q1
                  obtain ⟨g3, g4⟩ := rngOk_inv q2
                  have e3 := of_decide_eq_true q3
                  subst e3
                  exact ⟨a, b, -1, _, rfl, RgC.neg g1 g2 g3 g4, PostI.here p2 rel1 wk_down⟩
              | _ => exact p1.elim
          | _ => cases s3 <;> exact p1.elim
      | _ => cases s2 <;> exact p1.elim
end
section
variable {X : Cx} {ca : Nat → Addr} {W : WX} {G : Ctx} {pos p : Pos} {tg : Expr}
abbrev JI (X : Cx) (ca : Nat → Addr) (W : WX) (G : Ctx) (tg e : Expr) (c : CI) : Prop := PI X tg e (tI X.K ca W (evI G c))
theorem pi_imp {e : Expr} {t t' : TI} (h : PI X tg e t) (k : ∀ σ H R, t' σ H R → t σ H R) : PI X tg e t' := ⟨fun pins s σ H Q I q => h.run pins s σ H Q I (k σ H Q q)⟩
theorem ji_lst {e : Expr} {c : CE} (h : JE X ca W G e c) : JI X ca W G tg e (.lst c) := pi_imp (pi_list h) fun _ _ _ q => ti_lst q
theorem ji_tup {e : Expr} {c : CE} (h : JE X ca W G e c) : JI X ca W G tg e (.tup c) := pi_imp (pi_tup h) fun _ _ _ q => ti_tup q
theorem ji_str {e : Expr} {c : CE} (h : JE X ca W G e c) : JI X ca W G tg e (.str c) := pi_imp (pi_str h) fun _ _ _ q => ti_str q
theorem ji_rev {e : Expr} {c : CE} (hg : Gl X "reversed") (hm : X.mg "reversed" = none) (h : JE X ca W G e c) (hs : starEach [e] X.env = [(false, eval e X.env)]) : JI X ca W G tg (.Call (.Name "reversed" p) [e] [] pos) (.rev c) :=
  pi_imp (pi_reversed hg hm (ja_cons h ja_nil (by rw [hs]; rfl)) hs) fun _ _ _ q => ti_rev q
theorem ji_enum {e : Expr} {c : CE} {elts : List Expr} {kk : Nat} {tpos : Pos} (hg : Gl X "enumerate") (hm : X.mg "enumerate" = none) (h : JE X ca W G e c) (hs : starEach [e] X.env = [(false, eval e X.env)]) : JI X ca W G (.Tuple elts kk tpos) (.Call (.Name "enumerate" p) [e] [] pos) (.enum c) :=
  pi_imp (pi_enum hg hm (ja_cons h ja_nil (by rw [hs]; rfl)) hs) fun _ _ _ q => ti_enum q
theorem ji_range1 {e : Expr} {c : CE} (hg : Gl X "range") (hm : X.mg "range" = none) (h : JE X ca W G e c) (hs : starEach [e] X.env = [(false, eval e X.env)]) : JI X ca W G tg (.Call (.Name "range" p) [e] [] pos) (.range [c]) :=
  pi_imp (pi_range1 hg hm (ja_cons h ja_nil (by rw [hs]; rfl)) hs) fun _ _ _ q => ti_range1 q
theorem ji_range3 {e e2 e3 : Expr} {c c2 c3 : CE} (hg : Gl X "range") (hm : X.mg "range" = none) (h : JE X ca W G e c) (h2 : JE X ca W G e2 c2) (h3 : JE X ca W G e3 c3) (hs : starEach [e, e2, e3] X.env = (false, eval e X.env) :: starEach [e2, e3] X.env) (hs2 : starEach [e2, e3] X.env = (false, eval e2 X.env) :: starEach [e3] X.env) (hs3 : starEach [e3] X.env = (false, eval e3 X.env) :: starEach [] X.env) : JI X ca W G tg (.Call (.Name "range" p) [e, e2, e3] [] pos) (.range [c, c2, c3]) :=
  pi_imp (pi_range3 hg hm (ja_cons h (ja_cons h2 (ja_cons h3 ja_nil hs3) hs2) hs) hs (by rw [hs2, hs3]; rfl)) fun _ _ _ q => ti_range3 q
theorem ji_range2 {e e2 : Expr} {c c2 : CE} (hg : Gl X "range") (hm : X.mg "range" = none) (h : JE X ca W G e c) (h2 : JE X ca W G e2 c2) (hs : starEach [e, e2] X.env = [(false, eval e X.env), (false, eval e2 X.env)]) (hs2 : starEach [e2] X.env = [(false, eval e2 X.env)]) :
    JI X ca W G tg (.Call (.Name "range" p) [e, e2] [] pos) (.range [c, c2]) :=
  pi_imp (pi_range2 hg hm (ja_cons h (ja_cons h2 ja_nil (by rw [hs2]; rfl)) (by rw [hs, hs2])) hs hs2) fun _ _ _ q => ti_range2 q
end
end PV

namespace PV
open PySem L2 PySem.Spec PyProof.Rows
section
variable {K : PySem.W.Frag} {ca : Nat → Addr} {H F H' F' : Hp} {ρ ρ' : List Addr} {E : XK} {st : Sto} {Q : VK} {W : WX} {G : Ctx} {σ : L2.St}
/-- a thing of ours beside the cells -/
theorem Ext.mutD {D : Addr} {o : HO} (e : Ext ρ H F ρ' H' F') (hD : H D = none) : Ext ρ H F ρ' (upd H' D o) F' :=
  ⟨e.ff, e.rr, fun a u h m => by rw [upd_ne (ne_of_none h hD)]; exact e.hh a u h m, fun a u h => by rw [upd_ne (ne_of_none h hD)]; exact e.th a u h, e.fn⟩
theorem Rel.mutD {D : Addr} {o : HO} (h : Rel K ca H F ρ st) (hD : D ∉ ρ) (hf : F D = none) : Rel K ca (upd H D o) F ρ st := by
  refine ⟨fun a u e => by rw [upd_ne (ne_of_none e hf)]; exact h.sub a u e, h.nd, Paired.imp_mem (fun a c m q => ?_) h.cells⟩
  have ne : a ≠ D := fun z => hD (z ▸ m)
  cases c with
  | lst xs =>
    obtain ⟨h1, vs, h2, h3⟩ := q
    exact ⟨h1, vs, by rw [upd_ne ne]; exact h2, h3⟩
  | frz xs => exact q
  | obj c fs =>
    obtain ⟨h1, dx, vfs, h2, h3⟩ := q
    exact ⟨h1, dx, vfs, by rw [upd_ne ne]; exact h2, h3⟩
  | dct kvs =>
    obtain ⟨h1, vks, h2, h3⟩ := q
    exact ⟨h1, vks, by rw [upd_ne ne]; exact h2, h3⟩
theorem Ext.adopt {D : Addr} {o : HO} (e : Ext ρ H F ρ' H' F') (hD : H D = none) (hf : F' D = none) : Ext ρ H F ρ' H' (upd F' D o) :=
  ⟨fun a u h => sub_upd hf a u (e.ff a u h), e.rr, e.hh, e.th, fun a u h => by
    by_cases z : a = D
    · exact .inr (.inl (by rw [z]; exact hD))
    · rw [upd_ne z] at h; exact e.fn a u h⟩
theorem Rel.adopt {D : Addr} {o : HO} (h : Rel K ca H F ρ st) (hD : D ∉ ρ) (hf : F D = none) (ho : H D = some o) : Rel K ca H (upd F D o) ρ st := by
  refine ⟨fun a u e => ?_, h.nd, Paired.imp_mem (fun a c m q => ?_) h.cells⟩
  · by_cases z : a = D
    · subst z; rw [upd_same] at e; cases e; exact ho
    · rw [upd_ne z] at e; exact h.sub a u e
  · have ne : a ≠ D := fun z => hD (z ▸ m)
    have s := sub_upd (o := o) hf
    cases c with
    | lst xs =>
      obtain ⟨h1, vs, h2, h3⟩ := q
      refine ⟨by rw [upd_ne ne]; exact h1, vs, h2, Paired.imp (fun x y q => ?_) h3⟩
      cases y with
      | d z => exact DRep.mono s q
      | r n => exact q
    | frz xs =>
      obtain ⟨vs, h2, h3⟩ := q
      exact ⟨vs, s _ _ h2, h3.mono s⟩
    | obj c fs =>
      obtain ⟨h1, dx, vfs, h2, h3⟩ := q
      refine ⟨by rw [upd_ne ne]; exact h1, dx, vfs, h2, Paired.imp (fun x y q => ⟨q.1, ?_⟩) h3⟩
      have q2 := q.2
      generalize y.2 = yy at q2
      cases yy with
      | d z => exact DRep.mono s q2
      | r n => exact q2
    | dct kvs =>
      obtain ⟨h1, vks, h2, h3⟩ := q
      exact ⟨by rw [upd_ne ne]; exact h1, vks, h2, Paired.imp (fun x y q => ⟨q.1, DRep.mono s q.2⟩) h3⟩
/-- a thing beside the cells stays apart -/
theorem Ext.apart {D : Addr} {u : HO} (e : Ext ρ H F ρ' H' F') (ho : H D = some u) (hD : D ∉ ρ) (hf : F D = none) : H' D = some u ∧ D ∉ ρ' ∧ F' D = none := by
  refine ⟨e.hh D u ho hD, fun m => ?_, ?_⟩
  · obtain ⟨x, ex, hx⟩ := e.rr
    rw [ex] at m
    rcases List.mem_append.mp m with m | m
    · exact hD m
    · rw [hx D m] at ho; cases ho
  · cases q : F' D with
    | none => rfl
    | some o =>
      rcases e.fn D o q with z | z | z
      · rw [hf] at z; cases z
      · rw [ho] at z; cases z
      · exact absurd z hD
abbrev W0 : WX := fun _ _ _ _ => False
theorem wipe_set (σ : L2.St) (i : Nat) (v : V) : wipe ((wipe σ [i]).set i (some v)) [i] = wipe σ [i] := by
  show ((σ.set i none).set i (some v)).set i none = σ.set i none
  rw [List.set_set, List.set_set]
theorem EnvOk.wset {env : Ev} (h : EnvOk K F ρ σ env) {v : V} {s : Sv} (i : Nat) (r : SRep K F ρ v s) : EnvOk K F ρ ((wipe σ [i]).set i (some v)) (env.set i (some s)) := by
  show EnvOk K F ρ ((σ.set i none).set i (some v)) (env.set i (some s))
  rw [List.set_set]
  exact h.set i r
/-- the comprehension's invariant: k items are taken -/
def LcI (K : PySem.W.Frag) (ca : Nat → Addr) (J : It) (D : Addr) (H1 F1 : Hp) (ρ1 : List Addr) (f : PyData → Sto → Rs (Option PyData)) (xs ys : List PyData) (st4 : Sto) (k m : Nat) (H : Hp) : Prop :=
  m = xs.length - k ∧ k ≤ xs.length ∧ ∃ F ρ st acc accV rest, Ext ρ1 H1 F1 ρ H F ∧ Rel K ca H F ρ st ∧ H D = some (.lst accV) ∧ D ∉ ρ ∧ F D = none ∧ DReps K F accV acc ∧ acc.length ≤ k ∧ lcGo f (xs.drop k) st = some (rest, st4) ∧ ys = acc ++ rest
theorem lc_core {J : It} {D : Addr} {H1 F1 : Hp} {ρ1 : List Addr} {st1 st4 : Sto} {xs ys : List PyData} {i : Nat} {env : Ev} {f : PyData → Sto → Rs (Option PyData)} {tt : TT} {te : TE} (rel1 : Rel K ca H1 F1 ρ1 st1) (eok : EnvOk K F1 ρ1 σ env) (wk : Wk K F1 J xs) (hD : H1 D = none)
    (hl : xs.length ≤ 1000000) (hgo : lcGo f xs st1 = some (ys, st4)) (hQ : Post K ca E H1 F1 ρ1 (.ok (.d (.list ys)) st4) Q)
    (turn : ∀ (x : PyData) (v : V) (F ρ st o st2) (H : Hp) (N : Hp → Prop), f x st = .ok o st2 → Rel K ca H F ρ st → EnvOk K F ρ ((wipe σ [i]).set i (some v)) (env.set i (some (.d x))) →
      (∀ H' F' ρ', Ext ρ H F ρ' H' F' → Rel K ca H' F' ρ' st2 → match o with
        | some y => True
        | none => N H') →
      (∀ (accV : List V), H D = some (.lst accV) → accV.length < sizeLine → (∀ y v H' F' ρ', o = some y → Ext ρ H F ρ' H' F' → Rel K ca H' F' ρ' st2 → DRep K F' v y → H' D = some (.lst accV) → N (upd H' D (.lst (accV ++ [v])))) → D ∉ ρ →
        tt ((wipe σ [i]).set i (some v)) H fun b H3 => if b = true then te ((wipe σ [i]).set i (some v)) H3 fun y H4 => ∃ acc, H4 D = some (.lst acc) ∧ acc.length < sizeLine ∧ N (upd H4 D (.lst (acc ++ [y]))) else N H3)) :
    ∃ W' : Nat → Nat → Hp → Prop, (∃ m, W' 0 m (upd H1 D (.lst []))) ∧ ∀ k m H, W' k m H →
      (J.stop k H ∧ Q (.ref D) H) ∨ (J.go k H ∧ ∃ Nx : Hp → Prop, (∀ H', Nx H' → ∃ m', m' < m ∧ W' (k + 1) m' H') ∧ ∀ x H', J.yld k H x H' → gName i x (wipe σ [i]) H' fun σ2 H2 => wipe σ2 [i] = wipe σ [i] ∧ tt σ2 H2 fun b H3 =>
        if b = true then te σ2 H3 fun y H4 => ∃ acc, H4 D = some (.lst acc) ∧ acc.length < sizeLine ∧ Nx (upd H4 D (.lst (acc ++ [y]))) else Nx H3) := by
  have hD1 : D ∉ ρ1 := rel1.notin hD
  have fD1 : F1 D = none := rel1.fnone hD
  refine ⟨LcI K ca J D H1 F1 ρ1 f xs ys st4, ⟨xs.length, by simp, Nat.zero_le _, F1, ρ1, st1, [], [], ys, (Ext.refl ρ1 H1 F1).mutD hD, rel1.mutD hD1 fD1, upd_same, hD1, fD1, .nil, Nat.zero_le _, hgo, rfl⟩, ?_⟩
  rintro k m H ⟨rfl, hk, F, ρ, st, acc, accV, rest, ex, rel, hHD, hDρ, fD, dr, hacc, hg, rfl⟩
  obtain ⟨w1, w2, w3⟩ := wk F H ex.ff rel.sub
  by_cases hkl : k < xs.length
  · refine .inr ⟨w1 k hkl, fun H' => LcI K ca J D H1 F1 ρ1 f xs (acc ++ rest) st4 (k + 1) (xs.length - (k + 1)) H', fun H' h' => ⟨_, by omega, h'⟩, fun v H2 hy => ?_⟩
    obtain ⟨x, hx⟩ : ∃ x, xs[k]? = some x := ⟨xs[k], List.getElem?_eq_getElem hkl⟩
    have hdrop : xs.drop k = x :: xs.drop (k + 1) := by
      rw [List.drop_eq_getElem_cons hkl]
      rw [List.getElem?_eq_getElem hkl] at hx
      cases hx
      rfl
    obtain ⟨F2, hF2, dv⟩ := w3 k v H2 x hy hx
    -- the state behind the yield
    have step : Ext ρ H F ρ H2 F2 ∧ Rel K ca H2 F2 ρ st ∧ H2 D = some (.lst accV) ∧ F2 D = none := by
      rcases hF2 with ⟨rfl, rfl⟩ | ⟨p, o, hp, rfl, rfl⟩
      · exact ⟨Ext.refl _ _ _, rel, hHD, fD⟩
      · have ne : D ≠ p := ne_of_none hHD hp
        exact ⟨Ext.fresh hp (rel.fnone hp), rel.fresh hp, by rw [upd_ne ne]; exact hHD, by rw [upd_ne ne]; exact fD⟩
    obtain ⟨ex2, rel2, hHD2, fD2⟩ := step
    rw [hdrop] at hg
    have hg' : (match f x st with
      | .ok o st1 => (match lcGo f (xs.drop (k + 1)) st1 with
        | some (ys, st2) => some (consO o ys, st2)
        | none => none)
      | _ => none) = some (rest, st4) := hg
    cases hf : f x st with
    | bad => rw [hf] at hg'; cases hg'
    | exc c p s => rw [hf] at hg'; cases hg'
    | ok o st2 =>
      rw [hf] at hg'
      have hg2 : (match lcGo f (xs.drop (k + 1)) st2 with
        | some (ys, st2) => some (consO o ys, st2)
        | none => none) = some (rest, st4) := hg'
      cases hr : lcGo f (xs.drop (k + 1)) st2 with
      | none => rw [hr] at hg2; cases hg2
      | some pr =>
        obtain ⟨rest2, st5⟩ := pr
        rw [hr] at hg2
        have hg3 : (some (consO o rest2, st5) : Option (List PyData × Sto)) = some (rest, st4) := hg2
        simp only [Option.some.injEq, Prod.mk.injEq] at hg3
        obtain ⟨hrest, rfl⟩ := hg3
        refine ⟨wipe_set σ i v, turn x v F2 ρ st o st2 H2 _ hf rel2 (((eok.ext ex).ext ex2).wset i dv) (fun H' F' ρ' e3 rel3 => ?_) accV hHD2 ?_ (fun y w H' F' ρ' ho e3 rel3 dw hD' => ?_) hDρ⟩
        · cases o with
          | some y => trivial
          | none =>
            have hrest' : rest2 = rest := hrest
            subst hrest'
            obtain ⟨a1, a2, a3⟩ := e3.apart hHD2 hDρ fD2
            exact ⟨rfl, hkl, F', ρ', st2, acc, accV, rest2, (ex.trans ex2).trans e3, rel3, a1, a2, a3, (dr.mono ex2.ff).mono e3.ff, by omega, hr, rfl⟩
        · have hlen := dr.length
          have l4 : (1000000 : Nat) < sizeLine := by decide
          omega
        · subst ho
          have hrest' : y :: rest2 = rest := hrest
          subst hrest'
          obtain ⟨a1, a2, a3⟩ := e3.apart hHD2 hDρ fD2
          refine ⟨rfl, hkl, F', ρ', st2, acc ++ [y], accV ++ [w], rest2, ((ex.trans ex2).trans e3).mutD hD, rel3.mutD a2 a3, upd_same, a2, a3, ((dr.mono ex2.ff).mono e3.ff).append (.cons dw .nil), by rw [List.length_append, List.length_singleton]; omega, hr, by simp⟩
  · have hke : k = xs.length := by omega
    subst hke
    refine .inl ⟨w2 _ (Nat.le_refl _), ?_⟩
    rw [List.drop_length] at hg
    cases hg
    refine hQ (.ref D) H (upd F D (.lst accV)) ρ (ex.adopt hD fD) (rel.adopt hDρ fD hHD) ?_
    rw [List.append_nil]
    exact .lst (.inl upd_same) (dr.mono (sub_upd fD))
theorem lcEnd_inv {b : Bool} {o : Option (List PyData × Sto)} (h : Post K ca E H F ρ (lcEnd b o) Q) : b = true ∧ ∃ ys st, o = some (ys, st) ∧ Post K ca E H F ρ (.ok (.d (.list ys)) st) Q := by
  cases b with
  | false => exact h.elim
  | true =>
    cases o with
    | none => exact h.elim
    | some p => exact ⟨rfl, p.1, p.2, rfl, h⟩
theorem PostI.intro {r : Rs (List PyData)} {f : List PyData → Sto → Rs Sv} {Q : VK} {R : It → Hp → Prop} (h : Post K ca E H F ρ (r.bind f) Q)
    (k : ∀ xs st' J H' F' ρ', Ext ρ H F ρ' H' F' → Rel K ca H' F' ρ' st' → Wk K F' J xs → Post K ca E H' F' ρ' (f xs st') Q → R J H') : PostI K ca E H F ρ r R := by
  cases r with
  | ok w st => exact fun J H2 F2 ρ2 e2 r2 s2 => k w st J H2 F2 ρ2 e2 r2 s2 (Post.ext (r := f w st) h e2)
  | exc c p st => exact h
  | bad => exact h
theorem someR_ok {r : Rs Sv} {o : Option PyData} {st2 : Sto} (h : someR r = .ok o st2) : ∃ y, o = some y ∧ r = .ok (.d y) st2 := by
  cases r with
  | ok w st => cases w with
    | d x => cases h; exact ⟨x, rfl, rfl⟩
    | r n => cases h
  | exc c p st => cases h
  | bad => cases h
theorem t_lc0 {i : Nat} {it : CI} {elt : CE} (h : tE K ca W (evE G (.lc i it [] elt)) σ H Q) : tLc (tI K ca W (evI G it)) (gName i) tYes (tE K ca W0 (evE G elt)) [i] σ H Q := by
  obtain ⟨F, ρ, st, env, rel, eok, h⟩ := h
  have h' : Post K ca (at_ W σ) H F ρ ((evI G it env st).bind fun xs st1 => lcEnd (Nat.ble xs.length 1000000) (lcGo (fun x st2 => someR (evE G elt (env.set i (some (.d x))) st2)) xs st1)) Q := h
  refine ⟨F, ρ, st, env, rel, eok, PostI.intro h' fun xs st1 J H1 F1 ρ1 e1 rel1 wk p1 D hD => ?_⟩
  obtain ⟨hb, ys, st4, hgo, hq⟩ := lcEnd_inv p1
  refine lc_core (te := tE K ca W0 (evE G elt)) (tt := tYes) rel1 (eok.ext e1) wk hD (Nat.le_of_ble_eq_true hb) hgo hq ?_
  intro x v F2 ρ2 st2 o st3 H2 N hf rel2 eok2 h1 accV hHD hlen h2 hDρ
  obtain ⟨y, rfl, he⟩ := someR_ok hf
  show (if true = true then tE K ca W0 (evE G elt) ((wipe σ [i]).set i (some v)) H2 (fun y H4 => ∃ acc, H4 D = some (.lst acc) ∧ acc.length < sizeLine ∧ N (upd H4 D (.lst (acc ++ [y])))) else N H2)
  rw [if_pos rfl]
  refine ⟨F2, ρ2, st2, env.set i (some (.d x)), rel2, eok2, ?_⟩
  rw [he]
  intro w H4 F4 ρ4 ex4 rel4 rw4
  have hD4 := ex4.hh D _ hHD hDρ
  exact ⟨accV, hD4, hlen, h2 y w H4 F4 ρ4 rfl ex4 rel4 rw4 hD4⟩
theorem condB_ok {r : Rs Sv} {k : Sto → Rs (Option PyData)} {o : Option PyData} {st2 : Sto} (h : condB r k = .ok o st2) : ∃ b st1, r = .ok (.d (.bool b)) st1 ∧ (b = true → k st1 = .ok o st2) ∧ (b = false → o = none ∧ st1 = st2) := by
  cases r with
  | exc c p st => cases h
  | bad => cases h
  | ok w st => cases w with
    | r n => cases h
    | d x => cases x with
      | bool b => cases b with
        | true => exact ⟨true, st, rfl, fun _ => h, (fun z => nomatch z)⟩
        | false => cases h; exact ⟨false, _, rfl, (fun z => nomatch z), fun _ => ⟨rfl, rfl⟩⟩
      | _ => cases h
theorem t_lc1 {i : Nat} {it : CI} {c elt : CE} (h : tE K ca W (evE G (.lc i it [c] elt)) σ H Q) : tLc (tI K ca W (evI G it)) (gName i) (tTe K ca W0 (evE G c)) (tE K ca W0 (evE G elt)) [i] σ H Q := by
  obtain ⟨F, ρ, st, env, rel, eok, h⟩ := h
  have h' : Post K ca (at_ W σ) H F ρ ((evI G it env st).bind fun xs st1 => lcEnd (Nat.ble xs.length 1000000) (lcGo (fun x st2 => condB (evE G c (env.set i (some (.d x))) st2) fun st3 => someR (evE G elt (env.set i (some (.d x))) st3)) xs st1)) Q := h
  refine ⟨F, ρ, st, env, rel, eok, PostI.intro h' fun xs st1 J H1 F1 ρ1 e1 rel1 wk p1 D hD => ?_⟩
  obtain ⟨hb, ys, st4, hgo, hq⟩ := lcEnd_inv p1
  refine lc_core (te := tE K ca W0 (evE G elt)) (tt := tTe K ca W0 (evE G c)) rel1 (eok.ext e1) wk hD (Nat.le_of_ble_eq_true hb) hgo hq ?_
  intro x v F2 ρ2 st2 o st3 H2 N hf rel2 eok2 h1 accV hHD hlen h2 hDρ
  obtain ⟨b, st5, hc, ht, hn⟩ := condB_ok hf
  refine ⟨F2, ρ2, st2, env.set i (some (.d x)), rel2, eok2, ?_⟩
  rw [hc]
  intro w H3 F3 ρ3 ex3 rel3 rw3
  refine ⟨b, srep_bool rw3, ?_⟩
  cases b with
  | false =>
    obtain ⟨rfl, rfl⟩ := hn rfl
    rw [if_neg Bool.false_ne_true]
    exact h1 H3 F3 ρ3 ex3 rel3
  | true =>
    obtain ⟨y, rfl, he⟩ := someR_ok (ht rfl)
    rw [if_pos rfl]
    refine ⟨F3, ρ3, st5, env.set i (some (.d x)), rel3, eok2.ext ex3, ?_⟩
    rw [he]
    intro w H4 F4 ρ4 ex4 rel4 rw4
    have ex34 := ex3.trans ex4
    have hD4 := ex34.hh D _ hHD hDρ
    exact ⟨accV, hD4, hlen, h2 y w H4 F4 ρ4 rfl ex34 rel4 rw4 hD4⟩
theorem EnvOk.unset {env : Ev} (h : EnvOk K F ρ σ env) (j : Nat) : EnvOk K F ρ (σ.set j none) (env.set j none) := by
  refine ⟨by rw [List.length_set, List.length_set]; exact h.1, fun m t hm => ?_⟩
  by_cases e : j = m
  · subst e
    have hi : j < env.length := by
      have q := (List.getElem?_eq_some_iff.mp hm).1
      rwa [List.length_set] at q
    rw [List.getElem?_set_self hi] at hm
    cases hm
  · rw [List.getElem?_set_ne e] at hm ⊢
    exact h.2 m t hm
theorem EnvOk.wset2 {env : Ev} (h : EnvOk K F ρ σ env) {v : V} {s : Sv} (i j : Nat) (r : SRep K F ρ v s) : EnvOk K F ρ ((wipe σ [i, j]).set i (some v)) ((env.set j none).set i (some s)) := by
  show EnvOk K F ρ (((σ.set j none).set i none).set i (some v)) ((env.set j none).set i (some s))
  rw [List.set_set]
  exact (h.unset j).set i r
theorem wipe_set2 (σ : L2.St) {i j : Nat} (hij : i ≠ j) (v : V) : wipe ((wipe σ [i, j]).set i (some v)) [i, j] = wipe σ [i, j] := by
  show ((((σ.set j none).set i none).set i (some v)).set j none).set i none = (σ.set j none).set i none
  rw [List.set_set, List.set_comm _ _ hij, List.set_set, List.set_set]
/-- the outer invariant: k items are taken -/
def LcO (K : PySem.W.Frag) (ca : Nat → Addr) (D : Addr) (H1 F1 : Hp) (ρ1 : List Addr) (f : PyData → Sto → Option (List PyData × Sto)) (xs ys : List PyData) (st4 : Sto) (k m : Nat) (H : Hp) : Prop :=
  m = xs.length - k ∧ k ≤ xs.length ∧ ∃ F ρ st acc accV rest, Ext ρ1 H1 F1 ρ H F ∧ Rel K ca H F ρ st ∧ H D = some (.lst accV) ∧ D ∉ ρ ∧ F D = none ∧ DReps K F accV acc ∧ lcGo2 f (xs.drop k) st = some (rest, st4) ∧ ys = acc ++ rest
/-- the inner one -/
def LcN (K : PySem.W.Frag) (ca : Nat → Addr) (D : Addr) (H1 F1 F0 : Hp) (ρ1 : List Addr) (f : PyData → Sto → Rs (Option PyData)) (us rest2 ys : List PyData) (st5 : Sto) (k m : Nat) (H : Hp) : Prop :=
  m = us.length - k ∧ k ≤ us.length ∧ ∃ F ρ st acc accV rest, Ext ρ1 H1 F1 ρ H F ∧ Sub F0 F ∧ Rel K ca H F ρ st ∧ H D = some (.lst accV) ∧ D ∉ ρ ∧ F D = none ∧ DReps K F accV acc ∧ lcGo f (us.drop k) st = some (rest, st5) ∧ ys = acc ++ (rest ++ rest2)
theorem drop_cons {α : Type} {xs : List α} {k : Nat} {x : α} (hk : k < xs.length) (hx : xs[k]? = some x) : xs.drop k = x :: xs.drop (k + 1) := by
  rw [List.drop_eq_getElem_cons hk]
  rw [List.getElem?_eq_getElem hk] at hx
  cases hx
  rfl
theorem iteT {a b : Prop} (h : a) : if true = true then a else b := by rw [if_pos rfl]; exact h
theorem t_lc2 {i j : Nat} {it it2 : CI} {cnd : List CE} {elt : CE} (hij : i ≠ j) (h : tE K ca W (evE G (.lc2 i it j it2 cnd elt)) σ H Q) :
    tLc2 (tI K ca W (evI G it)) (gName i) tYes (tI K ca W0 (evI G it2)) (gName j) tYes (tE K ca W0 (evE G elt)) [i, j] [j] σ H Q := by
  obtain ⟨F, ρ, st, env, rel, eok, h⟩ := h
  have h' : Post K ca (at_ W σ) H F ρ ((evI G it env st).bind fun xs st1 => lcEnd2 (lcGo2 (fun x st2 => inner2 (evI G it2 ((env.set j none).set i (some (.d x))) st2) fun us st3 => lcGo (fun y st4 => someR (evE G elt (((env.set j none).set i (some (.d x))).set j (some (.d y))) st4)) us st3) xs st1)) Q := h
  refine ⟨F, ρ, st, env, rel, eok, PostI.intro h' fun xs st1 J H1 F1 ρ1 e1 rel1 wk p1 D hD => ?_⟩
  obtain ⟨hb, ys, st4, hgo, hq⟩ := lcEnd_inv p1
  have hlen : ys.length ≤ 1000000 := by rw [hgo] at hb; exact Nat.le_of_ble_eq_true hb
  have l4 : (1000000 : Nat) < sizeLine := by decide
  have hD1 : D ∉ ρ1 := rel1.notin hD
  have fD1 : F1 D = none := rel1.fnone hD
  have eok1 := eok.ext e1
  generalize hf2 : (fun x st2 => inner2 (evI G it2 ((env.set j none).set i (some (.d x))) st2) fun us st3 => lcGo (fun y st4 => someR (evE G elt (((env.set j none).set i (some (.d x))).set j (some (.d y))) st4)) us st3) = f2 at hgo
  refine ⟨LcO K ca D H1 F1 ρ1 f2 xs ys st4, ⟨xs.length, by simp, Nat.zero_le _, F1, ρ1, st1, [], [], ys, (Ext.refl ρ1 H1 F1).mutD hD, rel1.mutD hD1 fD1, upd_same, hD1, fD1, .nil, hgo, rfl⟩, ?_⟩
  rintro k m H2 ⟨rfl, hk, F2, ρ2, st2, acc, accV, rest, ex, rel2, hHD, hDρ, fD, dr, hg, hys⟩
  obtain ⟨w1, w2, w3⟩ := wk F2 H2 ex.ff rel2.sub
  by_cases hkl : k < xs.length
  · refine .inr ⟨w1 k hkl, fun H' => LcO K ca D H1 F1 ρ1 f2 xs ys st4 (k + 1) (xs.length - (k + 1)) H', fun H' h' => ⟨_, by omega, h'⟩, fun v H3 hy => ?_⟩
    obtain ⟨x, hx⟩ : ∃ x, xs[k]? = some x := ⟨xs[k], List.getElem?_eq_getElem hkl⟩
    obtain ⟨F3, hF3, dv⟩ := w3 k v H3 x hy hx
    have step : Ext ρ2 H2 F2 ρ2 H3 F3 ∧ Rel K ca H3 F3 ρ2 st2 ∧ H3 D = some (.lst accV) ∧ F3 D = none := by
      rcases hF3 with ⟨rfl, rfl⟩ | ⟨p, o, hp, rfl, rfl⟩
      · exact ⟨Ext.refl _ _ _, rel2, hHD, fD⟩
      · have ne : D ≠ p := ne_of_none hHD hp
        exact ⟨Ext.fresh hp (rel2.fnone hp), rel2.fresh hp, by rw [upd_ne ne]; exact hHD, by rw [upd_ne ne]; exact fD⟩
    obtain ⟨ex3, rel3, hHD3, fD3⟩ := step
    rw [drop_cons hkl hx] at hg
    have hg' : (match f2 x st2 with
      | some (ys, st1) => (match lcGo2 f2 (xs.drop (k + 1)) st1 with
        | some (zs, st2) => some (ys ++ zs, st2)
        | none => none)
      | none => none) = some (rest, st4) := hg
    cases hfx : f2 x st2 with
    | none => rw [hfx] at hg'; cases hg'
    | some pr =>
      obtain ⟨us', st5⟩ := pr
      rw [hfx] at hg'
      have hg2 : (match lcGo2 f2 (xs.drop (k + 1)) st5 with
        | some (zs, st2) => some (us' ++ zs, st2)
        | none => none) = some (rest, st4) := hg'
      cases hr : lcGo2 f2 (xs.drop (k + 1)) st5 with
      | none => rw [hr] at hg2; cases hg2
      | some pr2 =>
        obtain ⟨rest2, st6⟩ := pr2
        rw [hr] at hg2
        have hg3 : (some (us' ++ rest2, st6) : Option (List PyData × Sto)) = some (rest, st4) := hg2
        simp only [Option.some.injEq, Prod.mk.injEq] at hg3
        obtain ⟨rfl, rfl⟩ := hg3
        have hfx' : inner2 (evI G it2 ((env.set j none).set i (some (.d x))) st2) (fun us st3 => lcGo (fun y st4 => someR (evE G elt (((env.set j none).set i (some (.d x))).set j (some (.d y))) st4)) us st3) = some (us', st5) := by
          rw [← hf2] at hfx; exact hfx
        cases hev : evI G it2 ((env.set j none).set i (some (.d x))) st2 with
        | bad => rw [hev] at hfx'; cases hfx'
        | exc c p s => rw [hev] at hfx'; cases hfx'
        | ok us st3 =>
          rw [hev] at hfx'
          have hin : lcGo (fun y st4 => someR (evE G elt (((env.set j none).set i (some (.d x))).set j (some (.d y))) st4)) us st3 = some (us', st5) := hfx'
          refine ⟨wipe_set2 σ hij v, ?_⟩
          show tI K ca W0 (evI G it2) ((wipe σ [i, j]).set i (some v)) H3 _
          have eok3 := (((eok1.ext ex).ext ex3).wset2 i j (s := .d x) dv)
          refine ⟨F3, ρ2, st2, _, rel3, eok3, ?_⟩
          rw [hev]
          intro J1 H4 F4 ρ4 e4 rel4 wk4
          obtain ⟨a1, a2, a3⟩ := e4.apart hHD3 hDρ fD3
          have ex4 := (ex.trans ex3).trans e4
          refine ⟨LcN K ca D H1 F1 F4 ρ1 (fun y st4 => someR (evE G elt (((env.set j none).set i (some (.d x))).set j (some (.d y))) st4)) us rest2 ys st5, ⟨us.length, by simp, Nat.zero_le _, F4, ρ4, st3, acc, accV, us', ex4, fun _ _ z => z, rel4, a1, a2, a3, (dr.mono ex3.ff).mono e4.ff, hin, hys⟩, ?_⟩
          rintro k1 m1 H5 ⟨rfl, hk1, F5, ρ5, st7, acc5, accV5, rest5, ex5, sb5, rel5, hHD5, hDρ5, fD5, dr5, hg5, hys5⟩
          obtain ⟨v1, v2, v3⟩ := wk4 F5 H5 sb5 rel5.sub
          by_cases hk1l : k1 < us.length
          · refine .inr ⟨v1 k1 hk1l, fun H' => LcN K ca D H1 F1 F4 ρ1 (fun y st4 => someR (evE G elt (((env.set j none).set i (some (.d x))).set j (some (.d y))) st4)) us rest2 ys st5 (k1 + 1) (us.length - (k1 + 1)) H', fun H' h' => ⟨_, by omega, h'⟩, fun w H6 hy6 => ?_⟩
            obtain ⟨y, hyx⟩ : ∃ y, us[k1]? = some y := ⟨us[k1], List.getElem?_eq_getElem hk1l⟩
            obtain ⟨F6, hF6, dw⟩ := v3 k1 w H6 y hy6 hyx
            have step6 : Ext ρ5 H5 F5 ρ5 H6 F6 ∧ Rel K ca H6 F6 ρ5 st7 ∧ H6 D = some (.lst accV5) ∧ F6 D = none := by
              rcases hF6 with ⟨rfl, rfl⟩ | ⟨p, o, hp, rfl, rfl⟩
              · exact ⟨Ext.refl _ _ _, rel5, hHD5, fD5⟩
              · have ne : D ≠ p := ne_of_none hHD5 hp
                exact ⟨Ext.fresh hp (rel5.fnone hp), rel5.fresh hp, by rw [upd_ne ne]; exact hHD5, by rw [upd_ne ne]; exact fD5⟩
            obtain ⟨ex6, rel6, hHD6, fD6⟩ := step6
            rw [drop_cons hk1l hyx] at hg5
            have hg6 : (match someR (evE G elt (((env.set j none).set i (some (.d x))).set j (some (.d y))) st7) with
              | .ok o st1 => (match lcGo (fun y st4 => someR (evE G elt (((env.set j none).set i (some (.d x))).set j (some (.d y))) st4)) (us.drop (k1 + 1)) st1 with
                | some (ys, st2) => some (consO o ys, st2)
                | none => none)
              | _ => none) = some (rest5, st5) := hg5
            cases hfy : someR (evE G elt (((env.set j none).set i (some (.d x))).set j (some (.d y))) st7) with
            | bad => rw [hfy] at hg6; cases hg6
            | exc c p s => rw [hfy] at hg6; cases hg6
            | ok o st8 =>
              rw [hfy] at hg6
              have hg7 : (match lcGo (fun y st4 => someR (evE G elt (((env.set j none).set i (some (.d x))).set j (some (.d y))) st4)) (us.drop (k1 + 1)) st8 with
                | some (ys, st2) => some (consO o ys, st2)
                | none => none) = some (rest5, st5) := hg6
              cases hr7 : lcGo (fun y st4 => someR (evE G elt (((env.set j none).set i (some (.d x))).set j (some (.d y))) st4)) (us.drop (k1 + 1)) st8 with
              | none => rw [hr7] at hg7; cases hg7
              | some pr7 =>
                obtain ⟨rest7, st9⟩ := pr7
                rw [hr7] at hg7
                have hg8 : (some (consO o rest7, st9) : Option (List PyData × Sto)) = some (rest5, st5) := hg7
                simp only [Option.some.injEq, Prod.mk.injEq] at hg8
                obtain ⟨hrest, rfl⟩ := hg8
                obtain ⟨z, rfl, he⟩ := someR_ok hfy
                have hrest' : z :: rest7 = rest5 := hrest
                subst hrest'
                refine ⟨wipe_set _ j w, ?_⟩
                show tE K ca W0 (evE G elt) ((wipe ((wipe σ [i, j]).set i (some v)) [j]).set j (some w)) H6 _
                have eok6 : EnvOk K F6 ρ5 ((wipe ((wipe σ [i, j]).set i (some v)) [j]).set j (some w)) (((env.set j none).set i (some (.d x))).set j (some (.d y))) :=
                  ((((eok1.ext ex5).wset2 i j (s := .d x) ((DRep.mono e4.ff dv).mono sb5)).ext ex6).wset j (s := .d y) dw)
                refine ⟨F6, ρ5, st7, _, rel6, eok6, ?_⟩
                rw [he]
                intro zv H7 F7 ρ7 e7 rel7 rz
                have hD7 := e7.hh D _ hHD6 hDρ5
                obtain ⟨b1, b2, b3⟩ := e7.apart hHD6 hDρ5 fD6
                have dl := dr5.length
                have hl5 : acc5.length + 1 ≤ ys.length := by rw [hys5, List.length_append, List.length_append, List.length_cons]; omega
                refine ⟨accV5, hD7, by omega, rfl, hk1l, F7, ρ7, st8, acc5 ++ [z], accV5 ++ [zv], rest7, ((ex5.trans ex6).trans e7).mutD hD, fun a o q => e7.ff a o (ex6.ff a o (sb5 a o q)), rel7.mutD b2 b3, upd_same, b2, b3, ((dr5.mono ex6.ff).mono e7.ff).append (.cons rz .nil), hr7, by rw [hys5]; simp⟩
          · have hke : k1 = us.length := by omega
            subst hke
            rw [List.drop_length] at hg5
            cases hg5
            exact .inl ⟨v2 _ (Nat.le_refl _), rfl, hkl, F5, ρ5, _, acc5, accV5, rest2, ex5, rel5, hHD5, hDρ5, fD5, dr5, hr, hys5⟩
  · have hke : k = xs.length := by omega
    subst hke
    refine .inl ⟨w2 _ (Nat.le_refl _), ?_⟩
    rw [List.drop_length] at hg
    cases hg
    subst hys
    refine hq (.ref D) H2 (upd F2 D (.lst accV)) ρ2 (ex.adopt hD fD) (rel2.adopt hDρ fD hHD) ?_
    rw [List.append_nil]
    exact .lst (.inl upd_same) (dr.mono (sub_upd fD))
/-! isinstance(x, a built-in type) -/
theorem vty {v : V} {x : PyData} (r : VRep K H F v x) (sb : Sub F H) {t : TyN} {b : Bool} (h : isTy t x = some b) : ∃ a, TyX K H v (.type a) ∧ kitB a (tyStr t) = some b := by
  cases r with
  | non => exact ⟨_, .base .non, by cases h; cases t <;> decide +kernel⟩
  | bl c => exact ⟨_, .base (.bl c), by cases t <;> cases h <;> decide +kernel⟩
  | int c => exact ⟨_, .base (.int c), by cases t <;> cases h <;> decide +kernel⟩
  | str c => exact ⟨_, .base (.str c), by cases t <;> cases h <;> decide +kernel⟩
  | lst a d =>
    refine ⟨"list", ?_, by cases t <;> cases h <;> decide +kernel⟩
    rcases a with a | ⟨o, a⟩
    · exact .base (.lst a)
    · exact .base (.frz a)
  | tup a d =>
    refine ⟨"tuple", ?_, by cases t <;> cases h <;> decide +kernel⟩
    rcases sub_t sb a with (a | ⟨o, a⟩) | ⟨o, its, n, a, c, _⟩
    · exact .base (.tup a)
    · exact .fTuple a
    · exact .kTuple a c
  | scr a => cases h
theorem t_isi {t : TyN} {a : CE} (h : tE K ca W (evE G (.isi t a)) σ H Q) : tCB (rIsi K) (tCons (tE K ca W (evE G a)) (tCons (tC (.ty (tyStr t))) tNil)) σ H Q := by
  obtain ⟨F, ρ, st, env, rel, eok, h⟩ := h
  have h' : Post K ca (at_ W σ) H F ρ ((evE G a env st).bind fun s st1 => toRs st1 (bindO (bindO (view st1 s) (isTy t)) fun b => some (.bool b))) Q := h
  refine ⟨F, ρ, st, env, rel, eok, h'.bind fun s st1 v H1 F1 ρ1 _ e1 rel1 rv p1 => ?_⟩
  cases q : view st1 s with
  | none => rw [q] at p1; exact p1.elim
  | some x =>
    rw [q] at p1
    have p2 : Post K ca (at_ W σ) H1 F1 ρ1 (toRs st1 (bindO (isTy t x) fun b => some (.bool b))) Q := p1
    cases q2 : isTy t x with
    | none => rw [q2] at p2; exact p2.elim
    | some b =>
      rw [q2] at p2
      obtain ⟨n, ty, hk⟩ := vty (view_rep rel1 rv q) rel1.sub q2
      exact ⟨v, .ty (tyStr t), .type n, .type (tyStr t), b, rfl, .ty _, ty, kit_ty hk, p2 (.bl b) H1 F1 ρ1 (Ext.refl _ _ _) rel1 (.bl b)⟩
end
end PV

namespace PV
open PySem L2 PySem.Spec PyProof.Rows
section
variable (K : PySem.W.Frag) (ca : Nat → Addr) (W : WX)
def SPost (H F : Hp) (ρ : List Addr) (r : SRs) (D : Ends) : Prop := match r with
  | .next env st => ∀ σ' H' F' ρ', Ext ρ H F ρ' H' F' → Rel K ca H' F' ρ' st → EnvOk K F' ρ' σ' env → D.nx σ' H'
  | .brk env st => ∀ σ' H' F' ρ', Ext ρ H F ρ' H' F' → Rel K ca H' F' ρ' st → EnvOk K F' ρ' σ' env → D.bk σ' H'
  | .cont env st => ∀ σ' H' F' ρ', Ext ρ H F ρ' H' F' → Rel K ca H' F' ρ' st → EnvOk K F' ρ' σ' env → D.ct σ' H'
  | .ret w st => ∀ v H' F' ρ', Ext ρ H F ρ' H' F' → Rel K ca H' F' ρ' st → SRep K F' ρ' v w → D.rt v H'
  | .exc c p env st => ∀ σ' H' F' ρ', Ext ρ H F ρ' H' F' → Rel K ca H' F' ρ' st → EnvOk K F' ρ' σ' env → xk K ca (at_ W σ') c p F' H'
  | .bad => False
def tS (r : Ev → Sto → SRs) : TS := fun D σ H => ∃ F ρ st env, Rel K ca H F ρ st ∧ EnvOk K F ρ σ env ∧ SPost K ca W H F ρ (r env st) D
def TPost (H F : Hp) (ρ : List Addr) (r : Option (Ev × Sto)) (Q : L2.St → Hp → Prop) : Prop := match r with
  | some (env, st) => ∀ σ' H' F' ρ', Ext ρ H F ρ' H' F' → Rel K ca H' F' ρ' st → EnvOk K F' ρ' σ' env → Q σ' H'
  | none => False
def tG (r : Sv → Ev → Sto → Option (Ev × Sto)) : TG := fun v σ H Q => ∃ F ρ st env s, Rel K ca H F ρ st ∧ EnvOk K F ρ σ env ∧ SRep K F ρ v s ∧ TPost K ca H F ρ (r s env st) Q
variable {K ca W} {H F H' F' : Hp} {ρ ρ' : List Addr} {st : Sto} {G : Ctx} {σ : L2.St} {D : Ends} {wf : Nat}
theorem SPost.ext {r : SRs} (h : SPost K ca W H F ρ r D) (e : Ext ρ H F ρ' H' F') : SPost K ca W H' F' ρ' r D := by
  cases r with
  | next env st => exact fun σ2 H2 F2 ρ2 e2 r2 s2 => h σ2 H2 F2 ρ2 (e.trans e2) r2 s2
  | brk env st => exact fun σ2 H2 F2 ρ2 e2 r2 s2 => h σ2 H2 F2 ρ2 (e.trans e2) r2 s2
  | cont env st => exact fun σ2 H2 F2 ρ2 e2 r2 s2 => h σ2 H2 F2 ρ2 (e.trans e2) r2 s2
  | ret env st => exact fun σ2 H2 F2 ρ2 e2 r2 s2 => h σ2 H2 F2 ρ2 (e.trans e2) r2 s2
  | exc c p env st => exact fun σ2 H2 F2 ρ2 e2 r2 s2 => h σ2 H2 F2 ρ2 (e.trans e2) r2 s2
  | bad => exact h
theorem TPost.ext {r : Option (Ev × Sto)} {Q : L2.St → Hp → Prop} (h : TPost K ca H F ρ r Q) (e : Ext ρ H F ρ' H' F') : TPost K ca H' F' ρ' r Q := by
  cases r with
  | none => exact h
  | some p => exact fun σ2 H2 F2 ρ2 e2 r2 s2 => h σ2 H2 F2 ρ2 (e.trans e2) r2 s2
/-- an expression in a statement -/
theorem SPost.lift {env : Ev} {r : Rs Sv} {k : Sv → Sto → SRs} {Q : VK} (eok : EnvOk K F ρ σ env) (h : SPost K ca W H F ρ (lift env r k) D)
    (f : ∀ s st' v H' F' ρ', r = .ok s st' → Ext ρ H F ρ' H' F' → Rel K ca H' F' ρ' st' → SRep K F' ρ' v s → SPost K ca W H' F' ρ' (k s st') D → Q v H') : Post K ca (at_ W σ) H F ρ r Q := by
  cases r with
  | ok w st => exact fun v H2 F2 ρ2 e2 r2 s2 => f w st v H2 F2 ρ2 rfl e2 r2 s2 (SPost.ext (r := k w st) h e2)
  | exc c p st => exact fun H2 F2 ρ2 e2 r2 => h σ H2 F2 ρ2 e2 r2 (eok.ext e2)
  | bad => exact h
theorem SPost.nextO {r : Option (Ev × Sto)} (h : SPost K ca W H F ρ (nextO r) D) : TPost K ca H F ρ r D.nx := by
  cases r with
  | none => exact h
  | some p => exact h
theorem s_next {env : Ev} (h : SPost K ca W H F ρ (.next env st) D) (rel : Rel K ca H F ρ st) (eok : EnvOk K F ρ σ env) : D.nx σ H := h σ H F ρ (Ext.refl _ _ _) rel eok
theorem ts_set {t : CT} {e : CE} (h : tS K ca W (evS G wf (.set t e)) D σ H) : tAsg (tE K ca W (evE G e)) (tG K ca (evT G t)) D σ H := by
  obtain ⟨F, ρ, st, env, rel, eok, h⟩ := h
  have h' : SPost K ca W H F ρ (lift env (evE G e env st) fun s st1 => nextO (evT G t s env st1)) D := h
  exact ⟨F, ρ, st, env, rel, eok, h'.lift eok fun s st1 v H1 F1 ρ1 _ e1 rel1 rv p1 => ⟨F1, ρ1, st1, env, s, rel1, eok.ext e1, rv, p1.nextO⟩⟩
theorem tg_name {i : Nat} {v : V} {Q : L2.St → Hp → Prop} (h : tG K ca (evT G (.name i)) v σ H Q) : gName i v σ H Q := by
  obtain ⟨F, ρ, st, env, s, rel, eok, rv, h⟩ := h
  exact h _ H F ρ (Ext.refl _ _ _) rel (eok.set i rv)
theorem tg_names : ∀ {is : List Nat} {xs : List PyData} {vs : List V} {σ : L2.St} {env : Ev} {Q : L2.St → Hp → Prop}, EnvOk K F ρ σ env → DReps K F vs xs → xs.length = is.length → (∀ σ', EnvOk K F ρ σ' (bindNames is xs env) → Q σ' H) →
    (is.foldr (fun i (u : TGs) => gCons (gName i) u) gNil) vs σ H Q
  | [], [], _, σ, env, Q, eok, .nil, _, k => ⟨rfl, k σ eok⟩
  | i :: is, x :: xs, v :: vs, σ, env, Q, eok, .cons a d, hl, k => ⟨v, vs, rfl, tg_names (eok.set i (s := .d x) a) d (by simpa using hl) k⟩
theorem guardO {α : Type} {b : Bool} {p : α} {o : Option α} (h : guard1 b p = o) : (b = true ∧ o = some p) ∨ (b = false ∧ o = none) := by
  cases b with
  | true => exact .inl ⟨rfl, h.symm⟩
  | false => exact .inr ⟨rfl, h.symm⟩
theorem tg_tup {is : List Nat} {v : V} {Q : L2.St → Hp → Prop} (h : tG K ca (evT G (.tup is)) v σ H Q) : gTup K is.length (is.foldr (fun i (u : TGs) => gCons (gName i) u) gNil) v σ H Q := by
  obtain ⟨F, ρ, st, env, s, rel, eok, rv, h⟩ := h
  cases s with
  | r n => exact h.elim
  | d x =>
    cases x with
    | tuple xs =>
      have h' : TPost K ca H F ρ (guard1 (decide (xs.length = is.length)) (bindNames is xs env, st)) Q := h
      rcases guardO (rfl : guard1 (decide (xs.length = is.length)) (bindNames is xs env, st) = _) with ⟨g, e⟩ | ⟨_, e⟩
      · rw [e] at h'
        obtain ⟨a, vs, rfl, ha, d⟩ := tup_inv rv
        have hl : xs.length = is.length := of_decide_eq_true g
        exact ⟨a, vs, rfl, sub_t rel.sub ha, by rw [d.length]; exact hl, tg_names eok d hl fun σ' eok' => h' σ' H F ρ (Ext.refl _ _ _) rel eok'⟩
      · rw [e] at h'; exact h'.elim
    | _ => exact h.elim
theorem tg_fld {o : CE} {f : Str} (C : ClsOk K ca G) {v : V} {Q : L2.St → Hp → Prop} (h : tG K ca (evT G (.fld o f)) v σ H Q) : tE K ca W0 (evE G o) σ H fun x H2 => ∃ a C dx fs, x = .ref a ∧ H2 a = some (.ins C dx fs) ∧ Cls K C ∧ NoAttr K C f ∧ fs.length < 1000 ∧
    Q σ (upd H2 a (.ins C dx (putF f v fs))) := by
  obtain ⟨F, ρ, st, env, s, rel, eok, rv, h⟩ := h
  have h' : TPost K ca H F ρ (match evE G o env st with
    | .ok (.r n) st1 => (match st1[n]? with
      | some (.obj c fs) => guard1 (G.fld c f && decide (fs.length < 1000)) (env, setC st1 n (.obj c (putS f s fs)))
      | _ => none)
    | _ => none) Q := h
  refine ⟨F, ρ, st, env, rel, eok, ?_⟩
  cases q : evE G o env st with
  | bad => rw [q] at h'; exact h'.elim
  | exc c p s => rw [q] at h'; exact h'.elim
  | ok so st1 =>
    rw [q] at h'
    cases so with
    | d x => exact h'.elim
    | r n =>
      intro v1 H1 F1 ρ1 e1 rel1 rv1
      have h2 : TPost K ca H F ρ (match st1[n]? with
        | some (.obj c fs) => guard1 (G.fld c f && decide (fs.length < 1000)) (env, setC st1 n (.obj c (putS f s fs)))
        | _ => none) Q := h'
      cases q2 : st1[n]? with
      | none => rw [q2] at h2; exact h2.elim
      | some c0 =>
        rw [q2] at h2
        cases c0 with
        | lst xs => exact h2.elim
        | frz xs => exact h2.elim
        | dct kvs => exact h2.elim
        | obj c fs =>
          have h3 : TPost K ca H F ρ (guard1 (G.fld c f && decide (fs.length < 1000)) (env, setC st1 n (.obj c (putS f s fs)))) Q := h2
          rcases guardO (rfl : guard1 (G.fld c f && decide (fs.length < 1000)) (env, setC st1 n (.obj c (putS f s fs))) = _) with ⟨g, e⟩ | ⟨_, e⟩
          · rw [e] at h3
            obtain ⟨g1, g2⟩ := Bool.and_eq_true_iff.mp g
            obtain ⟨a, dx, vfs, ha, rfl, fa, Ha, fr⟩ := obj_inv rel1 rv1 q2
            obtain ⟨k1, k2⟩ := C.cls c f g1
            have hl : vfs.length = fs.length := Paired.length fr
            have g3 : fs.length < 1000 := of_decide_eq_true g2
            refine ⟨a, ca c, dx, vfs, rfl, Ha, k1, k2, by omega, ?_⟩
            have E1 : Ext ρ1 H1 F1 ρ1 (upd H1 a (.ins (ca c) dx (putF f v vfs))) F1 := Ext.set ha
            exact h3 σ _ F1 ρ1 (e1.trans E1) (rel1.set ha fa ⟨fa, dx, _, upd_same, frep_ext E1 (frep_put (rv.ext e1) fr)⟩) ((eok.ext e1).ext E1)
          · rw [e] at h3; exact h3.elim
/-- o[i] = .. of a list -/
theorem Paired.setL {α β : Type} {R : α → β → Prop} {x : α} {y : β} (h : R x y) : ∀ {xs : List α} {ys : List β} (k : Nat), Paired R xs ys → Paired R (xs.set k x) (ys.set k y)
  | _, _, _, .nil => .nil
  | _, _, 0, .cons _ t => .cons h t
  | _, _, k + 1, .cons a t => .cons a (Paired.setL h k t)
theorem tg_sub {o i : CE} {v : V} {Q : L2.St → Hp → Prop} (h : tG K ca (evT G (.sub o i)) v σ H Q) : gSub (tE K ca W0 (evE G o)) (tE K ca W0 (evE G i)) rSetL v σ H Q := by
  obtain ⟨F, ρ, st, env, s, rel, eok, rv, h⟩ := h
  have h' : TPost K ca H F ρ (match evE G o env st with
    | .ok (.r n) st1 => (match evE G i env st1 with
      | .ok (.d (.int j)) st2 => (match st2[n]? with
        | some (.lst xs) => (match ixN xs.length j with
          | some k => some (env, setC st2 n (.lst (xs.set k s)))
          | none => none)
        | _ => none)
      | _ => none)
    | _ => none) Q := h
  refine ⟨F, ρ, st, env, rel, eok, ?_⟩
  cases q : evE G o env st with
  | bad => rw [q] at h'; exact h'.elim
  | exc c p s => rw [q] at h'; exact h'.elim
  | ok so st1 =>
    rw [q] at h'
    cases so with
    | d x => exact h'.elim
    | r n =>
      intro v1 H1 F1 ρ1 e1 rel1 rv1
      refine ⟨F1, ρ1, st1, env, rel1, eok.ext e1, ?_⟩
      have h1 : TPost K ca H F ρ (match evE G i env st1 with
        | .ok (.d (.int j)) st2 => (match st2[n]? with
          | some (.lst xs) => (match ixN xs.length j with
            | some k => some (env, setC st2 n (.lst (xs.set k s)))
            | none => none)
          | _ => none)
        | _ => none) Q := h'
      cases q2 : evE G i env st1 with
      | bad => rw [q2] at h1; exact h1.elim
      | exc c p s => rw [q2] at h1; exact h1.elim
      | ok si st2 =>
        rw [q2] at h1
        cases si with
        | r m => exact h1.elim
        | d x =>
          cases x with
          | int j =>
            intro v2 H2 F2 ρ2 e2 rel2 rv2
            have h2 : TPost K ca H F ρ (match st2[n]? with
              | some (.lst xs) => (match ixN xs.length j with
                | some k => some (env, setC st2 n (.lst (xs.set k s)))
                | none => none)
              | _ => none) Q := h1
            cases q3 : st2[n]? with
            | none => rw [q3] at h2; exact h2.elim
            | some c0 =>
              rw [q3] at h2
              cases c0 with
              | frz xs => exact h2.elim
              | obj c fs => exact h2.elim
              | dct kvs => exact h2.elim
              | lst xs =>
                have h3 : TPost K ca H F ρ (match ixN xs.length j with
                  | some k => some (env, setC st2 n (.lst (xs.set k s)))
                  | none => none) Q := h2
                cases q4 : ixN xs.length j with
                | none => rw [q4] at h3; exact h3.elim
                | some k =>
                  rw [q4] at h3
                  cases (srep_d rv2)
                  have rv1' := rv1.ext e2
                  obtain ⟨a, vs, ha, rfl, fa, Ha, rs⟩ := lst_inv rel2 rv1' q3
                  have E1 : Ext ρ2 H2 F2 ρ2 (upd H2 a (.lst (vs.set k v))) F2 := Ext.set ha
                  refine ⟨a, vs, j, k, rfl, rfl, Ha, by rw [Paired.length rs]; exact q4, ?_⟩
                  exact h3 σ _ F2 ρ2 ((e1.trans e2).trans E1) (rel2.set ha fa ⟨fa, _, upd_same, SReps.ext E1 (Paired.setL ((rv.ext e1).ext e2) k rs)⟩) (((eok.ext e1).ext e2).ext E1)
          | _ => exact h1.elim
end
end PV

namespace PV
open PySem L2 PySem.Spec PyProof.Rows
section
variable {K : PySem.W.Frag} {ca : Nat → Addr} {W : WX} {H F H' F' : Hp} {ρ ρ' : List Addr} {st : Sto} {G : Ctx} {σ : L2.St} {D : Ends} {wf : Nat} {Q : VK}
theorem xk_imp {E E' : XK} {c : Nat} {p : List (Str × PyData)} (k : ∀ a b d, E a b d → E' a b d) (h : xk K ca E c p F H) : xk K ca E' c p F H := by
  cases p with
  | nil => exact k _ _ _ h
  | cons a b => exact fun d vfs h1 h2 => k _ _ _ (h d vfs h1 h2)
theorem tE_W0 {r : Ev → Sto → Rs Sv} (h : tE K ca W0 r σ H Q) : tE K ca W r σ H Q := by
  obtain ⟨F, ρ, st, env, rel, eok, h⟩ := h
  refine ⟨F, ρ, st, env, rel, eok, ?_⟩
  cases q : r env st with
  | bad => rw [q] at h; exact h.elim
  | ok w st1 => rw [q] at h; exact h
  | exc c p st1 => rw [q] at h; exact fun H' F' ρ' e r => xk_imp (fun _ _ _ z => z.elim) (h H' F' ρ' e r)
theorem ts_setf {o e : CE} {f : Str} (C : ClsOk K ca G) (h : tS K ca W (evS G wf (.set (.fld o f) e)) D σ H) : sFld K (tE K ca W (evE G o)) (tE K ca W (evE G e)) f D σ H := by
  have h2 := ts_set h
  obtain ⟨F, ρ, st, env, rel, eok, p⟩ := h2
  exact ⟨F, ρ, st, env, rel, eok, p.imp fun v H1 q => tE_W0 (tg_fld C q)⟩
theorem ts_drop {e : CE} (h : tS K ca W (evS G wf (.drop e)) D σ H) : tDrop (tE K ca W (evE G e)) D σ H := by
  obtain ⟨F, ρ, st, env, rel, eok, h⟩ := h
  have h' : SPost K ca W H F ρ (lift env (evE G e env st) fun _ st1 => .next env st1) D := h
  exact ⟨F, ρ, st, env, rel, eok, h'.lift eok fun s st1 v H1 F1 ρ1 _ e1 rel1 rv p1 => s_next p1 rel1 (eok.ext e1)⟩
theorem ts_ret {e : CE} (h : tS K ca W (evS G wf (.ret e)) D σ H) : tRet (tE K ca W (evE G e)) D σ H := by
  obtain ⟨F, ρ, st, env, rel, eok, h⟩ := h
  have h' : SPost K ca W H F ρ (lift env (evE G e env st) fun s st1 => .ret s st1) D := h
  exact ⟨F, ρ, st, env, rel, eok, h'.lift eok fun s st1 v H1 F1 ρ1 _ e1 rel1 rv p1 => p1 v H1 F1 ρ1 (Ext.refl _ _ _) rel1 rv⟩
theorem ts_retN (h : tS K ca W (evS G wf .retN) D σ H) : tRetN D σ H := by
  obtain ⟨F, ρ, st, env, rel, eok, h⟩ := h
  exact h .non H F ρ (Ext.refl _ _ _) rel .non
theorem ts_brk (h : tS K ca W (evS G wf .brk) D σ H) : D.bk σ H := by
  obtain ⟨F, ρ, st, env, rel, eok, h⟩ := h
  exact h σ H F ρ (Ext.refl _ _ _) rel eok
theorem ts_cont (h : tS K ca W (evS G wf .cont) D σ H) : D.ct σ H := by
  obtain ⟨F, ρ, st, env, rel, eok, h⟩ := h
  exact h σ H F ρ (Ext.refl _ _ _) rel eok
theorem ts_nil (h : tS K ca W (evSs G wf []) D σ H) : D.nx σ H := by
  obtain ⟨F, ρ, st, env, rel, eok, h⟩ := h
  exact h σ H F ρ (Ext.refl _ _ _) rel eok
theorem ts_cons {s : CS} {r : List CS} (h : tS K ca W (evSs G wf (s :: r)) D σ H) : tSeq (tS K ca W (evS G wf s)) (tS K ca W (evSs G wf r)) D σ H := by
  obtain ⟨F, ρ, st, env, rel, eok, h⟩ := h
  have h' : SPost K ca W H F ρ (match evS G wf s env st with
    | .next env1 st1 => evSs G wf r env1 st1
    | x => x) D := h
  refine ⟨F, ρ, st, env, rel, eok, ?_⟩
  cases q : evS G wf s env st with
  | next env1 st1 =>
    rw [q] at h'
    exact fun σ1 H1 F1 ρ1 e1 rel1 eok1 => ⟨F1, ρ1, st1, env1, rel1, eok1, SPost.ext (r := evSs G wf r env1 st1) h' e1⟩
  | brk env1 st1 => rw [q] at h'; exact h'
  | cont env1 st1 => rw [q] at h'; exact h'
  | ret w st1 => rw [q] at h'; exact h'
  | exc c p env1 st1 => rw [q] at h'; exact h'
  | bad => rw [q] at h'; exact h'
theorem onT_post {env : Ev} {r : Rs Sv} {kt kf : Sto → SRs} {QB : Bool → Hp → Prop} (eok : EnvOk K F ρ σ env) (h : SPost K ca W H F ρ (onT r env kt kf) D)
    (f : ∀ b st1 H1 F1 ρ1, Ext ρ H F ρ1 H1 F1 → Rel K ca H1 F1 ρ1 st1 → SPost K ca W H1 F1 ρ1 (if b = true then kt st1 else kf st1) D → QB b H1) : Post K ca (at_ W σ) H F ρ r fun v H1 => ∃ b, v = .bl b ∧ QB b H1 := by
  cases r with
  | bad => exact h.elim
  | exc c p st1 => exact fun H2 F2 ρ2 e2 r2 => h σ H2 F2 ρ2 e2 r2 (eok.ext e2)
  | ok w st1 =>
    cases w with
    | r n => exact h.elim
    | d x =>
      cases x with
      | bool b =>
        cases b with
        | true => exact fun v H1 F1 ρ1 e1 rel1 rv => ⟨true, srep_bool rv, f true st1 H1 F1 ρ1 e1 rel1 (by rw [if_pos rfl]; exact SPost.ext (r := kt st1) h e1)⟩
        | false => exact fun v H1 F1 ρ1 e1 rel1 rv => ⟨false, srep_bool rv, f false st1 H1 F1 ρ1 e1 rel1 (by rw [if_neg Bool.false_ne_true]; exact SPost.ext (r := kf st1) h e1)⟩
      | _ => exact h.elim
theorem ts_ite {c : CE} {a b : List CS} (h : tS K ca W (evS G wf (.ite c a b)) D σ H) : tIfS (tTe K ca W (evE G c)) (tS K ca W (evSs G wf a)) (tS K ca W (evSs G wf b)) D σ H := by
  obtain ⟨F, ρ, st, env, rel, eok, h⟩ := h
  have h' : SPost K ca W H F ρ (onT (evE G c env st) env (fun st1 => evSs G wf a env st1) fun st1 => evSs G wf b env st1) D := h
  refine ⟨F, ρ, st, env, rel, eok, onT_post (QB := fun b' H1 => if b' = true then tS K ca W (evSs G wf a) D σ H1 else tS K ca W (evSs G wf b) D σ H1) eok h' fun b' st1 H1 F1 ρ1 e1 rel1 p => ?_⟩
  cases b' with
  | true => rw [if_pos rfl] at p ⊢; exact ⟨F1, ρ1, st1, env, rel1, eok.ext e1, p⟩
  | false => rw [if_neg Bool.false_ne_true] at p ⊢; exact ⟨F1, ρ1, st1, env, rel1, eok.ext e1, p⟩
theorem after_post {r : SRs} {k : Ev → Sto → SRs} {N : L2.St → Hp → Prop} (h : SPost K ca W H F ρ (afterB r k) D)
    (f : ∀ env st σ' H' F' ρ', Ext ρ H F ρ' H' F' → Rel K ca H' F' ρ' st → EnvOk K F' ρ' σ' env → SPost K ca W H' F' ρ' (k env st) D → N σ' H') : SPost K ca W H F ρ r { D with nx := N, ct := N, bk := D.nx } := by
  cases r with
  | next env st => exact fun σ1 H1 F1 ρ1 e1 rel1 eok1 => f env st σ1 H1 F1 ρ1 e1 rel1 eok1 (SPost.ext (r := k env st) h e1)
  | cont env st => exact fun σ1 H1 F1 ρ1 e1 rel1 eok1 => f env st σ1 H1 F1 ρ1 e1 rel1 eok1 (SPost.ext (r := k env st) h e1)
  | brk env st => exact h
  | ret w st => exact h
  | exc c p env st => exact h
  | bad => exact h
theorem ts_whl {c : CE} {b : List CS} (h : tS K ca W (evS G wf (.whl c b)) D σ H) : tWhile (tTe K ca W (evE G c)) (tS K ca W (evSs G wf b)) D σ H := by
  obtain ⟨F, ρ, st, env, rel, eok, h⟩ := h
  refine ⟨fun m σ H => ∃ F ρ st env, Rel K ca H F ρ st ∧ EnvOk K F ρ σ env ∧ SPost K ca W H F ρ (loopW (fun env st => evE G c env st) (fun env st => evSs G wf b env st) m env st) D, ⟨wf, F, ρ, st, env, rel, eok, h⟩, ?_⟩
  rintro m σ H ⟨F, ρ, st, env, rel, eok, h⟩
  cases m with
  | zero => exact h.elim
  | succ m =>
    have h' : SPost K ca W H F ρ (onT (evE G c env st) env (fun st1 => afterB (evSs G wf b env st1) fun env2 st2 => loopW (fun env st => evE G c env st) (fun env st => evSs G wf b env st) m env2 st2) fun st1 => .next env st1) D := h
    refine ⟨F, ρ, st, env, rel, eok, onT_post eok h' fun b' st1 H1 F1 ρ1 e1 rel1 p => ?_⟩
    cases b' with
    | false =>
      rw [if_neg Bool.false_ne_true] at p ⊢
      exact s_next p rel1 (eok.ext e1)
    | true =>
      rw [if_pos rfl] at p ⊢
      refine ⟨fun σ H => ∃ F ρ st env, Rel K ca H F ρ st ∧ EnvOk K F ρ σ env ∧ SPost K ca W H F ρ (loopW (fun env st => evE G c env st) (fun env st => evSs G wf b env st) m env st) D, fun σ' H' w => ⟨m, Nat.lt_succ_self m, w⟩, F1, ρ1, st1, env, rel1, eok.ext e1, ?_⟩
      exact after_post p fun env2 st2 σ2 H2 F2 ρ2 e2 rel2 eok2 q => ⟨F2, ρ2, st2, env2, rel2, eok2, q⟩
theorem ts_fr {t : CT} {it : CI} {b : List CS} (h : tS K ca W (evS G wf (.fr t it b)) D σ H) : tFor (tI K ca W (evI G it)) (tG K ca (evT G t)) (tS K ca W (evSs G wf b)) D σ H := by
  obtain ⟨F, ρ, st, env, rel, eok, h⟩ := h
  have h' : SPost K ca W H F ρ (match evI G it env st with
    | .ok xs st1 => loopF (fun x env st => evT G t (.d x) env st) (fun env st => evSs G wf b env st) xs env st1
    | .exc c p st1 => .exc c p env st1
    | .bad => .bad) D := h
  refine ⟨F, ρ, st, env, rel, eok, ?_⟩
  cases q : evI G it env st with
  | bad => rw [q] at h'; exact h'.elim
  | exc c p st1 => rw [q] at h'; exact fun H2 F2 ρ2 e2 r2 => h' σ H2 F2 ρ2 e2 r2 (eok.ext e2)
  | ok xs st1 =>
    rw [q] at h'
    intro J H1 F1 ρ1 e1 rel1 wk
    have h1 : SPost K ca W H1 F1 ρ1 (loopF (fun x env st => evT G t (.d x) env st) (fun env st => evSs G wf b env st) xs env st1) D := SPost.ext h' e1
    refine ⟨fun i m σ H => m = xs.length - i ∧ i ≤ xs.length ∧ ∃ F ρ st env, Rel K ca H F ρ st ∧ EnvOk K F ρ σ env ∧ Wk K F J xs ∧ SPost K ca W H F ρ (loopF (fun x env st => evT G t (.d x) env st) (fun env st => evSs G wf b env st) (xs.drop i) env st) D,
      ⟨xs.length, by simp, Nat.zero_le _, F1, ρ1, st1, env, rel1, eok.ext e1, wk, h1⟩, ?_⟩
    rintro i m σ H ⟨rfl, hi, F, ρ, st, env, rel, eok, wk, h⟩
    obtain ⟨w1, w2, w3⟩ := wk F H (fun _ _ z => z) rel.sub
    by_cases hil : i < xs.length
    · obtain ⟨x, hx⟩ : ∃ x, xs[i]? = some x := ⟨xs[i], List.getElem?_eq_getElem hil⟩
      have hdrop : xs.drop i = x :: xs.drop (i + 1) := by
        rw [List.drop_eq_getElem_cons hil]
        rw [List.getElem?_eq_getElem hil] at hx
        cases hx
        rfl
      rw [hdrop] at h
      refine .inr ⟨w1 i hil, fun σ H => ∃ F ρ st env, Rel K ca H F ρ st ∧ EnvOk K F ρ σ env ∧ Wk K F J xs ∧ SPost K ca W H F ρ (loopF (fun x env st => evT G t (.d x) env st) (fun env st => evSs G wf b env st) (xs.drop (i + 1)) env st) D, fun σ' H' w => ⟨xs.length - (i + 1), by omega, rfl, hil, w⟩, fun v H2 hy => ?_⟩
      obtain ⟨F2, hF2, dv⟩ := w3 i v H2 x hy hx
      have step : Ext ρ H F ρ H2 F2 ∧ Rel K ca H2 F2 ρ st := by
        rcases hF2 with ⟨rfl, rfl⟩ | ⟨p, o, hp, rfl, rfl⟩
        · exact ⟨Ext.refl _ _ _, rel⟩
        · exact ⟨Ext.fresh hp (rel.fnone hp), rel.fresh hp⟩
      obtain ⟨ex2, rel2⟩ := step
      have h2 : SPost K ca W H F ρ (match evT G t (.d x) env st with
        | some (env1, st1) => afterB (evSs G wf b env1 st1) fun env2 st2 => loopF (fun x env st => evT G t (.d x) env st) (fun env st => evSs G wf b env st) (xs.drop (i + 1)) env2 st2
        | none => .bad) D := h
      refine ⟨F2, ρ, st, env, .d x, rel2, eok.ext ex2, dv, ?_⟩
      cases q2 : evT G t (.d x) env st with
      | none => rw [q2] at h2; exact h2.elim
      | some pr =>
        rw [q2] at h2
        intro σ3 H3 F3 ρ3 e3 rel3 eok3
        refine ⟨F3, ρ3, pr.2, pr.1, rel3, eok3, ?_⟩
        have h3 := SPost.ext h2 (ex2.trans e3)
        exact after_post h3 fun env4 st4 σ4 H4 F4 ρ4 e4 rel4 eok4 q4 => ⟨F4, ρ4, st4, env4, rel4, eok4, wk.mono ((ex2.trans e3).trans e4).ff, q4⟩
    · have hie : i = xs.length := by omega
      subst hie
      rw [List.drop_length] at h
      exact .inl ⟨w2 _ (Nat.le_refl _), s_next h rel eok⟩
/-! xs.append(e), xs.extend(e) -/
def rExtR : V → List V → Hp → VK → Prop := fun x vs H Q => ∃ l b xs zs, x = .ref l ∧ vs = [.ref b] ∧ H l = some (.lst xs) ∧ Rd H b (.lst zs) ∧ xs.length + zs.length ≤ sizeLine ∧ Q .non (upd H l (.lst (xs ++ zs)))
theorem mt_extR {X : Cx} : MtR X "list.extend" rExtR := by
  intro pins s σ H x vs v us Q I rx rv h
  obtain ⟨l, b, xs, zs, rfl, rfl, hH, hB, hz, q⟩ := h
  cases rx
  obtain ⟨u, rfl, ru⟩ := rv.one
  cases ru
  obtain ⟨z, its, n, r, hl, e⟩ := I.lstM hH
  obtain ⟨z2, its2, n2, r2, e2⟩ := hB.ok I.hok
  have hl2 := r2.length
  have hsz : its.toArray.size + its2.toArray.size ≤ sizeLine := by rw [List.size_toArray, List.size_toArray]; omega
  have hlong : ¬ (!its.toArray.isEmpty && Builtin.List.listTooLong (its.toArray.size + its2.toArray.size)) = true := by
    rw [notLongL hsz, Bool.and_false]
    exact Bool.false_ne_true
  refine call_meets F.slot_list_extend ⟨_, e, rfl⟩ F.entry_list_extend (F.args_list_extend_2 _ _)
    (AutoSeq1.list_extend_list_list_0 l its.toArray n b its2.toArray n2 hlong (by rw [List.size_toArray]; omega) (by omega)) ⟨e, e2, ?_⟩
  refine ⟨.non, _, I.lset (its' := its ++ its2) hH e (by simp) (r.append r2) ?_, rfl, q⟩
  rw [List.length_append]
  omega
theorem sreps_append : ∀ {vs vs' : List V} {xs xs' : List Sv}, SReps K F ρ vs xs → SReps K F ρ vs' xs' → SReps K F ρ (vs ++ vs') (xs ++ xs')
  | _, _, _, _, .nil, s => s
  | _, _, _, _, .cons a r, s => .cons a (sreps_append r s)
theorem lstS_go {o : Option Cell} {k : List Sv → SRs} (h : SPost K ca W H F ρ (match o with
      | some (.lst xs) => k xs
      | _ => .bad) D) : ∃ xs, o = some (.lst xs) ∧ SPost K ca W H F ρ (k xs) D := by
  cases o with
  | none => exact h.elim
  | some c0 =>
    cases c0 with
    | lst xs => exact ⟨xs, rfl, h⟩
    | frz xs => exact h.elim
    | obj c' fs => exact h.elim
    | dct kvs => exact h.elim
theorem ts_app {o e : CE} (h : tS K ca W (evS G wf (.app o e)) D σ H) : tDrop (tBM K "list" rAppend (tE K ca W (evE G o)) (tEs K ca W (evEs G [e]))) D σ H := by
  obtain ⟨F, ρ, st, env, rel, eok, h⟩ := h
  have h' : SPost K ca W H F ρ (lift env (evE G o env st) fun so st1 => (match so with
    | .r n => (match st1[n]? with
      | some (.lst _) => lift env (evE G e env st1) fun s st2 => (match st2[n]? with
        | some (.lst xs) => (match decide (xs.length < 1000000) with
          | true => .next env (setC st2 n (.lst (xs ++ [s])))
          | false => .bad)
        | _ => .bad)
      | _ => .bad)
    | _ => .bad)) D := h
  refine ⟨F, ρ, st, env, rel, eok, h'.lift eok fun so st1 v H1 F1 ρ1 _ e1 rel1 rv p1 => ?_⟩
  cases so with
  | d x => exact p1.elim
  | r n =>
    obtain ⟨xs0, q0, p2⟩ := lstS_go (k := fun _ => lift env (evE G e env st1) fun s st2 => (match st2[n]? with
        | some (.lst xs) => (match decide (xs.length < 1000000) with
          | true => .next env (setC st2 n (.lst (xs ++ [s])))
          | false => .bad)
        | _ => .bad)) p1
    obtain ⟨a, vs, ha, rfl, fa, Ha, rs⟩ := lst_inv rel1 rv q0
    refine ⟨.inl ⟨rfl, vs, .inl (.inl Ha)⟩, F1, ρ1, st1, env, rel1, eok.ext e1, ?_⟩
    show PostA K ca (at_ W σ) H1 F1 ρ1 ((evE G e env st1).bind fun s st1 => .ok [s] st1) _
    cases q : evE G e env st1 with
    | bad => rw [q] at p2; exact p2.elim
    | exc c p st2 => rw [q] at p2; exact fun H2 F2 ρ2 e2 r2 => p2 σ H2 F2 ρ2 e2 r2 ((eok.ext e1).ext e2)
    | ok s st2 =>
      rw [q] at p2
      intro ws H2 F2 ρ2 e2 rel2 rws
      match ws, rws with
      | [w], .cons rw1 .nil =>
        have p3 := SPost.ext p2 e2
        obtain ⟨xs, q3, p4⟩ := lstS_go (k := fun xs => (match decide (xs.length < 1000000) with
          | true => .next env (setC st2 n (.lst (xs ++ [s])))
          | false => .bad)) p3
        cases g : decide (xs.length < 1000000) with
        | false => rw [g] at p4; exact p4.elim
        | true =>
          rw [g] at p4
          obtain ⟨a', vs', ha', ea, fa', Ha', rs'⟩ := lst_inv rel2 (rv.ext e2) q3
          cases ea
          have hl : vs'.length = xs.length := Paired.length rs'
          have g' : xs.length < 1000000 := of_decide_eq_true g
          have l4 : (1000000 : Nat) < sizeLine := by decide
          refine ⟨a, vs', _, rfl, rfl, Ha', by omega, ?_⟩
          have E1 : Ext ρ2 H2 F2 ρ2 (upd H2 a (.lst (vs' ++ [w]))) F2 := Ext.set ha'
          exact p4 σ _ F2 ρ2 E1 (rel2.set ha' fa' ⟨fa', _, upd_same, SReps.ext E1 (Paired.snoc rw1 rs')⟩) (((eok.ext e1).ext e2).ext E1)
theorem ts_ext {o e : CE} (h : tS K ca W (evS G wf (.ext o e)) D σ H) : tDrop (tBM K "list" rExtR (tE K ca W (evE G o)) (tEs K ca W (evEs G [e]))) D σ H := by
  obtain ⟨F, ρ, st, env, rel, eok, h⟩ := h
  have h' : SPost K ca W H F ρ (lift env (evE G o env st) fun so st1 => (match so with
    | .r n => (match st1[n]? with
      | some (.lst _) => lift env (evE G e env st1) fun s st2 => (match s with
        | .d (.list ys) => (match st2[n]? with
          | some (.lst xs) => (match decide (xs.length + ys.length < 1000000) with
            | true => .next env (setC st2 n (.lst (xs ++ ys.map .d)))
            | false => .bad)
          | _ => .bad)
        | _ => .bad)
      | _ => .bad)
    | _ => .bad)) D := h
  refine ⟨F, ρ, st, env, rel, eok, h'.lift eok fun so st1 v H1 F1 ρ1 _ e1 rel1 rv p1 => ?_⟩
  cases so with
  | d x => exact p1.elim
  | r n =>
    obtain ⟨xs0, q0, p2⟩ := lstS_go (k := fun _ => lift env (evE G e env st1) fun s st2 => (match s with
        | .d (.list ys) => (match st2[n]? with
          | some (.lst xs) => (match decide (xs.length + ys.length < 1000000) with
            | true => .next env (setC st2 n (.lst (xs ++ ys.map .d)))
            | false => .bad)
          | _ => .bad)
        | _ => .bad)) p1
    obtain ⟨a, vs, ha, rfl, fa, Ha, rs⟩ := lst_inv rel1 rv q0
    refine ⟨.inl ⟨rfl, vs, .inl (.inl Ha)⟩, F1, ρ1, st1, env, rel1, eok.ext e1, ?_⟩
    show PostA K ca (at_ W σ) H1 F1 ρ1 ((evE G e env st1).bind fun s st1 => .ok [s] st1) _
    cases q : evE G e env st1 with
    | bad => rw [q] at p2; exact p2.elim
    | exc c p st2 => rw [q] at p2; exact fun H2 F2 ρ2 e2 r2 => p2 σ H2 F2 ρ2 e2 r2 ((eok.ext e1).ext e2)
    | ok s st2 =>
      rw [q] at p2
      intro ws H2 F2 ρ2 e2 rel2 rws
      cases rws with
      | cons rw1 rt =>
        cases rt
        have p3 := SPost.ext p2 e2
        cases s with
        | r m => exact p3.elim
        | d y =>
          cases y with
          | list ys =>
            obtain ⟨xs, q3, p4⟩ := lstS_go (k := fun xs => (match decide (xs.length + ys.length < 1000000) with
              | true => .next env (setC st2 n (.lst (xs ++ ys.map .d)))
              | false => .bad)) p3
            cases g : decide (xs.length + ys.length < 1000000) with
            | false => rw [g] at p4; exact p4.elim
            | true =>
              rw [g] at p4
              obtain ⟨a', vs', ha', ea, fa', Ha', rs'⟩ := lst_inv rel2 (rv.ext e2) q3
              cases ea
              obtain ⟨b, zs, rfl, hb, d⟩ := list_inv rw1
              have hl : vs'.length = xs.length := Paired.length rs'
              have hl2 := d.length
              have g' : xs.length + ys.length < 1000000 := of_decide_eq_true g
              have l4 : (1000000 : Nat) < sizeLine := by decide
              refine ⟨a, b, vs', zs, rfl, rfl, Ha', sub_r rel2.sub hb, by omega, ?_⟩
              have E1 : Ext ρ2 H2 F2 ρ2 (upd H2 a (.lst (vs' ++ zs))) F2 := Ext.set ha'
              exact p4 σ _ F2 ρ2 E1 (rel2.set ha' fa' ⟨fa', _, upd_same, SReps.ext E1 (sreps_append rs' (dreps_sreps d))⟩) (((eok.ext e1).ext e2).ext E1)
          | _ => exact p3.elim
end
end PV

namespace PV
open PySem L2 PySem.Spec PyProof.Rows
section
variable {K : PySem.W.Frag} {ca : Nat → Addr} {W : WX} {E : XK} {H F H' F' : Hp} {ρ ρ' : List Addr} {st : Sto} {G : Ctx} {σ : L2.St} {D : Ends} {wf : Nat} {Q : VK}
theorem t_frz {e : CE} (h : tE K ca W (evE G (.frz e)) σ H Q) : tE K ca W (evE G e) σ H Q := by
  obtain ⟨F, ρ, st, env, rel, eok, h⟩ := h
  have h' : Post K ca (at_ W σ) H F ρ ((evE G e env st).bind fun s st1 => (match s with
    | .d x => .ok (.d x) st1
    | .r n => (match st1[n]? with
      | some (.lst xs) => (match allD xs with
        | some ys => .ok (.d (.list ys)) (setC st1 n (.frz ys))
        | none => .bad)
      | some (.frz ys) => .ok (.d (.list ys)) st1
      | _ => .bad))) Q := h
  refine ⟨F, ρ, st, env, rel, eok, h'.bind fun so st1 v H1 F1 ρ1 _ e1 rel1 rv p1 => ?_⟩
  cases so with
  | d x => exact Post.here (w := .d x) p1 rel1 rv
  | r n =>
    have p2 : Post K ca (at_ W σ) H1 F1 ρ1 (match st1[n]? with
      | some (.lst xs) => (match allD xs with
        | some ys => .ok (.d (.list ys)) (setC st1 n (.frz ys))
        | none => .bad)
      | some (.frz ys) => .ok (.d (.list ys)) st1
      | _ => .bad) Q := p1
    cases q : st1[n]? with
    | none => rw [q] at p2; exact p2.elim
    | some c0 =>
      rw [q] at p2
      cases c0 with
      | obj c fs => exact p2.elim
      | dct kvs => exact p2.elim
      | frz ys =>
        obtain ⟨a, ha, rfl⟩ := rv
        obtain ⟨a', ha', hc⟩ := rel1.cell q
        rw [ha] at ha'
        cases ha'
        obtain ⟨vs, h2, h3⟩ := hc
        exact Post.here (w := .d (.list ys)) p2 rel1 (.lst (.inl h2) h3)
      | lst xs =>
        obtain ⟨a, vs, ha, rfl, fa, Ha, rs⟩ := lst_inv rel1 rv q
        have p3 : Post K ca (at_ W σ) H1 F1 ρ1 (match allD xs with
          | some ys => .ok (.d (.list ys)) (setC st1 n (.frz ys))
          | none => .bad) Q := p2
        cases q2 : allD xs with
        | none => rw [q2] at p3; exact p3.elim
        | some ys =>
          rw [q2] at p3
          have d := (allD_rep q2 rs).mono (sub_upd (o := .lst vs) fa)
          exact p3 _ H1 _ ρ1 (Ext.freeze ha fa) (rel1.freeze ha fa Ha ⟨vs, upd_same, d⟩) (.lst (.inl upd_same) d)
theorem part_inv {o : Option (Option Int)} {k : Option Int → Rs Sv} (h : Post K ca E H F ρ (onPart o k) Q) : ∃ l, o = some l ∧ Post K ca E H F ρ (k l) Q := by
  cases o with
  | none => exact h.elim
  | some l => exact ⟨l, rfl, h⟩
/-- a part of a slice -/
def tPt (K : PySem.W.Frag) (ca : Nat → Addr) (W : WX) (G : Ctx) : List CE → TO
  | [] => tNoPart
  | e :: _ => tPart (tE K ca W (evE G e))
theorem t_part {es : List CE} {k : Option Int → Sto → Rs Sv} {env : Ev} (hl : Nat.ble es.length 1 = true) (rel : Rel K ca H F ρ st) (eok : EnvOk K F ρ σ env) {R : Option Int → Hp → Prop} (h : Post K ca (at_ W σ) H F ρ ((evEs G es env st).bind fun sl st2 => onPart (partOf sl) fun l => k l st2) Q)
    (f : ∀ l st1 H1 F1 ρ1, Ext ρ H F ρ1 H1 F1 → Rel K ca H1 F1 ρ1 st1 → Post K ca (at_ W σ) H1 F1 ρ1 (k l st1) Q → R l H1) : tPt K ca W G es σ H R := by
  match es, hl with
  | [], _ => exact f none st H F ρ (Ext.refl _ _ _) rel h
  | [e], _ =>
    have h' : Post K ca (at_ W σ) H F ρ ((evE G e env st).bind fun s st2 => onPart (partOf [s]) fun l => k l st2) Q := by
      have e1 : (evEs G [e] env st).bind (fun sl st2 => onPart (partOf sl) fun l => k l st2) = (evE G e env st).bind fun s st2 => onPart (partOf [s]) fun l => k l st2 := by
        show (((evE G e env st).bind fun s st1 => (Rs.ok [] st1).bind fun ss st2 => .ok (s :: ss) st2).bind _) = _
        cases evE G e env st <;> rfl
      rw [e1] at h
      exact h
    refine ⟨F, ρ, st, env, rel, eok, h'.bind fun s st1 v H1 F1 ρ1 _ e1 rel1 rv p1 => ?_⟩
    cases s with
    | r n => exact p1.elim
    | d x =>
      cases x with
      | int i => cases (srep_d rv); exact ⟨i, rfl, f (some i) st1 H1 F1 ρ1 e1 rel1 p1⟩
      | _ => exact p1.elim
theorem t_slc {a : CE} {lo hi : List CE} (h1 : Nat.ble lo.length 1 = true) (h2 : Nat.ble hi.length 1 = true) (h : tE K ca W (evE G (.slc a lo hi)) σ H Q) : tSl (rSlP K) (tE K ca W (evE G a)) (tPt K ca W G lo) (tPt K ca W G hi) σ H Q := by
  obtain ⟨F, ρ, st, env, rel, eok, h⟩ := h
  have h' : Post K ca (at_ W σ) H F ρ ((evE G a env st).bind fun sa st1 => (evEs G lo env st1).bind fun sl st2 => onPart (partOf sl) fun l => (evEs G hi env st2).bind fun sh st3 => onPart (partOf sh) fun h => toRs st3 (bindO (view st3 sa) fun x => sliceD x l h)) Q := h
  refine ⟨F, ρ, st, env, rel, eok, h'.bind fun sa st1 v H1 F1 ρ1 _ e1 rel1 rv p1 => ?_⟩
  refine t_part h1 rel1 (eok.ext e1) p1 fun l st2 H2 F2 ρ2 e2 rel2 p2 => ?_
  refine t_part h2 rel2 ((eok.ext e1).ext e2) p2 fun u st3 H3 F3 ρ3 e3 rel3 p3 => ?_
  cases q : view st3 sa with
  | none => rw [q] at p3; exact p3.elim
  | some x =>
    rw [q] at p3
    have p4 : Post K ca (at_ W σ) H3 F3 ρ3 (toRs st3 (sliceD x l u)) Q := p3
    cases q2 : sliceD x l u with
    | none => rw [q2] at p4; exact p4.elim
    | some z =>
      rw [q2] at p4
      exact slice_ok rel3 (view_rep rel3 ((rv.ext e2).ext e3) q) q2 p4
/-! x += e -/
def Ip2 (K : PySem.W.Frag) (ca : Nat → Addr) (ti : TIp) (p : Prim) : Prop := ∀ (E : XK) (H F : Hp) (ρ : List Addr) (st : Sto) (x y : V) (dx dy z : PyData) (Q : VK), Rel K ca H F ρ st → VRep K H F x dx → VRep K H F y dy → prim p [dx, dy] = some z → Post K ca E H F ρ (.ok (.d z) st) Q → ti x y H Q
theorem ip_data {i : Nat} {p : Prim} {e : CE} {env : Ev} (h : SPost K ca W H F ρ (evS G wf (.aug i p e) env st) D) : ∃ x, env[i]? = some (some (.d x)) ∧ SPost K ca W H F ρ (lift env (evE G e env st) fun s st1 => (match s with
      | .d y => (match prim p [x, y] with
        | some z => .next (env.set i (some (.d z))) st1
        | none => .bad)
      | _ => .bad)) D := by
  have h' : SPost K ca W H F ρ (match env[i]? with
    | some (some (.d x)) => lift env (evE G e env st) fun s st1 => (match s with
      | .d y => (match prim p [x, y] with
        | some z => .next (env.set i (some (.d z))) st1
        | none => .bad)
      | _ => .bad)
    | _ => .bad) D := h
  cases q : env[i]? with
  | none => rw [q] at h'; exact h'.elim
  | some o =>
    rw [q] at h'
    cases o with
    | none => exact h'.elim
    | some s =>
      cases s with
      | r n => exact h'.elim
      | d x => exact ⟨x, rfl, h'⟩
theorem ts_aug {i : Nat} {p : Prim} {e : CE} {ti : TIp} (hp : Ip2 K ca ti p) (h : tS K ca W (evS G wf (.aug i p e)) D σ H) : tAug i (tE K ca W (evE G e)) ti D σ H := by
  obtain ⟨F, ρ, st, env, rel, eok, h⟩ := h
  obtain ⟨x, hx, h'⟩ := ip_data h
  obtain ⟨v, hv, rx⟩ := eok.2 i _ hx
  refine ⟨v, hv, F, ρ, st, env, rel, eok, h'.lift eok fun s st1 w H1 F1 ρ1 _ e1 rel1 rw1 p1 => ?_⟩
  cases s with
  | r n => exact p1.elim
  | d y =>
    have p2 : SPost K ca W H1 F1 ρ1 (match prim p [x, y] with
        | some z => .next (env.set i (some (.d z))) st1
        | none => .bad) D := p1
    cases q : prim p [x, y] with
    | none => rw [q] at p2; exact p2.elim
    | some z =>
      rw [q] at p2
      refine hp (at_ W σ) H1 F1 ρ1 st1 v w x y z _ rel1 (DRep.v rel1.sub (rx.ext e1)) (DRep.v rel1.sub rw1) q fun u H2 F2 ρ2 e2 rel2 ru => ?_
      exact p2 _ H2 F2 ρ2 e2 rel2 (((eok.ext e1).ext e2).set i ru)
theorem augF_go {c : Nat} {f : Str} {fs : List (Str × Sv)} {k : PyData → SRs} (h : SPost K ca W H F ρ (match G.fld c f, fs.lookup f with
        | true, some (.d x) => k x
        | _, _ => .bad) D) : G.fld c f = true ∧ ∃ x, fs.lookup f = some (.d x) ∧ SPost K ca W H F ρ (k x) D := by
  cases q1 : G.fld c f with
  | false => rw [q1] at h; exact h.elim
  | true =>
    cases q2 : fs.lookup f with
    | none => rw [q1, q2] at h; exact h.elim
    | some s =>
      cases s with
      | r n => rw [q1, q2] at h; exact h.elim
      | d x => rw [q1, q2] at h; exact ⟨rfl, x, rfl, h⟩
theorem objS_go {o : Option Cell} {k : Nat → List (Str × Sv) → SRs} (h : SPost K ca W H F ρ (match o with
      | some (.obj c fs) => k c fs
      | _ => .bad) D) : ∃ c fs, o = some (.obj c fs) ∧ SPost K ca W H F ρ (k c fs) D := by
  cases o with
  | none => exact h.elim
  | some c0 =>
    cases c0 with
    | lst xs => exact h.elim
    | frz xs => exact h.elim
    | obj c' fs => exact ⟨c', fs, rfl, h⟩
    | dct kvs => exact h.elim
def Io2 (K : PySem.W.Frag) (ca : Nat → Addr) (ti : V → V → Hp → VK → Prop) (p : Prim) : Prop := Ip2 K ca ti p
theorem ts_augF {o e : CE} {f : Str} {p : Prim} {ti : V → V → Hp → VK → Prop} (C : ClsOk K ca G) (hp : Io2 K ca ti p) (h : tS K ca W (evS G wf (.augF o f p e)) D σ H) : sFldAug K (tE K ca W (evE G o)) (tE K ca W (evE G e)) ti f D σ H := by
  obtain ⟨F, ρ, st, env, rel, eok, h⟩ := h
  have h' : SPost K ca W H F ρ (lift env (evE G o env st) fun so st1 => (match so with
    | .r n => (match st1[n]? with
      | some (.obj c fs) => (match G.fld c f, fs.lookup f with
        | true, some (.d x) => lift env (evE G e env st1) fun s st2 => (match s, st2[n]? with
          | .d y, some (.obj c2 fs2) => (match prim p [x, y], decide (c2 = c ∧ fs2.length < 1000) with
            | some z, true => .next env (setC st2 n (.obj c (putS f (.d z) fs2)))
            | _, _ => .bad)
          | _, _ => .bad)
        | _, _ => .bad)
      | _ => .bad)
    | _ => .bad)) D := h
  refine ⟨F, ρ, st, env, rel, eok, h'.lift eok fun so st1 v H1 F1 ρ1 _ e1 rel1 rv p1 => ?_⟩
  cases so with
  | d x => exact p1.elim
  | r n =>
    obtain ⟨c, fs, q0, p2⟩ := objS_go (k := fun c fs => (match G.fld c f, fs.lookup f with
        | true, some (.d x) => lift env (evE G e env st1) fun s st2 => (match s, st2[n]? with
          | .d y, some (.obj c2 fs2) => (match prim p [x, y], decide (c2 = c ∧ fs2.length < 1000) with
            | some z, true => .next env (setC st2 n (.obj c (putS f (.d z) fs2)))
            | _, _ => .bad)
          | _, _ => .bad)
        | _, _ => .bad)) p1
    obtain ⟨g, x, hx, p3⟩ := augF_go (k := fun x => lift env (evE G e env st1) fun s st2 => (match s, st2[n]? with
          | .d y, some (.obj c2 fs2) => (match prim p [x, y], decide (c2 = c ∧ fs2.length < 1000) with
            | some z, true => .next env (setC st2 n (.obj c (putS f (.d z) fs2)))
            | _, _ => .bad)
          | _, _ => .bad)) p2
    obtain ⟨a, dx, vfs, ha, rfl, fa, Ha, fr⟩ := obj_inv rel1 rv q0
    obtain ⟨w, hw, rw1⟩ := frep_some fr hx
    obtain ⟨k1, k2⟩ := C.cls c f g
    refine ⟨a, ca c, dx, vfs, w, rfl, Ha, k1, k2, hw, F1, ρ1, st1, env, rel1, eok.ext e1, p3.lift (eok.ext e1) fun s st2 y H2 F2 ρ2 _ e2 rel2 ry p4 => ?_⟩
    cases s with
    | r m => exact p4.elim
    | d dy =>
      cases q4 : st2[n]? with
      | none => rw [q4] at p4; exact p4.elim
      | some c0 =>
        cases c0 with
        | lst xs => rw [q4] at p4; exact p4.elim
        | frz xs => rw [q4] at p4; exact p4.elim
        | dct kvs => rw [q4] at p4; exact p4.elim
        | obj c2 fs2 =>
          rw [q4] at p4
          have p5 : SPost K ca W H2 F2 ρ2 (match prim p [x, dy], decide (c2 = c ∧ fs2.length < 1000) with
            | some z, true => .next env (setC st2 n (.obj c (putS f (.d z) fs2)))
            | _, _ => .bad) D := p4
          cases q5 : prim p [x, dy] with
          | none => rw [q5] at p5; exact p5.elim
          | some z =>
            cases q6 : decide (c2 = c ∧ fs2.length < 1000) with
            | false => rw [q5, q6] at p5; exact p5.elim
            | true =>
              rw [q5, q6] at p5
              obtain ⟨rfl, hl⟩ : c2 = c ∧ fs2.length < 1000 := of_decide_eq_true q6
              refine hp (at_ W σ) H2 F2 ρ2 st2 w y x dy z _ rel2 (DRep.v rel2.sub (SRep.ext e2 rw1)) (DRep.v rel2.sub ry) q5 fun u H3 F3 ρ3 e3 rel3 ru => ?_
              obtain ⟨a', dx', vfs', ha', ea, fa', Ha', fr'⟩ := obj_inv rel3 ((rv.ext e2).ext e3) q4
              cases ea
              have hl' : vfs'.length = fs2.length := Paired.length fr'
              refine ⟨dx', vfs', Ha', by omega, ?_⟩
              have E1 : Ext ρ3 H3 F3 ρ3 (upd H3 a (.ins (ca c2) dx' (putF f u vfs'))) F3 := Ext.set ha'
              exact p5 σ _ F3 ρ3 (e3.trans E1) (rel3.set ha' fa' ⟨fa', dx', _, upd_same, frep_ext E1 (frep_put (s := .d z) ru fr')⟩) ((((eok.ext e1).ext e2).ext e3).ext E1)
theorem ip_addP : Ip2 K ca (fun x y H Q => rI0 (fun i j => .int (i + j)) x y H Q ∨ (∃ i j, x = .str i ∧ y = .str j ∧ i.length + j.length ≤ sizeLine ∧ Q (.str (i ++ j)) H)) .iadd := by
  intro E H F ρ st x y dx dy z Q rel rx ry e h
  cases rx with
  | int i =>
    cases ry with
    | int j => cases e; exact .inl ⟨i, j, rfl, rfl, here_int h rel⟩
    | _ => cases e
  | str i =>
    cases ry with
    | str j =>
      obtain ⟨g, e2⟩ := guard1_some e
      subst e2
      exact .inr ⟨i, j, rfl, rfl, line_le g, here_str h rel⟩
    | _ => cases e
  | _ => cases e
theorem ip_subP : Ip2 K ca (rI0 fun i j => .int (i - j)) .sub := by
  intro E H F ρ st x y dx dy z Q rel rx ry e h
  cases rx with
  | int i =>
    cases ry with
    | int j => cases e; exact ⟨i, j, rfl, rfl, here_int h rel⟩
    | _ => cases e
  | _ => cases e
end
end PV
namespace PV
open PySem L2 PySem.Spec PyProof.Rows RT
/-! ## list(reversed(a list)) -/
section
variable {prog : Program} {w : World} {A : Around} {E : Value → Shared → Prop} {s : Shared}
theorem rl_extend {R : Result → Shared → Prop} {it l : Addr} {items : Array Value} (hh : A.handled = none) (hit : s.heap.IsRevIter it l ((items.size : Int) - 1)) (hl : s.heap.IsList l items) (hne : l ≠ it) (hn : items.size ≤ sizeLine) (S : Addr) (hSi : S ≠ it) (hSl : S ≠ l) (c₀ : Nat) (hS : s.heap.get? S = some { cls := .type "list", data := .seq #[] c₀ })
    (hR : ∀ h' tk acc' c', (∀ b o, b ≠ S → b ≠ it → s.heap.get? b = some o → h'.get? b = some o) → h'.get? S = some { cls := .type "list", dict := none, data := .seq acc' c', slots := #[] } → ItemsOf (fun i v => items[items.size - 1 - i]? = some v) acc' items.size → R (.ok (.ret .none)) { s with heap := h', toks := tk }) :
    wpAny (model prog w) A.in1 (Builtin.List.listExtendWith (.ref S) (.ref it) .none)
      (fun fin s' => match fin with | .done f => R (.ok f) s' | .again c' => c'.quiet = true ∧ codeAny (model prog w) A c' R s') (fun e s' => R (.error e) s') s := by
  have W := (Walks.listRev (prog := prog) (w := w) (A := A.in1) hh it l hne items).toS
  have hSf : S ∉ [it, l] := by simp only [List.mem_cons, List.not_mem_nil, or_false, not_or]; exact ⟨hSi, hSl⟩
  have hT : s.TypeIs (.ref it) "list_reverseiterator" := hit.typeIs
  have h1 : Builtin.List.listSameRef (.ref S) (.ref it) = false := by simp [Builtin.List.listSameRef, hSi]
  unfold Builtin.List.listExtendWith
  refine wpAny_bind (wpAny_typeOf hT ?_)
  rw [if_neg (by rw [h1]; decide)]
  refine wpAny_bind (wpAny_pyIter_revIter hit ?_)
  refine wpAny_bind (wpAny_holding ?_)
  unfold Builtin.List.listLengthHint
  refine wpAny_bind (wpAny_specialOf hT nolen_lri ?_)
  show wpAny _ A.in1 (specialOf (Value.ref it) (Str.ofString "__length_hint__") >>= _) _ _ _
  refine wpAny_bind (wpAny_specialOf hT hint_lri ?_)
  generalize hid : ("list_reverseiterator.__length_hint__" : String) = id0
  wp_delta
  rw [show splitId id0 = some ("list_reverseiterator", "__length_hint__") from by subst hid; decide +kernel]
  subst hid
  refine wpAny_bind (wpAny_isInstance (b := true) hT (by rw [isSubtype_type]; kernel_rfl) ?_)
  refine wpAny_pure ?_
  rw [if_neg (by decide)]
  have e0 : ((items.size : Nat) : Int) - 1 - ((0 : Nat) : Int) = (items.size : Int) - 1 := by omega
  refine wpAny_pure ⟨plainId_quiet F.plain_extend_loop _, codeAny_extend_loopS W hn _ hSf _ items.size 0 _ _ _ rfl (Nat.zero_le _) ⟨Nat.zero_le _, by rw [e0]; exact hit, hl⟩ hS (ItemsOf.nil _) fun s' acc' c' hm hS' hacc => ?_⟩
  rw [Moved.eq_with hm]
  refine hR s'.heap s'.toks acc' c' (fun b o hb hb2 e => hm.heap b o (fun hmem => ?_) e) hS' hacc
  rcases List.mem_cons.mp hmem with e' | hmem
  · exact hb e'
  · exact hb2 (List.mem_singleton.mp hmem)
theorem rl_call {Q : Value → Shared → Prop} {it l : Addr} {items : Array Value} (hh : A.handled = none) (hit : s.heap.IsRevIter it l ((items.size : Int) - 1)) (hl : s.heap.IsList l items) (hne : l ≠ it) (hn : items.size ≤ sizeLine)
    (hQ : ∀ h' tk acc' c', (∀ b o, b ≠ it → s.heap.get? b = some o → h'.get? b = some o) → h'.get? s.heap.objs.size = some { cls := .type "list", dict := none, data := .seq acc' c', slots := #[] } → ItemsOf (fun i v => items[items.size - 1 - i]? = some v) acc' items.size → Q (.ref s.heap.objs.size) { s with heap := h', toks := tk }) :
    wpAny (model prog w) A (call (.type "list") [.ref it]) Q E s := by
  refine callType_codes (Q₁ := fun obj s₁ => obj = .ref s.heap.objs.size ∧ s₁ = { s with heap := s.heap.push { cls := .type "list", data := .seq #[] } }) PySem.F.called_list (PySem.F.typeCall_list_1 _) PySem.F.entry_list_init
    (code_list_new _ ⟨rfl, rfl⟩) fun obj s₁ h₁ => ?_
  obtain ⟨rfl, rfl⟩ := h₁
  obtain ⟨oi, hoi, _⟩ := id hit
  obtain ⟨ol, hol, _⟩ := id hl
  have hSi : s.heap.objs.size ≠ it := Nat.ne_of_gt (Heap.lt_size hoi)
  have hSl : s.heap.objs.size ≠ l := Nat.ne_of_gt (Heap.lt_size hol)
  have hS : (s.heap.push { cls := .type "list", data := .seq #[] }).get? s.heap.objs.size = some { cls := .type "list", data := .seq #[] } := Heap.get?_push_size _ rfl
  refine ⟨⟨_, hS, rfl⟩, PySem.F.args_list_init_2 _ _, ?_⟩
  show wpAny _ A.in1.in1 (do let old ← Builtin.List.listItems (.ref s.heap.objs.size); Builtin.List.listUpdate (.ref s.heap.objs.size) (fun _ => #[]); letGo old.toList.reverse; Builtin.List.listExtendWith (.ref s.heap.objs.size) (.ref it) .none) _ _ _
  refine wpAny_bind ?_
  unfold Builtin.List.listItems
  refine wpAny_bind (wpAny_seqItems hS rfl (wpAny_pure ?_))
  show wpAny _ _ (updateSeq s.heap.objs.size (fun _ => #[]) >>= fun _ => letGo (#[] : Array Value).toList.reverse >>= fun _ => Builtin.List.listExtendWith (.ref s.heap.objs.size) (.ref it) .none) _ _ _
  refine wpAny_bind (wpAny_updateSeq hS rfl ?_)
  have hS₂ := Heap.get?_update_self (Obj.mapSeq (fun _ => (#[] : Array Value))) hS rfl
  have oth : ∀ b o, b ≠ s.heap.objs.size → s.heap.get? b = some o → ((s.heap.push { cls := .type "list", data := .seq #[] }).update s.heap.objs.size (Obj.mapSeq (fun _ => (#[] : Array Value)))).get? b = some o :=
    fun b o hb e => (Heap.get?_update_other _ _ (Ne.symm hb)).trans (Heap.get?_push_of_some _ e)
  refine wpAny_bind (wpAny_letGo ?_)
  refine rl_extend (A := A.in1) (it := it) (l := l) (items := items) hh (hit.at fun o e => oth _ o hSi.symm e) (hl.at fun o e => oth _ o hSl.symm e) hne hn _ hSi hSl _ hS₂ fun h' tk acc' c' hk hS' hacc => ?_
  exact ⟨rfl, hQ h' tk acc' c' (fun b o hb e => hk b o (Nat.ne_of_lt (Heap.lt_size e)) hb (oth b o (Nat.ne_of_lt (Heap.lt_size e)) e)) hS' hacc⟩
end
section
variable {X : Cx}
def tLstRev (K : PySem.W.Frag) (te : TE) : TE := fun σ H Q => te σ H fun v H1 => ∃ (a : Addr) (xs : List V), v = .ref a ∧ SqL K H1 a xs ∧ ∀ q, H1 q = none → Q (.ref q) (upd H1 q (.lst xs.reverse))
theorem pe_lstRev {e : Expr} {te : TE} {p p2 pos pos2 : Pos} (hc : X.calm = true) (hg : Gl X "list") (hm : X.mg "list" = none) (hg2 : Gl X "reversed") (hm2 : X.mg "reversed" = none) (he : PE X e te)
    (hs : starEach [e] X.env = (false, eval e X.env) :: starEach [] X.env)
    (hs2 : starEach [.Call (.Name "reversed" p2) [e] [] pos2] X.env = (false, eval (.Call (.Name "reversed" p2) [e] [] pos2) X.env) :: starEach [] X.env := by rfl) :
    PE X (.Call (.Name "list" p) [.Call (.Name "reversed" p2) [e] [] pos2] [] pos) (tLstRev X.K te) := by
  refine ⟨fun pins s σ H Q I h => ?_⟩
  refine Call_ (ld_blt I hg hm boot_list (PyProof.Rows.callWith_type1 (args_cons (Call_ (ld_blt I hg2 hm2 PyProof.Rows.boot_reversed (PyProof.Rows.callWith_type1 (args_cons (thn (he.run pins s σ H _ I h) fun u s1 ⟨v, H1, I1, r1, q1⟩ => args_nil ?_) hs) hs rfl))) hs2) hs2 rfl))
  obtain ⟨a, xs, ev, hq, q⟩ := q1
  subst ev
  obtain rfl : u = Value.ref a := r1
  obtain ⟨its, rv, p', hz⟩ := I1.list hq
  refine call_reversed_list p'.isList (args_nil ?_)
  have k0 : ∀ b o, s1.heap.get? b = some o → (s1.heap.push (revObj a ((its.toArray.size : Int) - 1))).get? b = some o := fun b o e => Heap.get?_push_of_some _ e
  have I2 : Inv X pins σ H1 { s1 with heap := s1.heap.push (revObj a ((its.toArray.size : Int) - 1)) } := I1.kept (t' := s1.toks) k0
  obtain ⟨f0, f1, f2, f3, f4, f5⟩ := I1.fpOk (H' := H1) (b := s1.heap.objs.size) (Nat.le_refl _) (I1.hok.fresh (Nat.le_refl _))
  have hl := p'.isList
  obtain ⟨ol, hol, _⟩ := id hl
  have hne : a ≠ s1.heap.objs.size := Nat.ne_of_lt (Heap.lt_size hol)
  have hn : its.toArray.size ≤ sizeLine := by rw [List.size_toArray, ← rv.length]; exact hz
  refine rl_call (s := { s1 with heap := s1.heap.push (revObj a ((its.toArray.size : Int) - 1)) }) (I1.ok.hd hc) ⟨_, Heap.get?_push_size _ rfl, rfl, rfl⟩ (hl.push _) hne hn fun h' tk acc c hk hS hi => ?_
  have hnone : H1 (s1.heap.push (revObj a ((its.toArray.size : Int) - 1))).objs.size = none := I2.hok.fresh (Nat.le_refl _)
  refine ⟨.ref _, upd H1 _ (.lst xs.reverse), ?_, rfl, q _ hnone⟩
  refine Inv.turnedNew (ch := [s1.heap.objs.size]) I2 (fun b o hb e => hk b o (fun z => hb (by simp [z])) e) (fun b hb => ?_) (Nat.le_refl _) ⟨by rw [List.length_reverse]; exact hz, acc.toList, c, RT.vals_rev rv hi, ?_⟩
  · have eb : b = s1.heap.objs.size := by simpa using hb
    rw [eb]
    exact I1.fpOk (H' := H1) (b := s1.heap.objs.size) (Nat.le_refl _) (I1.hok.fresh (Nat.le_refl _))
  · rw [Array.toArray_toList]
    exact hS
end
section
variable {K : PySem.W.Frag} {ca : Nat → Addr} {W : WX} {H F : Hp} {ρ : List Addr} {st : Sto} {G : Ctx} {σ : L2.St} {Q : VK}
theorem t_lrev {a : CE} (h : tE K ca W (evE G (.lrev a)) σ H Q) : tLstRev K (tE K ca W (evE G a)) σ H Q := by
  obtain ⟨F, ρ, st, env, rel, eok, h⟩ := h
  have h' : Post K ca (at_ W σ) H F ρ ((evE G a env st).bind fun s st1 => (match view st1 s with
    | some (.list xs) => .ok (.r st1.length) (st1 ++ [.lst (xs.reverse.map .d)])
    | _ => .bad)) Q := h
  refine ⟨F, ρ, st, env, rel, eok, h'.bind fun s st1 v H1 F1 ρ1 _ e1 rel1 rv p1 => ?_⟩
  have p2 : Post K ca (at_ W σ) H1 F1 ρ1 (match view st1 s with
    | some (.list xs) => .ok (.r st1.length) (st1 ++ [.lst (xs.reverse.map .d)])
    | _ => .bad) Q := p1
  cases q : view st1 s with
  | none => rw [q] at p2; exact p2.elim
  | some x =>
    rw [q] at p2
    cases x with
    | list xs =>
      have vr := view_rep rel1 rv q
      cases vr with
      | @lst a0 vs0 ds0 ha d =>
        refine ⟨a0, vs0, rfl, .inl ha, fun p hp => ?_⟩
        have E1 : Ext ρ1 H1 F1 (ρ1 ++ [p]) (upd H1 p (.lst vs0.reverse)) F1 := Ext.cell hp
        refine p2 (.ref p) _ F1 (ρ1 ++ [p]) E1 (rel1.newCell hp ⟨rel1.fnone hp, _, upd_same, SReps.ext E1 (dreps_sreps d.reverse)⟩) ⟨p, ?_, rfl⟩
        rw [List.getElem?_append_right (by rw [rel1.len]; exact Nat.le_refl _), rel1.len, Nat.sub_self]
        rfl
    | _ => exact p2.elim
theorem tE_imp' {r : Ev → Sto → Rs Sv} {Q Q' : VK} (h : tE K ca W r σ H Q) (k : ∀ v H, Q v H → Q' v H) : tE K ca W r σ H Q' := by
  obtain ⟨F, ρ, st, env, rel, eok, h⟩ := h
  exact ⟨F, ρ, st, env, rel, eok, h.imp k⟩
/-! ### dicts whose keys are texts -/
abbrev KvRep (K : PySem.W.Frag) (F : Hp) : List (Key × V) → List (Str × PyData) → Prop := Paired fun (p : Key × V) (q : Str × PyData) => p.1 = .inr q.1 ∧ DRep K F p.2 q.2
theorem kv_get {vks : List (Key × V)} {kvs : List (Str × PyData)} {x : Str} (h : KvRep K F vks kvs) : (∀ d, lookD kvs x = some d → ∃ v, valV vks (.inr x) = some v ∧ DRep K F v d) ∧ (lookD kvs x = none → valV vks (.inr x) = none) := by
  induction h with
  | nil => exact ⟨fun d e => (nomatch e), fun _ => rfl⟩
  | @cons p q ps qs hd _ ih =>
    obtain ⟨k, v⟩ := p
    obtain ⟨z, d0⟩ := q
    obtain ⟨e1, e2⟩ := hd
    dsimp only at e1 e2
    subst e1
    by_cases hz : z = x
    · subst hz
      have l1 : lookD ((z, d0) :: qs) z = some d0 := by unfold lookD; simp [List.find?_cons]
      refine ⟨fun d e => ?_, fun e => ?_⟩
      · rw [l1] at e
        cases e
        exact ⟨v, valV_pos rfl, e2⟩
      · rw [l1] at e; cases e
    · have l1 : lookD ((z, d0) :: qs) x = lookD qs x := by unfold lookD; simp [List.find?_cons, hz]
      have l2 : valV ((Sum.inr z, v) :: ps) (.inr x : Key) = valV ps (.inr x) := valV_neg (fun e => hz (Sum.inr.inj e))
      rw [l1, l2]
      exact ih
theorem kv_any {vks : List (Key × V)} {kvs : List (Str × PyData)} {x : Str} (h : KvRep K F vks kvs) : (vks.any fun kv => decide (kv.1 = (.inr x : Key))) = kvs.any fun kv => decide (kv.1 = x) := by
  induction h with
  | nil => rfl
  | @cons p q ps qs hd _ ih =>
    rw [List.any_cons, List.any_cons, ih]
    congr 1
    rw [hd.1]
    exact decide_eq_decide.mpr ⟨fun e => Sum.inr.inj e, fun e => by rw [e]⟩
theorem kv_put {vks : List (Key × V)} {kvs : List (Str × PyData)} {x : Str} {v : V} {d : PyData} (h : KvRep K F vks kvs) (hv : DRep K F v d) : KvRep K F (putK vks (.inr x) v) (putD kvs x d) := by
  unfold putK putD
  rw [kv_any (x := x) h]
  by_cases c : (kvs.any fun kv => decide (kv.1 = x)) = true
  · rw [if_pos c, if_pos c]
    clear c
    induction h with
    | nil => exact .nil
    | @cons p q ps qs hd _ ih =>
      rw [List.map_cons, List.map_cons]
      refine .cons ?_ ih
      by_cases hz : q.1 = x
      · have hp : p.1 = .inr x := by rw [hd.1, hz]
        rw [if_pos hp, if_pos hz]
        exact ⟨hd.1, hv⟩
      · have hp : ¬ p.1 = .inr x := fun e => hz (Sum.inr.inj (hd.1.symm.trans e))
        rw [if_neg hp, if_neg hz]
        exact hd
  · rw [if_neg c, if_neg c]
    exact Paired.snoc ⟨rfl, hv⟩ h
theorem onD_inv {s : Sv} {v : V} {n : Nat} {kvs : List (Str × PyData)} (rel : Rel K ca H F ρ st) (rv : SRep K F ρ v s) (h : onD st s = some (n, kvs)) : ∃ a vks, v = .ref a ∧ ρ[n]? = some a ∧ F a = none ∧ H a = some (.dK vks) ∧ KvRep K F vks kvs := by
  cases s with
  | d x => cases h
  | r m =>
    have h' : (match st[m]? with
      | some (.dct kvs) => some (m, kvs)
      | _ => none) = some (n, kvs) := h
    cases q : st[m]? with
    | none => rw [q] at h'; cases h'
    | some c =>
      rw [q] at h'
      cases c with
      | dct k2 =>
        cases h'
        obtain ⟨a, ha, rfl⟩ := rv
        obtain ⟨a', ha', fa, vks, Ha, hp⟩ := rel.cell q
        rw [ha] at ha'
        cases ha'
        exact ⟨a, vks, rfl, ha, fa, Ha, hp⟩
      | _ => cases h'
theorem strK_inv {s : Sv} {v : V} {x : Str} (rv : SRep K F ρ v s) (h : strK s = some x) : v = kV (.inr x) := by
  cases s with
  | r n => cases h
  | d y =>
    cases y with
    | str z => cases h; cases (show DRep K F v (.str x) from rv); rfl
    | _ => cases h
theorem t_dnew (h : tE K ca W (evE G .dnew) σ H Q) : tDNewK σ H Q := by
  obtain ⟨F, ρ, st, env, rel, eok, h⟩ := h
  intro p hp
  have h' : Post K ca (at_ W σ) H F ρ (.ok (.r st.length) (st ++ [.dct []])) Q := h
  have E1 : Ext ρ H F (ρ ++ [p]) (upd H p (.dK [])) F := Ext.cell hp
  refine h' (.ref p) _ F (ρ ++ [p]) E1 (rel.newCell hp ⟨rel.fnone hp, [], upd_same, .nil⟩) ⟨p, ?_, rfl⟩
  rw [List.getElem?_append_right (by rw [rel.len]; exact Nat.le_refl _), rel.len, Nat.sub_self]
  rfl
theorem t_dget {o i : CE} (h : tE K ca W (evE G (.dget o i)) σ H Q) : tDGet (tE K ca W (evE G o)) (tE K ca W (evE G i)) σ H Q := by
  obtain ⟨F, ρ, st, env, rel, eok, h⟩ := h
  refine two_ops (k := fun so si st2 => dgetR (onD st2 so) (strK si) st2) (R := fun x y H2 => ∃ a v, x = .ref a ∧ DGet H2 a y (some v) ∧ Q v H2) rel eok h fun so si st2 x y H2 F2 ρ2 e rel2 rx ry p2 => ?_
  cases q1 : onD st2 so with
  | none => rw [q1] at p2; exact p2.elim
  | some p =>
    cases q2 : strK si with
    | none => rw [q1, q2] at p2; exact p2.elim
    | some z =>
      rw [q1, q2] at p2
      have p3 : Post K ca (at_ W σ) H2 F2 ρ2 (match lookD p.2 z with
        | some v => .ok (.d v) st2
        | none => .bad) Q := p2
      obtain ⟨a, vks, rfl, _, _, Ha, hk⟩ := onD_inv rel2 rx q1
      have ey := strK_inv ry q2
      cases q3 : lookD p.2 z with
      | none => rw [q3] at p3; exact p3.elim
      | some d =>
        rw [q3] at p3
        obtain ⟨v, hv, dv⟩ := (kv_get hk).1 d q3
        refine ⟨a, v, rfl, ?_, Post.here p3 rel2 dv⟩
        rw [ey, ← hv]
        exact DGet.k Ha
theorem t_din {neg : Bool} {i o : CE} (h : tE K ca W (evE G (.din neg i o)) σ H Q) : (neg = false → tDIn (tE K ca W (evE G i)) (tE K ca W (evE G o)) σ H Q) ∧ (neg = true → tDNotIn (tE K ca W (evE G i)) (tE K ca W (evE G o)) σ H Q) := by
  obtain ⟨F, ρ, st, env, rel, eok, h⟩ := h
  have key : tE K ca W (evE G i) σ H fun y H1 => tE K ca W (evE G o) σ H1 fun x H2 => ∃ a ov, x = .ref a ∧ DGet H2 a y ov ∧ Q (.bl (neg != ov.isSome)) H2 := by
    refine two_ops (k := fun si so st2 => dinR neg (onD st2 so) (strK si) st2) (R := fun y x H2 => ∃ a ov, x = .ref a ∧ DGet H2 a y ov ∧ Q (.bl (neg != ov.isSome)) H2) rel eok h fun si so st2 y x H2 F2 ρ2 e rel2 ry rx p2 => ?_
    cases q1 : onD st2 so with
    | none => rw [q1] at p2; exact p2.elim
    | some p =>
      cases q2 : strK si with
      | none => rw [q1, q2] at p2; exact p2.elim
      | some z =>
        rw [q1, q2] at p2
        have p3 : Post K ca (at_ W σ) H2 F2 ρ2 (.ok (.d (.bool (neg != (lookD p.2 z).isSome))) st2) Q := p2
        obtain ⟨a, vks, rfl, _, _, Ha, hk⟩ := onD_inv rel2 rx q1
        have ey := strK_inv ry q2
        refine ⟨a, valV vks (.inr z), rfl, by rw [ey]; exact DGet.k Ha, ?_⟩
        have e1 : (valV vks (.inr z : Key)).isSome = (lookD p.2 z).isSome := by
          cases q3 : lookD p.2 z with
          | none => rw [(kv_get hk).2 q3]; rfl
          | some d =>
            obtain ⟨v, hv, _⟩ := (kv_get hk).1 d q3
            rw [hv]; rfl
        rw [e1]
        exact here_bl p3 rel2
  refine ⟨fun hn => ?_, fun hn => ?_⟩
  · subst hn
    refine tE_imp' key fun y H1 q => tE_imp' q fun x H2 ⟨a, ov, e1, e2, e3⟩ => ⟨a, ov, e1, e2, ?_⟩
    rw [show (false != ov.isSome) = ov.isSome by cases ov.isSome <;> rfl] at e3
    exact e3
  · subst hn
    refine tE_imp' key fun y H1 q => tE_imp' q fun x H2 ⟨a, ov, e1, e2, e3⟩ => ⟨a, ov, e1, e2, ?_⟩
    rw [show (true != ov.isSome) = !ov.isSome by cases ov.isSome <;> rfl] at e3
    exact e3
theorem t_dgetD {o i e : CE} (h : tE K ca W (evE G (.dgetD o i e)) σ H Q) : tDGet2 (tE K ca W (evE G o)) (tE K ca W (evE G i)) (tE K ca W (evE G e)) σ H Q := by
  obtain ⟨F, ρ, st, env, rel, eok, h⟩ := h
  have h' : Post K ca (at_ W σ) H F ρ ((evE G o env st).bind fun so st1 => dck (onD st1 so) ((evE G i env st1).bind fun si st2 => (evE G e env st2).bind fun se st3 => dgetDR (onD st3 so) (strK si) se st3)) Q := h
  refine ⟨F, ρ, st, env, rel, eok, h'.bind fun so st1 x H1 F1 ρ1 _ e1 rel1 rx p1 => ?_⟩
  cases q0 : onD st1 so with
  | none => rw [q0] at p1; exact p1.elim
  | some p0 =>
    rw [q0] at p1
    obtain ⟨a, vk0, rfl, _, _, Ha0, _⟩ := onD_inv (n := p0.1) (kvs := p0.2) rel1 rx q0
    have p1' : Post K ca (at_ W σ) H1 F1 ρ1 ((evE G i env st1).bind fun si st2 => (evE G e env st2).bind fun se st3 => dgetDR (onD st3 so) (strK si) se st3) Q := p1
    refine ⟨a, rfl, .inl ⟨vk0, .inl Ha0⟩, F1, ρ1, st1, env, rel1, eok.ext e1, p1'.bind fun si st2 y H2 F2 ρ2 _ e2 rel2 ry p2 => ?_⟩
    refine ⟨F2, ρ2, st2, env, rel2, (eok.ext e1).ext e2, p2.bind fun se st3 z H3 F3 ρ3 _ e3 rel3 rz p3 => ?_⟩
    cases q1 : onD st3 so with
    | none => rw [q1] at p3; exact p3.elim
    | some p =>
      cases q2 : strK si with
      | none => rw [q1, q2] at p3; exact p3.elim
      | some k =>
        rw [q1, q2] at p3
        have p4 : Post K ca (at_ W σ) H3 F3 ρ3 (match lookD p.2 k with
          | some v => .ok (.d v) st3
          | none => .ok se st3) Q := p3
        obtain ⟨a', vks, ea, _, _, Ha, hk⟩ := onD_inv rel3 ((rx.ext e2).ext e3) q1
        cases ea
        have ey := strK_inv ry q2
        refine ⟨valV vks (.inr k), by rw [ey]; exact DGet.k Ha, ?_⟩
        cases q3 : lookD p.2 k with
        | none =>
          rw [q3] at p4
          rw [(kv_get hk).2 q3]
          exact p4 z H3 F3 ρ3 (Ext.refl _ _ _) rel3 rz
        | some d =>
          rw [q3] at p4
          obtain ⟨v, hv, dv⟩ := (kv_get hk).1 d q3
          rw [hv]
          exact Post.here p4 rel3 dv
theorem je_void {X : Cx} {e : Expr} : JE X ca W G e .void := ⟨fun pins s σ H Q I h => by
  obtain ⟨F, ρ, st, env, rel, eok, h⟩ := h
  exact h.elim⟩
theorem jt_void {X : Cx} {e : Expr} : JT X ca W G e .void := ⟨fun pins s σ H Q I h => by
  obtain ⟨F, ρ, st, env, rel, eok, h⟩ := h
  exact h.elim⟩
theorem jw_void {X : Cx} {e : Expr} : JW X ca W G e .void := ⟨fun _ pins s σ H Q I h => by
  obtain ⟨F, ρ, st, env, rel, eok, h⟩ := h
  exact h.elim⟩
end
end PV

namespace PV
open PySem L2 PySem.Spec PyProof.Rows
/-! ## The checker: a text of Python against a text of the small language -/
structure Tab where
  glo : List Str
  fns : List (Str × Nat × Nat)
  news : List (Str × Nat × Nat × Nat)
  mets : List (Nat × Str × Nat × Nat)
  excs : List (Str × Nat)
  bl : List Str
  hot : Bool
  xis : List (Str × Nat × Nat × Str) := []
def beqS (a b : Str) : Bool := decide (a = b)
def isLocal (sc : Scope) (x : Str) : Bool := match sc.names.lookup x with
  | some .local => true
  | _ => false
def isVis (sc : Scope) (x : Str) : Bool := match sc.names.lookup x with
  | some .local => true
  | some .cell => true
  | some .free => true
  | _ => false
def isGl (sc : Scope) (x : Str) : Bool := match sc.names.lookup x with
  | some .globalImplicit => true
  | _ => false
def notDbg (x : Str) : Bool := !(x == ("__debug__" : Str)) && !(x == ("__classdict__" : Str)) && !decide (x = ("__name__" : Str))
def binOk : Operator → Prim → Bool
  | .Add, .add => true
  | .Sub, .sub => true
  | .Mult, .mul => true
  | .FloorDiv, .fdiv => true
  | .Mod, .mod => true
  | _, _ => false
def cmpOk : CmpOp → Prim → Bool
  | .Eq, .eq => true
  | .NotEq, .ne => true
  | .Lt, .lt => true
  | .LtE, .le => true
  | .Gt, .gt => true
  | .GtE, .ge => true
  | .In, .isin => true
  | .NotIn, .notin => true
  | _, _ => false
def isNOk : CmpOp → Prim → Bool
  | .Is, .isN => true
  | .IsNot, .notN => true
  | _, _ => false
def dinOk : CmpOp → Bool → Bool
  | .In, false => true
  | .NotIn, true => true
  | _, _ => false
def bltOk (x : Str) : Prim → Bool
  | .len => beqS x "len"
  | .abs => beqS x "abs"
  | .int => beqS x "int"
  | .strI => beqS x "str"
  | .sum => beqS x "sum"
  | .all => beqS x "all"
  | .max => beqS x "max"
  | .toTup => beqS x "tuple"
  | .toLst => beqS x "list"
  | .sortS => beqS x "sorted"
  | _ => false
def smOk (x : Str) : Prim → Bool
  | .join => beqS x "join"
  | .startswith => beqS x "startswith"
  | .find => beqS x "find"
  | .index => beqS x "index"
  | _ => false
def tyOk (x : Str) : TyN → Bool
  | .tB => beqS x "bool"
  | .tI => beqS x "int"
  | .tS => beqS x "str"
  | .tL => beqS x "list"
  | .tT => beqS x "tuple"
/-- [el for x in iter for y in iter2] -/
def lc2P : Expr → List CE → Option (Str × Pos × Expr × Str × Pos × Expr × Scope × Expr)
  | .ListComp el [⟨.Name x p, iter, [], 0⟩, ⟨.Name y p2, iter2, [], 0⟩] scope _, [] => some (x, p, iter, y, p2, iter2, scope, el)
  | _, _ => none
/-- isinstance(a, t) -/
def isiP : Expr → Option (Str × Pos × Expr × Str × Pos)
  | .Call (.Name x p) [a, .Name y p2] [] _ => some (x, p, a, y, p2)
  | _ => none
def notCall : Expr → Bool
  | .Name _ _ => true
  | .Attribute _ _ _ => true
  | .Constant _ _ _ => true
  | .Subscript _ _ _ => true
  | _ => false
def notSlice : Expr → Bool
  | .Slice _ _ _ _ => false
  | _ => true
def notStar : Expr → Bool
  | .Starred _ _ => false
  | _ => true
def notSet : Expr → Bool
  | .Set _ _ _ => false
  | _ => true
def constOk : Const → PyData → Bool
  | .int i, .int j => decide (i = j)
  | .bool i, .bool j => i == j
  | .str i, .str j => beqS i j
  | .none, .none => true
  | _, _ => false
def relabelS (scope outer : Scope) : Scope := { scope with names := scope.names.map fun (n, k) => if (k == .free && outer.kind == .function && outer.names.lookup n == some .cell) then (n, .cell) else (n, k) }
section
variable (T : Tab) (N : List Str)
mutual
def chE : Nat → Scope → Expr → CE → Bool
  | 0, _, _, _ => false
  | n + 1, sc, e, c => match e with
    | .BoolOp _ [a] _ => chE n sc a c
    | _ => match c with
      | .var i => (match e with
        | .Name x _ => decide (N[i]? = some x) && isVis sc x && notDbg x
        | _ => false)
      | .lit d => (match e with
        | .Constant k _ _ => constOk k d
        | _ => false)
      | .glo g => (match e with
        | .Name x _ => decide (T.glo[g]? = some x) && isGl sc x && notDbg x
        | _ => false)
      | .op p cs => (match e, cs with
        | .BinOp a o b _, [c1, c2] => binOk o p && chE n sc a c1 && chE n sc b c2
        | .Compare a [o] [b] _, [c1, c2] => cmpOk o p && notSet b && chE n sc a c1 && chE n sc b c2
        | .Compare a [o] [.Constant .none _ _] _, [c1] => isNOk o p && chE n sc a c1
        | .Subscript a b _, [c1, c2] => decide (p = .idx) && notSlice b && chE n sc a c1 && chE n sc b c2
        | .UnaryOp .USub a _, [c1] => decide (p = .neg) && chE n sc a c1
        | .Call (.Name x _) (a :: as) [] _, c1 :: cs => !T.hot && (bltOk x p && T.bl.contains x && isGl sc x && notDbg x && chEs n sc (a :: as) (c1 :: cs))
        | _, _ => false)
      | .sm p o cs => (match e with
        | .Call (.Attribute v m apos) (a :: as) [] pos => smOk m p && notCall v && (apos.endLine == pos.line) && decide ((a :: as).length < 20) && chE n sc v o && chEs n sc (a :: as) cs
        | .Call (.Attribute v m apos) [] [] pos => decide (p = .isalnum) && beqS m "isalnum" && decide (cs.length = 0) && notCall v && (apos.endLine == pos.line) && chE n sc v o
        | _ => false)
      | .and_ c1 c2 => (match e with
        | .BoolOp .And (a :: b :: r) pos => chE n sc a c1 && chE n sc (.BoolOp .And (b :: r) pos) c2
        | _ => false)
      | .or_ c1 c2 => (match e with
        | .BoolOp .Or (a :: b :: r) pos => chE n sc a c1 && chE n sc (.BoolOp .Or (b :: r) pos) c2
        | _ => false)
      | .not_ c1 => (match e with
        | .UnaryOp .Not a _ => chE n sc a c1
        | _ => false)
      | .ife c1 c2 c3 => (match e with
        | .IfExp a b d _ => chE n sc a c1 && chE n sc b c2 && chE n sc d c3
        | _ => false)
      | .chain p q c1 c2 c3 => (match e with
        | .Compare a [o, o'] [b, d] _ => cmpOk o p && cmpOk o' q && notSet b && notSet d && chE n sc a c1 && chE n sc b c2 && chE n sc d c3
        | _ => false)
      | .tup cs => (match e with
        | .Tuple es _ _ => chEs n sc es cs && Nat.ble cs.length 1000
        | _ => false)
      | .lrev c1 => (match e with
        | .Call (.Name x _) [.Call (.Name y _) [a] [] _] [] _ => !T.hot && (beqS x "list" && beqS y "reversed" && T.bl.contains x && T.bl.contains y && isGl sc x && isGl sc y && notStar a && chE n sc a c1)
        | _ => false)
      | .void => true
      | .lstV cs => (match e with
        | .List es _ => chEs n sc es cs && Nat.ble cs.length 1000
        | _ => false)
      | .lstR cs => (match e with
        | .List es _ => chEs n sc es cs && Nat.ble cs.length 1000
        | _ => false)
      | .call f cs => (match e with
        | .Call (.Name x _) as [] _ => !T.hot && (T.fns.contains (x, f, cs.length) && isGl sc x && notDbg x && chEs n sc as cs)
        | _ => false)
      | .meth o c m f cs => (match e with
        | .Call (.Attribute v m' apos) as [] pos => !T.hot && (beqS m m' && T.mets.contains (c, m, f, cs.length + 1) && notCall v && (apos.endLine == pos.line) && decide (as.length < 20) && chE n sc v o && chEs n sc as cs)
        | _ => false)
      | .new c f cs => (match e with
        | .Call (.Name x _) as [] _ => !T.hot && (T.news.contains (x, c, f, cs.length + 1) && isGl sc x && notDbg x && chEs n sc as cs)
        | _ => false)
      | .fld o f => (match e with
        | .Attribute v g _ => beqS f g && notCall v && chE n sc v o
        | _ => false)
      | .pop o => (match e with
        | .Call (.Attribute v m apos) [] [] pos => beqS m "pop" && notCall v && (apos.endLine == pos.line) && chE n sc v o
        | _ => false)
      | .slc a lo hi => (match e with
        | .Subscript v (.Slice l h none _) _ => chE n sc v a && chP n sc l lo && chP n sc h hi
        | _ => false)
      | .frz c1 => chE n sc e c1
      | .lc i it cnd elt => (match e with
        | .ListComp el [⟨.Name x p, iter, ifs, 0⟩] scope _ => !T.hot && (blkC N sc scope [(x, i)] && notSet iter && isLocal (relabelS scope sc) x && chI n sc (.Name x p) iter it && chC n (relabelS scope sc) ifs cnd && chE n (relabelS scope sc) el elt)
        | _ => false)
      | .isi t c1 => (match isiP e with
        | some (x, _, a, y, _) => beqS x "isinstance" && T.bl.contains x && T.bl.contains y && isGl sc x && isGl sc y && notDbg y && tyOk y t && notStar a && chE n sc a c1
        | none => false)
      | .lc2 i it j it2 cnd elt => (match lc2P e cnd with
        | some (x, p, iter, y, p2, iter2, scope, el) => !T.hot && (blkC N sc scope [(x, i), (y, j)] && decide (i ≠ j) && notSet iter && notSet iter2 && isLocal (relabelS scope sc) x && isLocal (relabelS scope sc) y && chI n sc (.Name x p) iter it && chI n (relabelS scope sc) (.Name y p2) iter2 it2 && chE n (relabelS scope sc) el elt)
        | none => false)
      | .exIs _ => false
      | .exF _ => false
      | .dnew => (match e with
        | .Dict [] [] _ => true
        | _ => false)
      | .dget o i => (match e with
        | .Subscript a b _ => notSlice b && chE n sc a o && chE n sc b i
        | _ => false)
      | .dgetD o i d => (match e with
        | .Call (.Attribute v m apos) [a, b] [] pos => beqS m "get" && notCall v && (apos.endLine == pos.line) && notStar a && notStar b && chE n sc v o && chE n sc a i && chE n sc b d
        | _ => false)
      | .din neg i o => (match e with
        | .Compare a [op] [b] _ => dinOk op neg && notSet b && chE n sc a i && chE n sc b o
        | _ => false)
def chEs : Nat → Scope → List Expr → List CE → Bool
  | 0, _, _, _ => false
  | n + 1, sc, es, cs => match es, cs with
    | [], [] => true
    | e :: es, c :: cs => notStar e && chE n sc e c && chEs n sc es cs
    | _, _ => false
def chP : Nat → Scope → Option Expr → List CE → Bool
  | 0, _, _, _ => false
  | n + 1, sc, e, cs => match e, cs with
    | none, [] => true
    | some e, [c] => chE n sc e c
    | _, _ => false
def chC : Nat → Scope → List Expr → List CE → Bool
  | 0, _, _, _ => false
  | n + 1, sc, es, cs => match es, cs with
    | [], [] => true
    | [e], [c] => chE n sc e c
    | _, _ => false
/-- what a loop with the target tg walks -/
def chI : Nat → Scope → Expr → Expr → CI → Bool
  | 0, _, _, _, _ => false
  | n + 1, sc, tg, e, c => match c with
    | .lst c1 => chE n sc e c1
    | .tup c1 => chE n sc e c1
    | .str c1 => chE n sc e c1
    | .range cs => (match e, cs with
      | .Call (.Name x _) [a] [] _, [c1] => beqS x "range" && T.bl.contains x && isGl sc x && notStar a && chE n sc a c1
      | .Call (.Name x _) [a, b] [] _, [c1, c2] => beqS x "range" && T.bl.contains x && isGl sc x && notStar a && notStar b && chE n sc a c1 && chE n sc b c2
      | .Call (.Name x _) [a, b, d] [] _, [c1, c2, c3] => beqS x "range" && T.bl.contains x && isGl sc x && notStar a && notStar b && notStar d && chE n sc a c1 && chE n sc b c2 && chE n sc d c3
      | _, _ => false)
    | .rev c1 => (match e with
      | .Call (.Name x _) [a] [] _ => beqS x "reversed" && T.bl.contains x && isGl sc x && notStar a && chE n sc a c1
      | _ => false)
    | .enum c1 => (match e, tg with
      | .Call (.Name x _) [a] [] _, .Tuple _ _ _ => beqS x "enumerate" && T.bl.contains x && isGl sc x && notStar a && chE n sc a c1
      | _, _ => false)
end
end
end PV

namespace PV
open PySem L2 PySem.Spec PyProof.Rows
/-- what an own exception's __init__ does that keeps one field -/
def spX (K : PySem.W.Frag) (f : Str) : Sp := fun vs H Q _ => ∃ (a C : Addr) (y : V), vs = [.ref a, y] ∧ OexC K C ∧ PySem.W.findIn K (.ref C) f = some none ∧ H a = some (exo a C none) ∧ ∀ dx, H dx = none → dx ≠ a → Q .non (upd (upd H dx (exd dx [(f, y)])) a (exo a C (some dx)))
/-- what the checker takes for granted of the context -/
structure Good (X : Cx) (T : Tab) (G : Ctx) (ca : Nat → Addr) (W : WX) (k : Nat) : Prop where
  glo : ∀ (g : Nat) x, T.glo[g]? = some x → GloOk X x (G.glo g)
  fns : ∀ x f n, (x, f, n) ∈ T.fns → ∃ fa fd ps, X.mg x = some (.ref fa) ∧ PySem.W.keepIn X.K (.ref fa) = true ∧ Binds X.K fd ps [] ∧ FnOk X.prog X.w X.K X.mg X.base (L2.CX X.prog X.w) k fa fd ps (Prom X.K ca n (G.call f))
  news : ∀ x c f n, (x, c, f, n) ∈ T.news → X.mg x = some (.ref (ca c)) ∧ ∃ fi fd ps j, Mk X.K (ca c) fi ∧ Binds X.K fd ps [] ∧ j + 1 ≤ k ∧ FnOk X.prog X.w X.K X.mg X.base (L2.CX X.prog X.w) j fi fd ps (Prom X.K ca n (G.init f))
  mets : ∀ c m f n, (c, m, f, n) ∈ T.mets → Cls X.K (ca c) ∧ ∃ fa fd ps, Meth X.K (ca c) m fa ∧ Binds X.K fd ps [] ∧ FnOk X.prog X.w X.K X.mg X.base (L2.CX X.prog X.w) k fa fd ps (Prom X.K ca n (G.call f))
  excs : ∀ x c, (x, c) ∈ T.excs → X.mg x = some (.ref (ca c)) ∧ PySem.W.keepIn X.K (.ref (ca c)) = true ∧ Raises X (.ref (ca c)) ∧ PySem.W.excIn X.K (ca c) He.veBase "ValueError.__new__" = true
  bl : ∀ b, b ∈ T.bl → X.mg b = none
  cls : ClsOk X.K ca G
  room : T.hot = false → Room k X.A
  calm : T.hot = false → X.calm = true
  units : X.A.units + 1190 < cLine
  sub : ∀ a b r, G.sub a b = some r → ExcC X.K (ca a) ∧ PySem.W.exmOne X.K (.ref (ca a)) (.ref (ca b)) = some r ∧ PySem.W.kitOne X.K (.ref (ca a)) (.ref (ca b)) = some r
  xis : ∀ x c i f, (x, c, i, f) ∈ T.xis → X.mg x = some (.ref (ca c)) ∧ ∃ fa fd ps, OexC X.K (ca c) ∧ PySem.W.findIn X.K (.ref (ca c)) "__init__" = some (some (.ref fa)) ∧ PySem.W.typeIn X.K (.ref fa) = some (.type "function") ∧ PySem.W.findIn X.K (.ref (ca c)) f = some none ∧ Binds X.K fd ps [] ∧ L2.FnOk X.prog X.w X.K X.mg X.base CX0 63 fa fd ps (spX X.K f)
  xf : ∀ c f, G.xf c f = true → XfC X.K (ca c) ∧ PySem.W.findIn X.K (.ref (ca c)) f = some none
  deep : G.deep = true → 200 ≤ k
  nd : X.N.Nodup
  tk : Takes X W
  po : PassesOwn (model X.prog X.w) X.A X.env X.xe
theorem Good.blk {X : Cx} {T : Tab} {G : Ctx} {ca : Nat → Addr} {W : WX} {k : Nat} (g : Good X T G ca W k) (s : Shared) (H : Hp) (scope : Scope) (cenv : Env) (fp : List Addr) : Good (X.blk s H scope cenv fp) T G ca W0 k :=
  ⟨g.glo, g.fns, g.news, g.mets, g.excs, g.bl, g.cls, g.room, g.calm, g.units, g.sub, g.xis, g.xf, g.deep, g.nd, takes0, PassesOwn.never⟩
theorem Good.tr {X : Cx} {T : Tab} {G : Ctx} {ca : Nat → Addr} {W W' : WX} {k : Nat} (g : Good X T G ca W k) {pn : List (Addr × Obj)} {xe : Value → Shared → Prop} (tk : Takes (X.tr pn xe) W') (po : PassesOwn (model X.prog X.w) X.A X.env xe) : Good (X.tr pn xe) T G ca W' k :=
  ⟨g.glo, g.fns, g.news, g.mets, g.excs, g.bl, g.cls, g.room, g.calm, g.units, g.sub, g.xis, g.xf, g.deep, g.nd, tk, po⟩
/-- the table in an except suite: no calls, no loops -/
def Tab.hotT (T : Tab) : Tab := { T with hot := true }
theorem excs_any {X : Cx} {Y : Cx} {v : Value} (hK : X.K = Y.K) (h : Raises X v) : Raises Y v := by
  unfold Raises at *
  rw [← hK]
  exact h
theorem Good.suite {X : Cx} {T : Tab} {G : Ctx} {ca : Nat → Addr} {W : WX} {k c : Nat} {p : List (Str × PyData)} (g : Good X T G ca W k) {a : Addr} {pn : List (Addr × Obj)} : Good (X.suite a pn) T.hotT { G with exn := some c, pay := p } ca W0 k :=
  ⟨g.glo, g.fns, g.news, g.mets, g.excs, g.bl, ⟨g.cls.cls⟩, fun h => (nomatch h), fun h => (nomatch h), g.units, g.sub, g.xis, g.xf, g.deep, g.nd, takes0, PassesOwn.never⟩
section
variable {X : Cx} {ca : Nat → Addr} {W : WX} {G : Ctx} {pos : Pos}
/-! small facts -/
theorem beqS_eq {a b : Str} (h : beqS a b = true) : a = b := of_decide_eq_true h
theorem star_of {e : Expr} {es : List Expr} (h : notStar e = true) : starEach (e :: es) X.env = (false, eval e X.env) :: starEach es X.env := by
  cases e <;> first | rfl | cases h
theorem plain_of {b : Expr} (h : notSlice b = true) : PlainIx b := by
  intro o i
  cases b <;> first | rfl | cases h
theorem base_of {v : Expr} {f : Str} (h : notCall v = true) : attributeBase v f X.env (eval v X.env) = eval v X.env := by
  cases v <;> first | rfl | cases h
theorem set_of {b : Expr} {o : CmpOp} (h : notSet b = true) : behindInMarks o b = false := by
  cases b <;> first | rfl | cases h
theorem fold_of {b : Expr} {env : Env} (h : notSet b = true) (x : Value) : foldedSetIterable b env x = pure x := by
  cases b <;> first | rfl | cases h
theorem dbg_of {x : Str} (h : notDbg x = true) : (x == ("__debug__" : Str)) = false ∧ (x == ("__classdict__" : Str)) = false ∧ x ≠ "__name__" := by
  obtain ⟨h1, h3⟩ := Bool.and_eq_true_iff.mp h
  obtain ⟨h1, h2⟩ := Bool.and_eq_true_iff.mp h1
  exact ⟨by simpa using h1, by simpa using h2, by simpa using h3⟩
theorem vis_of {sc : Scope} {x : Str} (h : isVis sc x = true) : Vis sc x := by
  unfold isVis at h
  unfold Vis
  cases q : sc.names.lookup x with
  | none => rw [q] at h; cases h
  | some kd => cases kd <;> first | (rw [q] at h; cases h; done) | simp
theorem gl_of {sc : Scope} {x : Str} (hs : X.env.scope = sc) (h : isGl sc x = true) : Gl X x := by
  subst hs
  unfold isGl at h
  show X.env.scope.names.lookup x = some .globalImplicit
  cases q : X.env.scope.names.lookup x with
  | none => rw [q] at h; cases h
  | some kd => cases kd <;> first | (rw [q] at h; cases h; done) | rfl
theorem local_of {sc : Scope} {x : Str} (h : isLocal sc x = true) : sc.names.lookup x = some .local := by
  unfold isLocal at h
  cases q : sc.names.lookup x with
  | none => rw [q] at h; cases h
  | some kd => cases kd <;> first | (rw [q] at h; cases h; done) | rfl
theorem star_all {es : List Expr} (h : ∀ e ∈ es, notStar e = true) : (backTo pos (starEach es X.env)).any (·.1) = false := by
  induction es with
  | nil => rfl
  | cons e r ih =>
    rw [star_of (h e List.mem_cons_self)]
    show ((false : Bool) || (backTo pos (starEach r X.env)).any (·.1)) = false
    rw [ih fun x hx => h x (List.mem_cons_of_mem _ hx)]
    rfl
theorem star_few {es : List Expr} (h : ∀ e ∈ es, notStar e = true) (hl : es.length < 20) : ((backTo pos (starEach es X.env)).all (fun x => !x.1) && (backToKw pos (keywordEach [] X.env)).all (fun x => x.1.isSome)
      && decide (es.length + ([] : List Keyword).length + (if ([] : List Keyword).isEmpty then 0 else 1) < 30)) = true := by
  have a : (backTo pos (starEach es X.env)).all (fun x => !x.1) = true := by
    have q := star_all (X := X) (pos := pos) h
    rw [List.all_eq_true]
    intro x hx
    rw [List.any_eq_false] at q
    simpa using q x hx
  rw [a]
  show (true && true && decide (es.length + 0 + 0 < 30)) = true
  simp
  omega
theorem tIf_t {c a b : CE} {K : PySem.W.Frag} {H : Hp} {σ : L2.St} {QB : Bool → Hp → Prop} (h : tTe K ca W (evE G (.ife c a b)) σ H QB) :
    tTe K ca W (evE G c) σ H fun d H1 => if d = true then tTe K ca W (evE G a) σ H1 QB else tTe K ca W (evE G b) σ H1 QB := by
  obtain ⟨F, ρ, st, env, rel, eok, h⟩ := h
  rw [ife_eq] at h
  refine tTe_intro rel eok _ h fun s st1 H1 F1 ρ1 e1 rel1 p1 => ?_
  obtain ⟨c, rfl, p⟩ := onB_inv p1
  refine ⟨c, rfl, ?_⟩
  cases c with
  | true => rw [if_pos rfl] at p ⊢; exact ⟨F1, ρ1, st1, env, rel1, eok.ext e1, p⟩
  | false => rw [if_neg Bool.false_ne_true] at p ⊢; exact ⟨F1, ρ1, st1, env, rel1, eok.ext e1, p⟩
theorem jt_ife {c a b : Expr} {c1 c2 c3 : CE} (hc : JT X ca W G c c1) (ha : JT X ca W G a c2) (hb : JT X ca W G b c3) : JT X ca W G (.IfExp c a b pos) (.ife c1 c2 c3) := by
  refine ⟨fun pins s σ H Q I h => ?_⟩
  refine PyProof.Rows.isTrue_IfExp (thn (hc.run pins s σ H _ I (tIf_t h)) fun d s1 ⟨H1, I1, q1⟩ => ?_)
  cases d with
  | true => exact ha.run pins s1 σ H1 Q I1 q1
  | false => exact hb.run pins s1 σ H1 Q I1 q1
theorem isN_aux {c : CE} {K : PySem.W.Frag} (p : Prim) (neg : Bool) (hp : ∀ x, prim p [x] = some (.bool (if neg then !isNone x else isNone x))) (σ : L2.St) (H : Hp) (Q : VK) (h : tE K ca W (evE G (.op p [c])) σ H Q) : tE K ca W (evE G c) σ H fun x H1 => Q (.bl (if neg then !decide (x = .non) else decide (x = .non))) H1 := by
  obtain ⟨F, ρ, st, env, rel, eok, h⟩ := h
  have h' : Post K ca (at_ W σ) H F ρ ((evE G c env st).bind fun s st1 => toRs st1 (bindO (views st1 [s]) (prim p))) Q := by
    have e : (evE G (.op p [c]) env st) = (evE G c env st).bind fun s st1 => toRs st1 (bindO (views st1 [s]) (prim p)) := by
      show ((((evE G c env st).bind fun s st1 => (Rs.ok [] st1).bind fun ss st2 => .ok (s :: ss) st2)).bind _) = _
      cases evE G c env st <;> rfl
    rw [e] at h
    exact h
  refine ⟨F, ρ, st, env, rel, eok, h'.bind fun s st1 v H1 F1 ρ1 _ e1 rel1 rv p1 => ?_⟩
  obtain ⟨ds, z, v1, e2, q⟩ := views_inv p1
  have hx : ∃ x, view st1 s = some x ∧ ds = [x] := by
    cases w : view st1 s with
    | none => simp only [views, w] at v1; cases v1
    | some x => simp only [views, w] at v1; cases v1; exact ⟨x, rfl, rfl⟩
  obtain ⟨x, w1, rfl⟩ := hx
  rw [hp] at e2
  cases e2
  have rx := view_rep rel1 rv w1
  have ex : decide (v = V.non) = isNone x := by cases rx <;> simp [isNone, scrD]
  rw [ex]
  exact here_bl q rel1
theorem je_isN {a : Expr} {c : CE} {j : Nat} {p' : Pos} (ha : JE X ca W G a c) : JE X ca W G (.Compare a [.Is] [.Constant .none j p'] pos) (.op .isN [c]) ∧ JE X ca W G (.Compare a [.IsNot] [.Constant .none j p'] pos) (.op .notN [c]) := by
  refine ⟨pe_imp (pe_cmp (pc_isN ha)) fun σ H Q h => ?_, pe_imp (pe_cmp (pc_notN ha)) fun σ H Q h => ?_⟩
  · exact isN_aux .isN false (fun x => rfl) σ H Q h
  · exact isN_aux .notN true (fun x => rfl) σ H Q h
theorem jt_isN {a : Expr} {c : CE} {j : Nat} {p' : Pos} (ha : JE X ca W G a c) : JT X ca W G (.Compare a [.Is] [.Constant .none j p'] pos) (.op .isN [c]) ∧ JT X ca W G (.Compare a [.IsNot] [.Constant .none j p'] pos) (.op .notN [c]) := by
  refine ⟨pt_imp (pt_cmp (pc_isN ha)) fun σ H Q h => ?_, pt_imp (pt_cmp (pc_notN ha)) fun σ H Q h => ?_⟩
  · exact isN_aux .isN false (fun x => rfl) σ H (fun v H' => ∃ b, v = .bl b ∧ Q b H') h
  · exact isN_aux .notN true (fun x => rfl) σ H (fun v H' => ∃ b, v = .bl b ∧ Q b H') h
theorem meth_ht {o : Expr} {m : Str} {apos : Pos} {args : List Expr} {env : Env} (hbase : attributeBase o m env (eval o env) = eval o env)
    (hfew : ((backTo pos (starEach args env)).all (fun x => !x.1) && (backToKw pos (keywordEach [] env)).all (fun x => x.1.isSome)
      && decide (args.length + ([] : List Keyword).length + (if ([] : List Keyword).isEmpty then 0 else 1) < 30)) = true) (hline : (apos.endLine == pos.line) = true) :
    ∃ pl, eval (.Call (.Attribute o m apos) args [] pos) env = (do
      let ov ← eval o env
      standAt apos.atName
      let (f, first) ← holding [ov] (getMethod ov m pl)
      callWith pos f first (backTo pos (starEach args env)) (backToKw pos (keywordEach [] env))) := by
  refine ⟨(do return (← importBound o env).getD true), ?_⟩
  rw [arm_eval_Call, hbase]
  have hform : methodCallForm (args.length + ([] : List Keyword).length) (backTo pos (starEach args env)) (backToKw pos (keywordEach [] env)) = true := hfew
  have hpos : methodCallPos true o env apos pos = pure pos := by unfold methodCallPos; simp [hline]
  unfold methodCall
  simp only [hform, hpos]
  rfl
end
end PV

namespace PV
open PySem L2 PySem.Spec PyProof.Rows
section
variable {X : Cx} {ca : Nat → Addr} {W : WX} {G : Ctx} {pos : Pos}
theorem bin_ok {o : Operator} {p : Prim} (h : binOk o p = true) : ∃ rr, OpR X (binaryOp o) rr ∧ Prim2 X.K ca rr p := by
  cases o <;> first
    | (cases p <;> first | (cases h; done) | exact ⟨_, op_addP, p_add⟩)
    | (cases p <;> first | (cases h; done) | exact ⟨_, op_sub, p_sub⟩)
    | (cases p <;> first | (cases h; done) | exact ⟨_, op_mul, p_mul⟩)
    | (cases p <;> first | (cases h; done) | exact ⟨_, op_fdiv, p_fdiv⟩)
    | (cases p <;> first | (cases h; done) | exact ⟨_, op_mod, p_mod⟩)
    | (cases p <;> (cases h; done))
theorem cmp_ok {o : CmpOp} {p : Prim} (hu : X.A.units + 1190 < cLine) (h : cmpOk o p = true) : ∃ rr, OpR X (compareOp o) rr ∧ Prim2 X.K ca rr p := by
  cases o <;> first
    | (cases p <;> first | (cases h; done) | exact ⟨_, op_eq.or (op_eqX hu), p_eq⟩)
    | (cases p <;> first | (cases h; done) | exact ⟨_, op_ne.or (op_neX hu), p_ne⟩)
    | (cases p <;> first | (cases h; done) | exact ⟨_, op_lt, p_lt⟩)
    | (cases p <;> first | (cases h; done) | exact ⟨_, op_le.or op_leS, p_le⟩)
    | (cases p <;> first | (cases h; done) | exact ⟨_, op_gt, p_gt⟩)
    | (cases p <;> first | (cases h; done) | exact ⟨_, op_ge, p_ge⟩)
    | (cases p <;> first | (cases h; done) | exact ⟨_, op_in_seq.or op_in_sign, p_in⟩)
    | (cases p <;> first | (cases h; done) | exact ⟨_, op_notIn_seq.or op_notIn_sign, p_notin⟩)
    | (cases p <;> (cases h; done))
theorem ba {a b : Bool} (h : (a && b) = true) : a = true ∧ b = true := Bool.and_eq_true_iff.mp h
theorem p_neg {K : PySem.W.Frag} : PrimN K ca (fun xs H Q => ∃ i, xs = [.int i] ∧ Q (.int (-i)) H) .neg := by
  intro E H F ρ st vs ds z Q rel r e h
  cases r with
  | nil => cases e
  | cons rx rt =>
    cases rt with
    | cons _ _ => cases rx <;> cases e
    | nil =>
      cases rx with
      | int i => cases e; exact ⟨i, rfl, here_int h rel⟩
      | _ => cases e
/-- a built-in by its name -/
theorem je_blt {x : Str} {p : Prim} {p' : Pos} {a : Expr} {as : List Expr} {cs : List CE} (hc : X.calm = true) (h : bltOk x p = true) (hm : X.mg x = none) (hg : Gl X x) (hd : notDbg x = true) (ha : JA X ca W G (a :: as) cs) (hs : ∀ e ∈ a :: as, notStar e = true) :
    JE X ca W G (.Call (.Name x p') (a :: as) [] pos) (.op p cs) := by
  obtain ⟨d1, d2, d3⟩ := dbg_of hd
  have he := star_of (X := X) (es := as) (hs a List.mem_cons_self)
  have hpl := star_all (X := X) (pos := pos) (es := as) fun e m => hs e (List.mem_cons_of_mem _ m)
  have aux : ∀ {id : String} {r : List V → Hp → VK → Prop}, CallR X (.builtin id) r → PrimN X.K ca r p → bootBuiltins x = some (.builtin id) → JE X ca W G (.Call (.Name x p') (a :: as) [] pos) (.op p cs) := fun hr hp hv =>
    pe_imp (pe_callB hr hg hm hv ha d3 d1 he hpl) fun _ _ _ q => t_opN hp q
  have auxT : ∀ {id : String} {r : List V → Hp → VK → Prop}, CallR X (.type id) r → PrimN X.K ca r p → bootBuiltins x = some (.type id) → JE X ca W G (.Call (.Name x p') (a :: as) [] pos) (.op p cs) := fun hr hp hv =>
    pe_imp (pe_callTy hr hg hm hv ha d3 d1 he hpl) fun _ _ _ q => t_opN hp q
  cases p <;> first
    | (cases h; done)
    | (have e := beqS_eq h; subst e; exact aux call_len p_len boot_len)
    | (have e := beqS_eq h; subst e; exact aux call_abs p_abs boot_abs)
    | (have e := beqS_eq h; subst e; exact auxT (call_int1.or call_int_str) p_int boot_int)
    | (have e := beqS_eq h; subst e; exact auxT call_str_int p_str boot_str)
    | (have e := beqS_eq h; subst e; exact auxT call_tuple_of p_tuple (by decide +kernel))
    | (have e := beqS_eq h; subst e; exact auxT call_list_of p_toLst (by decide +kernel))
    | (have e := beqS_eq h; subst e; exact aux cr_sortedS p_sortS (by decide +kernel))
    | (have e := beqS_eq h; subst e; exact aux (cr_sum hc) p_sum (by decide +kernel))
    | (have e := beqS_eq h; subst e; exact aux (cr_all hc) p_all (by decide +kernel))
    | (have e := beqS_eq h; subst e; exact aux ((cr_max hc).or (call_max2 hc)) p_max (by decide +kernel))
/-- a text's method of one argument or more -/
theorem je_sm {m : Str} {p : Prim} {v a : Expr} {as : List Expr} {o : CE} {cs : List CE} {apos : Pos} (h : smOk m p = true) (hv : notCall v = true) (hl : (apos.endLine == pos.line) = true) (hn : (a :: as).length < 20) (ho : JE X ca W G v o) (ha : JA X ca W G (a :: as) cs) (hs : ∀ e ∈ a :: as, notStar e = true) :
    JE X ca W G (.Call (.Attribute v m apos) (a :: as) [] pos) (.sm p o cs) := by
  have he := star_of (X := X) (es := as) (hs a List.mem_cons_self)
  have hpl := star_all (X := X) (pos := pos) (es := as) fun e q => hs e (List.mem_cons_of_mem _ q)
  have hfew := star_few (X := X) (pos := pos) hs hn
  have aux : ∀ {id : String} {r : V → List V → Hp → VK → Prop}, Slot "str" m id → typeOf (.builtin id) = pure (.type "method_descriptor") → MtR X id r → PrimM X.K ca r p → JE X ca W G (.Call (.Attribute v m apos) (a :: as) [] pos) (.sm p o cs) := fun sl ty hr hp =>
    pe_imp (pe_bm PySem.F.plainAttrs_str sl ty hr ho ha (base_of hv) hfew hl he hpl) fun _ _ _ q => t_sm hp q
  cases p <;> first
    | (cases h; done)
    | (have e := beqS_eq h; subst e; exact aux PySem.F.slot_str_join PySem.F.type_str_join mt_join p_join)
    | (have e := beqS_eq h; subst e; exact aux PySem.F.slot_str_startswith PySem.F.type_str_startswith mt_startswith p_startswith)
    | (have e := beqS_eq h; subst e; exact aux PySem.F.slot_str_find PySem.F.type_str_find mt_find p_find)
    | (have e := beqS_eq h; subst e; exact aux PySem.F.slot_str_index PySem.F.type_str_index mt_indexR p_index)
theorem je_isalnum {v : Expr} {o : CE} {apos : Pos} (hv : notCall v = true) (hl : (apos.endLine == pos.line) = true) (ho : JE X ca W G v o) : JE X ca W G (.Call (.Attribute v "isalnum" apos) [] [] pos) (.sm .isalnum o []) :=
  pe_imp (pe_bm0 PySem.F.plainAttrs_str PySem.F.slot_str_isalnum PySem.F.type_str_isalnum mt_isalnum ho (base_of hv) hl) fun _ _ _ q => t_sm0 p_isalnum q
theorem je_pop {v : Expr} {o : CE} {apos : Pos} (hv : notCall v = true) (hl : (apos.endLine == pos.line) = true) (ho : JE X ca W G v o) : JE X ca W G (.Call (.Attribute v "pop" apos) [] [] pos) (.pop o) :=
  pe_imp (pe_bm0 PySem.F.plainAttrs_list PySem.F.slot_list_pop PySem.F.type_list_pop mt_pop ho (base_of hv) hl) fun _ _ _ q => t_pop q
theorem je_fld {v : Expr} {f : Str} {o : CE} (C : ClsOk X.K ca G) (hv : notCall v = true) (ho : JE X ca W G v o) : JE X ca W G (.Attribute v f pos) (.fld o f) :=
  pe_imp (pe_fld ho (base_of hv)) fun _ _ _ q => t_fld C q
theorem je_call {T : Tab} {k : Nat} (g : Good X T G ca W k) (hh : T.hot = false) {x : Str} {f : Nat} {as : List Expr} {cs : List CE} {p : Pos} (h : (x, f, cs.length) ∈ T.fns) (hg : Gl X x) (hd : notDbg x = true) (ha : JA X ca W G as cs) (hs : ∀ e ∈ as, notStar e = true) (hle : as.length = cs.length) : JE X ca W G (.Call (.Name x p) as [] pos) (.call f cs) := by
  obtain ⟨fa, fd, ps, h1, h2, h3, h4⟩ := g.fns x f _ h
  obtain ⟨d1, d2, d3⟩ := dbg_of hd
  cases as with
  | nil =>
    cases cs with
    | cons _ _ => cases hle
    | nil =>
      refine pe_imp (t := fun σ H Q => Prom X.K ca 0 (G.call f) [] H Q (WE W σ)) ⟨fun pins s σ H Q I h => ?_⟩ fun σ H Q q => ?_
      · refine wpAny_Call_Name_kw (ld_glob I hg h1 ?_ d1)
        exact PySem.W.callWith_K0 I.kIn h2 (run_fnS (E := WE W) (us := []) (vs := []) h4 (g.room hh) h3 (passAt g.tk σ) I .nil h)
      · have := t_call (n := 0) rfl q
        exact t_nil this
  | cons a r =>
    have he := star_of (X := X) (es := r) (hs a List.mem_cons_self)
    have hpl := star_all (X := X) (pos := pos) (es := r) fun e m => hs e (List.mem_cons_of_mem _ m)
    exact pe_imp (pe_callS (E := WE W) h4 (g.room hh) hg h1 h2 h3 (fun σ => passAt g.tk σ) ha d1 he hpl) fun _ _ _ q => t_call rfl q
theorem je_new {T : Tab} {k : Nat} (g : Good X T G ca W k) (hh : T.hot = false) {x : Str} {c f : Nat} {as : List Expr} {cs : List CE} {p : Pos} (h : (x, c, f, cs.length + 1) ∈ T.news) (hg : Gl X x) (hd : notDbg x = true) (ha : JA X ca W G as cs) (hs : ∀ e ∈ as, notStar e = true) (hle : as.length = cs.length) : JE X ca W G (.Call (.Name x p) as [] pos) (.new c f cs) := by
  obtain ⟨h1, fi, fd, ps, j, h2, h3, hj, h4⟩ := g.news x c f _ h
  obtain ⟨d1, d2, d3⟩ := dbg_of hd
  have hr := (g.room hh).mono hj
  cases as with
  | nil =>
    cases cs with
    | cons _ _ => cases hle
    | nil => exact pe_imp (pe_makeW0 (E := WE W) h2 h4 hr hg h1 h3 (fun σ => passAt g.tk σ) (fun σ H Q q => t_nil q) d1) fun _ _ _ q => t_new rfl q
  | cons a r =>
    have he := star_of (X := X) (es := r) (hs a List.mem_cons_self)
    have hpl := star_all (X := X) (pos := pos) (es := r) fun e m => hs e (List.mem_cons_of_mem _ m)
    exact pe_imp (pe_makeW (E := WE W) h2 h4 hr hg h1 h3 (fun σ => passAt g.tk σ) ha d1 he hpl) fun _ _ _ q => t_new rfl q
theorem je_meth {T : Tab} {k : Nat} (g : Good X T G ca W k) (hh : T.hot = false) {m : Str} {c f : Nat} {v : Expr} {o : CE} {as : List Expr} {cs : List CE} {apos : Pos} (h : (c, m, f, cs.length + 1) ∈ T.mets) (hv : notCall v = true) (hl : (apos.endLine == pos.line) = true) (hn : as.length < 20) (ho : JE X ca W G v o) (ha : JA X ca W G as cs) (hs : ∀ e ∈ as, notStar e = true) (hle : as.length = cs.length) :
    JE X ca W G (.Call (.Attribute v m apos) as [] pos) (.meth o c m f cs) := by
  obtain ⟨h1, fa, fd, ps, h2, h3, h4⟩ := g.mets c m f _ h
  obtain ⟨pl, ht⟩ := meth_ht (pos := pos) (base_of (X := X) (f := m) hv) (star_few hs hn) hl
  cases as with
  | nil =>
    cases cs with
    | cons _ _ => cases hle
    | nil => exact pe_imp (pe_methW0 (E := WE W) ho h1 h2 h4 (g.room hh) h3 (fun σ => passAt g.tk σ) (fun σ H Q q => t_nil q) ht) fun _ _ _ q => t_meth rfl q
  | cons a r =>
    have he := star_of (X := X) (es := r) (hs a List.mem_cons_self)
    have hpl := star_all (X := X) (pos := pos) (es := r) fun e m => hs e (List.mem_cons_of_mem _ m)
    exact pe_imp (pe_methW (E := WE W) ho h1 h2 h4 (g.room hh) h3 (fun σ => passAt g.tk σ) ha he hpl ht) fun _ _ _ q => t_meth rfl q
theorem isiP_some {e : Expr} {x y : Str} {p p2 : Pos} {a : Expr} (h : isiP e = some (x, p, a, y, p2)) : ∃ pos, e = .Call (.Name x p) [a, .Name y p2] [] pos := by
  unfold isiP at h
  split at h
  · cases h
    exact ⟨_, rfl⟩
  · cases h
theorem lc2P_some {e : Expr} {cnd : List CE} {x y : Str} {p p2 : Pos} {iter iter2 el : Expr} {scope : Scope} (h : lc2P e cnd = some (x, p, iter, y, p2, iter2, scope, el)) : ∃ pos, cnd = [] ∧ e = .ListComp el [⟨.Name x p, iter, [], 0⟩, ⟨.Name y p2, iter2, [], 0⟩] scope pos := by
  unfold lc2P at h
  split at h
  · cases h
    exact ⟨_, rfl, rfl⟩
  · cases h
theorem ty_of {y : Str} {t : TyN} (h : tyOk y t = true) : bootBuiltins y = some (.type (tyStr t)) := by
  cases t <;> (have e := beqS_eq h; subst e; decide +kernel)
theorem je_isi {t : TyN} {c : CE} {a : Expr} {y : Str} {p p2 : Pos} (hg : Gl X "isinstance") (hm : X.mg "isinstance" = none) (hgy : Gl X y) (hmy : X.mg y = none) (hd : notDbg y = true) (ht : tyOk y t = true) (hs : notStar a = true) (ha : JE X ca W G a c) : JE X ca W G (.Call (.Name "isinstance" p) [a, .Name y p2] [] pos) (.isi t c) := by
  obtain ⟨d1, d2, d3⟩ := dbg_of hd
  have py : PE X (.Name y p2) (tC (.ty (tyStr t))) := pe_bltn hgy hmy (ty_of ht) rfl d3 d1
  exact pe_imp (pe_callB call_isi hg hm (by decide +kernel) (pa_cons ha (pa_cons py pa_nil) (star_of hs)) (by decide) (by decide) (star_of hs) rfl) fun _ _ _ q => t_isi q
end
end PV

namespace PV
open PySem L2 PySem.Spec PyProof.Rows
section
variable {T : Tab} {N : List Str} {G : Ctx} {ca : Nat → Addr} {k : Nat}
/-- what is shown of an expression -/
structure Ok (X : Cx) (ca : Nat → Addr) (W : WX) (G : Ctx) (e : Expr) (c : CE) : Prop where
  je : JE X ca W G e c
  jt : JT X ca W G e c
  jw : ∀ op vs pos, e = .BoolOp op vs pos → JW X ca W G e c
abbrev OkE (T : Tab) (N : List Str) (G : Ctx) (ca : Nat → Addr) (k n : Nat) : Prop := ∀ (X : Cx) (sc : Scope) (W : WX) (e : Expr) (c : CE), Good X T G ca W k → X.N = N → X.env.scope = sc → chE T N n sc e c = true → Ok X ca W G e c
abbrev OkEs (T : Tab) (N : List Str) (G : Ctx) (ca : Nat → Addr) (k n : Nat) : Prop := ∀ (X : Cx) (sc : Scope) (W : WX) (e : List Expr) (c : List CE), Good X T G ca W k → X.N = N → X.env.scope = sc → chEs T N n sc e c = true → JA X ca W G e c ∧ (∀ x ∈ e, notStar x = true) ∧ e.length = c.length
abbrev OkI (T : Tab) (N : List Str) (G : Ctx) (ca : Nat → Addr) (k n : Nat) : Prop := ∀ (X : Cx) (sc : Scope) (W : WX) (tg e : Expr) (c : CI), Good X T G ca W k → X.N = N → X.env.scope = sc → chI T N n sc tg e c = true → JI X ca W G tg e c
theorem Ok.plain {X : Cx} {W : WX} {e : Expr} {c : CE} (h : JE X ca W G e c) (hb : ∀ op vs pos, e ≠ .BoolOp op vs pos) (he : ∀ whole, isTrue e X.env whole = (do let v ← whole; standAt e.pos; holding [v] (truthy v))) : Ok X ca W G e c := ⟨h, jt_val h he, fun op vs pos q => absurd q (hb op vs pos)⟩
theorem chEs_ok {n : Nat} (hE : OkE T N G ca k n) (hs : OkEs T N G ca k n) : OkEs T N G ca k (n + 1) := by
  intro X sc W e c g hN hsc h
  cases e with
  | nil =>
    cases c with
    | nil => exact ⟨ja_nil, (fun _ m => nomatch m), rfl⟩
    | cons _ _ => cases h
  | cons e es =>
    cases c with
    | nil => cases h
    | cons c cs =>
      obtain ⟨h1, h2⟩ := ba (show (notStar e && chE T N n sc e c && chEs T N n sc es cs) = true from h)
      obtain ⟨h0, h1⟩ := ba h1
      obtain ⟨r1, r2, r3⟩ := hs X sc W es cs g hN hsc h2
      refine ⟨ja_cons (hE X sc W e c g hN hsc h1).je r1 (star_of h0), fun x m => ?_, by rw [List.length_cons, List.length_cons, r3]⟩
      rcases List.mem_cons.mp m with rfl | m
      · exact h0
      · exact r2 x m
theorem bl_of {x : Str} {bl : List Str} (h : bl.contains x = true) : x ∈ bl := List.contains_iff_mem.mp h
theorem chI_ok {n : Nat} (hE : OkE T N G ca k n) : OkI T N G ca k (n + 1) := by
  intro X sc W tg e c g hN hsc h
  cases c with
  | lst c1 => exact ji_lst (hE X sc W e c1 g hN hsc h).je
  | tup c1 => exact ji_tup (hE X sc W e c1 g hN hsc h).je
  | str c1 => exact ji_str (hE X sc W e c1 g hN hsc h).je
  | range cs =>
    cases e with
    | Call f as ks pos =>
      cases f with
      | Name x p =>
        cases ks with
        | cons _ _ => cases as with
          | nil => cases h
          | cons a as => cases as with
            | nil => cases h
            | cons b as => cases as with
              | nil => cases h
              | cons d as => cases as <;> cases h
        | nil =>
          cases as with
          | nil => cases h
          | cons a as =>
            cases as with
            | nil =>
              cases cs with
              | nil => cases h
              | cons c1 cs =>
                cases cs with
                | cons _ _ => cases h
                | nil =>
                  have h' : (beqS x "range" && T.bl.contains x && isGl sc x && notStar a && chE T N n sc a c1) = true := h
                  obtain ⟨h1, h5⟩ := ba h'
                  obtain ⟨h1, h4⟩ := ba h1
                  obtain ⟨h1, h3⟩ := ba h1
                  obtain ⟨h1, h2⟩ := ba h1
                  have e := beqS_eq h1
                  subst e
                  exact ji_range1 (gl_of hsc h3) (g.bl _ (bl_of h2)) (hE X sc W a c1 g hN hsc h5).je (by rw [star_of h4] <;> rfl)
            | cons b as =>
              cases as with
              | cons d as =>
                cases as with
                | cons _ _ => cases h
                | nil =>
                  cases cs with
                  | nil => cases h
                  | cons c1 cs =>
                    cases cs with
                    | nil => cases h
                    | cons c2 cs =>
                      cases cs with
                      | nil => cases h
                      | cons c3 cs =>
                        cases cs with
                        | cons _ _ => cases h
                        | nil =>
                          have h' : (beqS x "range" && T.bl.contains x && isGl sc x && notStar a && notStar b && notStar d && chE T N n sc a c1 && chE T N n sc b c2 && chE T N n sc d c3) = true := h
                          obtain ⟨h1, h9⟩ := ba h'
                          obtain ⟨h1, h8⟩ := ba h1
                          obtain ⟨h1, h7⟩ := ba h1
                          obtain ⟨h1, h6⟩ := ba h1
                          obtain ⟨h1, h5⟩ := ba h1
                          obtain ⟨h1, h4⟩ := ba h1
                          obtain ⟨h1, h3⟩ := ba h1
                          obtain ⟨h1, h2⟩ := ba h1
                          have e := beqS_eq h1
                          subst e
                          exact ji_range3 (gl_of hsc h3) (g.bl _ (bl_of h2)) (hE X sc W a c1 g hN hsc h7).je (hE X sc W b c2 g hN hsc h8).je (hE X sc W d c3 g hN hsc h9).je (star_of h4) (star_of h5) (star_of h6)
              | nil =>
                cases cs with
                | nil => cases h
                | cons c1 cs =>
                  cases cs with
                  | nil => cases h
                  | cons c2 cs =>
                    cases cs with
                    | cons _ _ => cases h
                    | nil =>
                      have h' : (beqS x "range" && T.bl.contains x && isGl sc x && notStar a && notStar b && chE T N n sc a c1 && chE T N n sc b c2) = true := h
                      obtain ⟨h1, h7⟩ := ba h'
                      obtain ⟨h1, h6⟩ := ba h1
                      obtain ⟨h1, h5⟩ := ba h1
                      obtain ⟨h1, h4⟩ := ba h1
                      obtain ⟨h1, h3⟩ := ba h1
                      obtain ⟨h1, h2⟩ := ba h1
                      have e := beqS_eq h1
                      subst e
                      exact ji_range2 (gl_of hsc h3) (g.bl _ (bl_of h2)) (hE X sc W a c1 g hN hsc h6).je (hE X sc W b c2 g hN hsc h7).je (by rw [star_of h4, star_of h5] <;> rfl) (by rw [star_of h5] <;> rfl)
      | _ => cases h
    | _ => cases h
  | rev c1 =>
    cases e with
    | Call f as ks pos =>
      cases f with
      | Name x p =>
        cases as with
        | nil => cases ks <;> cases h
        | cons a as =>
          cases as with
          | cons _ _ => cases ks <;> cases h
          | nil =>
            cases ks with
            | cons _ _ => cases h
            | nil =>
              have h' : (beqS x "reversed" && T.bl.contains x && isGl sc x && notStar a && chE T N n sc a c1) = true := h
              obtain ⟨h1, h5⟩ := ba h'
              obtain ⟨h1, h4⟩ := ba h1
              obtain ⟨h1, h3⟩ := ba h1
              obtain ⟨h1, h2⟩ := ba h1
              have e := beqS_eq h1
              subst e
              exact ji_rev (gl_of hsc h3) (g.bl _ (bl_of h2)) (hE X sc W a c1 g hN hsc h5).je (by rw [star_of h4] <;> rfl)
      | _ => cases h
    | _ => cases h
  | enum c1 =>
    cases e with
    | Call f as ks pos =>
      cases f with
      | Name x p =>
        cases as with
        | nil => cases ks <;> cases tg <;> cases h
        | cons a as =>
          cases as with
          | cons _ _ => cases ks <;> cases tg <;> cases h
          | nil =>
            cases ks with
            | cons _ _ => cases tg <;> cases h
            | nil =>
              cases tg with
              | Tuple es kk tp =>
                have h' : (beqS x "enumerate" && T.bl.contains x && isGl sc x && notStar a && chE T N n sc a c1) = true := h
                obtain ⟨h1, h5⟩ := ba h'
                obtain ⟨h1, h4⟩ := ba h1
                obtain ⟨h1, h3⟩ := ba h1
                obtain ⟨h1, h2⟩ := ba h1
                have e := beqS_eq h1
                subst e
                exact ji_enum (gl_of hsc h3) (g.bl _ (bl_of h2)) (hE X sc W a c1 g hN hsc h5).je (by rw [star_of h4] <;> rfl)
              | _ => cases h
      | _ => cases tg <;> cases h
    | _ => cases tg <;> cases h
end
end PV

namespace PV
open PySem L2 PySem.Spec PyProof.Rows
section
variable {T : Tab} {N : List Str} {G : Ctx} {ca : Nat → Addr} {k : Nat}
/-- the checker behind the look at a lone BoolOp -/
def chC1 (T : Tab) (N : List Str) (n : Nat) (sc : Scope) (e : Expr) (c : CE) : Bool := match e with
  | .BoolOp _ [a] _ => chE T N n sc a c
  | _ => chE T N (n + 1) sc e c
def loneBool : Expr → Bool
  | .BoolOp _ [_] _ => true
  | _ => false
theorem lone_of {e : Expr} (h : loneBool e = true) : ∃ op a pos, e = .BoolOp op [a] pos := by
  cases e with
  | BoolOp op vs pos =>
    cases vs with
    | nil => cases h
    | cons a vs => cases vs with
      | nil => exact ⟨op, a, pos, rfl⟩
      | cons _ _ => cases h
  | _ => cases h
theorem ok_lone {n : Nat} (hE : OkE T N G ca k n) {X : Cx} {sc : Scope} {W : WX} {op : PySem.BoolOp} {a : Expr} {pos : Pos} {c : CE} (g : Good X T G ca W k) (hN : X.N = N) (hsc : X.env.scope = sc) (h : chE T N n sc a c = true) : Ok X ca W G (.BoolOp op [a] pos) c := by
  have r := hE X sc W a c g hN hsc h
  have w : JW X ca W G (.BoolOp op [a] pos) c := by
    cases op with
    | And => exact jw_and1 r.jt
    | Or => exact jw_or1 r.jt
  exact ⟨je_one r.je, w.pt, fun op' vs pos' q => by cases q; exact w⟩
section
variable {n : Nat} {X : Cx} {sc : Scope} {W : WX} {e : Expr}
/-- each form of the small language by itself -/
theorem k_var {i : Nat} (g : Good X T G ca W k) (hN : X.N = N) (hsc : X.env.scope = sc) (hb : loneBool e = false) (h : chE T N (n + 1) sc e (.var i) = true) : Ok X ca W G e (.var i) := by
  cases e with
  | BoolOp op vs pos => cases vs with
    | nil => cases h
    | cons a vs => cases vs with
      | nil => cases hb
      | cons _ _ => cases h
  | Name x p =>
    have h' : (decide (N[i]? = some x) && isVis sc x && notDbg x) = true := h
    obtain ⟨h1, h3⟩ := ba h'
    obtain ⟨h1, h2⟩ := ba h1
    obtain ⟨d1, d2, d3⟩ := dbg_of h3
    exact .plain (je_var (by rw [hN]; exact of_decide_eq_true h1) (by rw [hsc]; exact vis_of h2) d1 d2) (fun _ _ _ q => nomatch q) fun _ => rfl
  | _ => cases h
theorem k_glo {i : Nat} (g : Good X T G ca W k) (hN : X.N = N) (hsc : X.env.scope = sc) (hb : loneBool e = false) (h : chE T N (n + 1) sc e (.glo i) = true) : Ok X ca W G e (.glo i) := by
  cases e with
  | BoolOp op vs pos => cases vs with
    | nil => cases h
    | cons a vs => cases vs with
      | nil => cases hb
      | cons _ _ => cases h
  | Name x p =>
    have h' : (decide (T.glo[i]? = some x) && isGl sc x && notDbg x) = true := h
    obtain ⟨h1, h3⟩ := ba h'
    obtain ⟨h1, h2⟩ := ba h1
    obtain ⟨d1, d2, d3⟩ := dbg_of h3
    exact .plain (je_glo (gl_of hsc h2) (g.glo i x (of_decide_eq_true h1)) d1) (fun _ _ _ q => nomatch q) fun _ => rfl
  | _ => cases h
theorem k_lit {d : PyData} (g : Good X T G ca W k) (hN : X.N = N) (hsc : X.env.scope = sc) (hb : loneBool e = false) (h : chE T N (n + 1) sc e (.lit d) = true) : Ok X ca W G e (.lit d) := by
  cases e with
  | BoolOp op vs pos => cases vs with
    | nil => cases h
    | cons a vs => cases vs with
      | nil => cases hb
      | cons _ _ => cases h
  | Constant q j p =>
    have h' : constOk q d = true := h
    cases q <;> cases d <;> first
      | (cases h'; done)
      | exact .plain je_non (fun _ _ _ q => nomatch q) fun _ => rfl
      | (have e := of_decide_eq_true h'; subst e; exact .plain je_int (fun _ _ _ q => nomatch q) fun _ => rfl)
      | (have e := beqS_eq h'; subst e; exact .plain je_str (fun _ _ _ q => nomatch q) fun _ => rfl)
      | (have e := eq_of_beq (show (_ == _) = true from h'); subst e; exact .plain je_bl (fun _ _ _ q => nomatch q) fun _ => rfl)
  | _ => cases h
theorem k_and {c1 c2 : CE} (hE : OkE T N G ca k n) (g : Good X T G ca W k) (hN : X.N = N) (hsc : X.env.scope = sc) (hb : loneBool e = false) (h : chE T N (n + 1) sc e (.and_ c1 c2) = true) : Ok X ca W G e (.and_ c1 c2) := by
  cases e with
  | BoolOp op vs pos =>
    cases vs with
    | nil => cases op <;> cases h
    | cons a vs =>
      cases vs with
      | nil => cases hb
      | cons b r =>
        cases op with
        | Or => cases h
        | And =>
          obtain ⟨h1, h2⟩ := ba (show (chE T N n sc a c1 && chE T N n sc (.BoolOp .And (b :: r) pos) c2) = true from h)
          have r1 := hE X sc W a c1 g hN hsc h1
          have r2 := hE X sc W _ c2 g hN hsc h2
          have w := jw_and r1.jt (r2.jw _ _ _ rfl)
          exact ⟨je_and r1.je r2.je, w.pt, fun op' vs pos' q => by cases q; exact w⟩
  | _ => cases h
theorem k_or {c1 c2 : CE} (hE : OkE T N G ca k n) (g : Good X T G ca W k) (hN : X.N = N) (hsc : X.env.scope = sc) (hb : loneBool e = false) (h : chE T N (n + 1) sc e (.or_ c1 c2) = true) : Ok X ca W G e (.or_ c1 c2) := by
  cases e with
  | BoolOp op vs pos =>
    cases vs with
    | nil => cases op <;> cases h
    | cons a vs =>
      cases vs with
      | nil => cases hb
      | cons b r =>
        cases op with
        | And => cases h
        | Or =>
          obtain ⟨h1, h2⟩ := ba (show (chE T N n sc a c1 && chE T N n sc (.BoolOp .Or (b :: r) pos) c2) = true from h)
          have r1 := hE X sc W a c1 g hN hsc h1
          have r2 := hE X sc W _ c2 g hN hsc h2
          have w := jw_or r1.jt (r2.jw _ _ _ rfl)
          exact ⟨je_or r1.je r2.je, w.pt, fun op' vs pos' q => by cases q; exact w⟩
  | _ => cases h
theorem k_not {c1 : CE} (hE : OkE T N G ca k n) (g : Good X T G ca W k) (hN : X.N = N) (hsc : X.env.scope = sc) (hb : loneBool e = false) (h : chE T N (n + 1) sc e (.not_ c1) = true) : Ok X ca W G e (.not_ c1) := by
  cases e with
  | BoolOp op vs pos => cases vs with
    | nil => cases h
    | cons a vs => cases vs with
      | nil => cases hb
      | cons _ _ => cases h
  | UnaryOp op a pos =>
    cases op with
    | Not =>
      have r1 := hE X sc W a c1 g hN hsc h
      exact ⟨je_not r1.je, jt_not r1.jt, fun _ _ _ q => nomatch q⟩
    | _ => cases h
  | _ => cases h
theorem k_ife {c1 c2 c3 : CE} (hE : OkE T N G ca k n) (g : Good X T G ca W k) (hN : X.N = N) (hsc : X.env.scope = sc) (hb : loneBool e = false) (h : chE T N (n + 1) sc e (.ife c1 c2 c3) = true) : Ok X ca W G e (.ife c1 c2 c3) := by
  cases e with
  | BoolOp op vs pos => cases vs with
    | nil => cases h
    | cons a vs => cases vs with
      | nil => cases hb
      | cons _ _ => cases h
  | IfExp a b d pos =>
    obtain ⟨h1, h3⟩ := ba (show (chE T N n sc a c1 && chE T N n sc b c2 && chE T N n sc d c3) = true from h)
    obtain ⟨h1, h2⟩ := ba h1
    have r1 := hE X sc W a c1 g hN hsc h1
    have r2 := hE X sc W b c2 g hN hsc h2
    have r3 := hE X sc W d c3 g hN hsc h3
    exact ⟨je_ife r1.jt r2.je r3.je, jt_ife r1.jt r2.jt r3.jt, fun _ _ _ q => nomatch q⟩
  | _ => cases h
theorem k_chain {p q : Prim} {c1 c2 c3 : CE} (hE : OkE T N G ca k n) (g : Good X T G ca W k) (hN : X.N = N) (hsc : X.env.scope = sc) (hb : loneBool e = false) (h : chE T N (n + 1) sc e (.chain p q c1 c2 c3) = true) : Ok X ca W G e (.chain p q c1 c2 c3) := by
  cases e with
  | BoolOp op vs pos => cases vs with
    | nil => cases h
    | cons a vs => cases vs with
      | nil => cases hb
      | cons _ _ => cases h
  | Compare a os bs pos =>
    match os, bs, h with
    | [o, o'], [b, d], h =>
      obtain ⟨h1, h7⟩ := ba (show (cmpOk o p && cmpOk o' q && notSet b && notSet d && chE T N n sc a c1 && chE T N n sc b c2 && chE T N n sc d c3) = true from h)
      obtain ⟨h1, h6⟩ := ba h1
      obtain ⟨h1, h5⟩ := ba h1
      obtain ⟨h1, h4⟩ := ba h1
      obtain ⟨h1, h3⟩ := ba h1
      obtain ⟨h1, h2⟩ := ba h1
      obtain ⟨rr, o1, p1⟩ := cmp_ok (X := X) (ca := ca) g.units h1
      obtain ⟨rr', o2, p2⟩ := cmp_ok (X := X) (ca := ca) g.units h2
      have r1 := hE X sc W a c1 g hN hsc h5
      have r2 := hE X sc W b c2 g hN hsc h6
      have r3 := hE X sc W d c3 g hN hsc h7
      have hm : lastMarks [o, o'] [b, d] = false := set_of h4
      exact ⟨je_chain o1 o2 p1 p2 r1.je r2.je r3.je hm, jt_chain o1 o2 p1 p2 r1.je r2.je r3.je hm, fun _ _ _ q => nomatch q⟩
  | _ => cases h
theorem k_op {p : Prim} {cs : List CE} (hE : OkE T N G ca k n) (hs : OkEs T N G ca k n) (g : Good X T G ca W k) (hN : X.N = N) (hsc : X.env.scope = sc) (hb : loneBool e = false) (h : chE T N (n + 1) sc e (.op p cs) = true) : Ok X ca W G e (.op p cs) := by
  cases e with
  | BoolOp op vs pos => cases vs with
    | nil => cases h
    | cons a vs => cases vs with
      | nil => cases hb
      | cons _ _ => cases h
  | BinOp a o b pos =>
    match cs, h with
    | [c1, c2], h =>
      obtain ⟨h1, h3⟩ := ba (show (binOk o p && chE T N n sc a c1 && chE T N n sc b c2) = true from h)
      obtain ⟨h1, h2⟩ := ba h1
      obtain ⟨rr, o1, p1⟩ := bin_ok (X := X) (ca := ca) h1
      exact .plain (je_bin o1 p1 (hE X sc W a c1 g hN hsc h2).je (hE X sc W b c2 g hN hsc h3).je) (fun _ _ _ q => nomatch q) fun _ => rfl
  | Subscript a b pos =>
    match cs, h with
    | [c1, c2], h =>
      obtain ⟨h1, h4⟩ := ba (show (decide (p = .idx) && notSlice b && chE T N n sc a c1 && chE T N n sc b c2) = true from h)
      obtain ⟨h1, h3⟩ := ba h1
      obtain ⟨h1, h2⟩ := ba h1
      have e := of_decide_eq_true h1
      subst e
      exact .plain (je_idx (hE X sc W a c1 g hN hsc h3).je (hE X sc W b c2 g hN hsc h4).je (plain_of h2)) (fun _ _ _ q => nomatch q) fun _ => rfl
  | UnaryOp op a pos =>
    cases op with
    | USub =>
      match cs, h with
      | [c1], h =>
        obtain ⟨h1, h2⟩ := ba (show (decide (p = .neg) && chE T N n sc a c1) = true from h)
        have e := of_decide_eq_true h1
        subst e
        have r1 := hE X sc W a c1 g hN hsc h2
        refine .plain (pe_imp (pe_un un_neg r1.je) fun σ H Q q => ?_) (fun _ _ _ q => nomatch q) fun _ => rfl
        have q2 := t_opN p_neg q
        obtain ⟨F, ρ, st, env, rel, eok, h⟩ := q2
        refine ⟨F, ρ, st, env, rel, eok, ?_⟩
        have h' : PostA X.K ca (at_ W σ) H F ρ ((evE G c1 env st).bind fun s st1 => (Rs.ok [] st1).bind fun ss st2 => .ok (s :: ss) st2) _ := h
        refine h'.bind fun s st1 v H1 F1 ρ1 _ e1 rel1 rv p1 => ?_
        obtain ⟨i, ei, qi⟩ := p1 [v] H1 F1 ρ1 (Ext.refl _ _ _) rel1 (.cons rv .nil)
        cases ei
        exact ⟨i, rfl, qi⟩
    | _ => cases cs <;> cases h
  | Compare a os bs pos =>
    match os, bs, cs, h with
    | [o], [b], [c1, c2], h =>
      obtain ⟨h1, h4⟩ := ba (show (cmpOk o p && notSet b && chE T N n sc a c1 && chE T N n sc b c2) = true from h)
      obtain ⟨h1, h3⟩ := ba h1
      obtain ⟨h1, h2⟩ := ba h1
      obtain ⟨rr, o1, p1⟩ := cmp_ok (X := X) (ca := ca) g.units h1
      have r1 := hE X sc W a c1 g hN hsc h3
      have r2 := hE X sc W b c2 g hN hsc h4
      exact ⟨je_cmp o1 p1 (set_of h2) r1.je r2.je, jt_cmp o1 p1 (set_of h2) r1.je r2.je, fun _ _ _ q => nomatch q⟩
    | [o], [b], [c1], h =>
      cases b with
      | Constant q j p' =>
        cases q with
        | none =>
          obtain ⟨h1, h2⟩ := ba (show (isNOk o p && chE T N n sc a c1) = true from h)
          have r1 := hE X sc W a c1 g hN hsc h2
          cases o <;> first
            | (cases p <;> first | (cases h1; done) | exact ⟨(je_isN r1.je).1, (jt_isN r1.je).1, fun _ _ _ q => nomatch q⟩)
            | (cases p <;> first | (cases h1; done) | exact ⟨(je_isN r1.je).2, (jt_isN r1.je).2, fun _ _ _ q => nomatch q⟩)
            | (cases p <;> (cases h1; done))
        | _ => cases h
      | _ => cases h
  | Call f as ks pos =>
    match f, as, ks, cs, h with
    | .Name x p', a :: as, [], c1 :: cs, h =>
      obtain ⟨hh, h⟩ := ba (show (!T.hot && (bltOk x p && T.bl.contains x && isGl sc x && notDbg x && chEs T N n sc (a :: as) (c1 :: cs))) = true from h)
      obtain ⟨h1, h5⟩ := ba h
      obtain ⟨h1, h4⟩ := ba h1
      obtain ⟨h1, h3⟩ := ba h1
      obtain ⟨h1, h2⟩ := ba h1
      obtain ⟨r1, r2, r3⟩ := hs X sc W _ _ g hN hsc h5
      exact .plain (je_blt (g.calm (by simpa using hh)) h1 (g.bl _ (bl_of h2)) (gl_of hsc h3) h4 r1 r2) (fun _ _ _ q => nomatch q) fun _ => rfl
  | _ => cases cs <;> cases h
end
end
end PV

namespace PV
open PySem L2 PySem.Spec PyProof.Rows
section
variable {T : Tab} {N : List Str} {G : Ctx} {ca : Nat → Addr} {k : Nat}
abbrev OkP (T : Tab) (N : List Str) (G : Ctx) (ca : Nat → Addr) (k n : Nat) : Prop := ∀ (X : Cx) (sc : Scope) (W : WX) (e : Option Expr) (c : List CE), Good X T G ca W k → X.N = N → X.env.scope = sc → chP T N n sc e c = true → PO X e (tPt X.K ca W G c) ∧ Nat.ble c.length 1 = true
theorem chP_ok {n : Nat} (hE : OkE T N G ca k n) : OkP T N G ca k (n + 1) := by
  intro X sc W e c g hN hsc h
  match e, c, h with
  | none, [], _ => exact ⟨po_none, rfl⟩
  | some e, [c], h => exact ⟨po_some (hE X sc W e c g hN hsc h).je, rfl⟩
section
variable {n : Nat} {X : Cx} {sc : Scope} {W : WX} {e : Expr}
theorem k_sm {p : Prim} {o : CE} {cs : List CE} (hE : OkE T N G ca k n) (hs : OkEs T N G ca k n) (g : Good X T G ca W k) (hN : X.N = N) (hsc : X.env.scope = sc) (hb : loneBool e = false) (h : chE T N (n + 1) sc e (.sm p o cs) = true) : Ok X ca W G e (.sm p o cs) := by
  cases e with
  | BoolOp op vs pos => cases vs with
    | nil => cases h
    | cons a vs => cases vs with
      | nil => cases hb
      | cons _ _ => cases h
  | Call f as ks pos =>
    match f, as, ks, h with
    | .Attribute v m apos, a :: as, [], h =>
      obtain ⟨h1, h6⟩ := ba (show (smOk m p && notCall v && (apos.endLine == pos.line) && decide ((a :: as).length < 20) && chE T N n sc v o && chEs T N n sc (a :: as) cs) = true from h)
      obtain ⟨h1, h5⟩ := ba h1
      obtain ⟨h1, h4⟩ := ba h1
      obtain ⟨h1, h3⟩ := ba h1
      obtain ⟨h1, h2⟩ := ba h1
      obtain ⟨r1, r2, r3⟩ := hs X sc W _ _ g hN hsc h6
      exact .plain (je_sm h1 h2 h3 (of_decide_eq_true h4) (hE X sc W v o g hN hsc h5).je r1 r2) (fun _ _ _ q => nomatch q) fun _ => rfl
    | .Attribute v m apos, [], [], h =>
      obtain ⟨h1, h6⟩ := ba (show (decide (p = .isalnum) && beqS m "isalnum" && decide (cs.length = 0) && notCall v && (apos.endLine == pos.line) && chE T N n sc v o) = true from h)
      obtain ⟨h1, h5⟩ := ba h1
      obtain ⟨h1, h4⟩ := ba h1
      obtain ⟨h1, h3⟩ := ba h1
      obtain ⟨h1, h2⟩ := ba h1
      have e1 := of_decide_eq_true h1
      have e2 := beqS_eq h2
      have e3 := List.length_eq_zero_iff.mp (of_decide_eq_true h3)
      subst e1 e2 e3
      exact .plain (je_isalnum h4 h5 (hE X sc W v o g hN hsc h6).je) (fun _ _ _ q => nomatch q) fun _ => rfl
  | _ => cases h
theorem k_tup {cs : List CE} (hs : OkEs T N G ca k n) (g : Good X T G ca W k) (hN : X.N = N) (hsc : X.env.scope = sc) (hb : loneBool e = false) (h : chE T N (n + 1) sc e (.tup cs) = true) : Ok X ca W G e (.tup cs) := by
  cases e with
  | BoolOp op vs pos => cases vs with
    | nil => cases h
    | cons a vs => cases vs with
      | nil => cases hb
      | cons _ _ => cases h
  | Tuple es j pos =>
    obtain ⟨h1, h2⟩ := ba (show (chEs T N n sc es cs && Nat.ble cs.length 1000) = true from h)
    exact .plain (je_tup (hs X sc W _ _ g hN hsc h1).1 h2) (fun _ _ _ q => nomatch q) fun _ => rfl
  | _ => cases h
theorem k_lstV {cs : List CE} (hs : OkEs T N G ca k n) (g : Good X T G ca W k) (hN : X.N = N) (hsc : X.env.scope = sc) (hb : loneBool e = false) (h : chE T N (n + 1) sc e (.lstV cs) = true) : Ok X ca W G e (.lstV cs) := by
  cases e with
  | BoolOp op vs pos => cases vs with
    | nil => cases h
    | cons a vs => cases vs with
      | nil => cases hb
      | cons _ _ => cases h
  | List es pos =>
    obtain ⟨h1, h2⟩ := ba (show (chEs T N n sc es cs && Nat.ble cs.length 1000) = true from h)
    exact .plain (je_lstV (hs X sc W _ _ g hN hsc h1).1 h2) (fun _ _ _ q => nomatch q) fun _ => rfl
  | _ => cases h
theorem k_lstR {cs : List CE} (hs : OkEs T N G ca k n) (g : Good X T G ca W k) (hN : X.N = N) (hsc : X.env.scope = sc) (hb : loneBool e = false) (h : chE T N (n + 1) sc e (.lstR cs) = true) : Ok X ca W G e (.lstR cs) := by
  cases e with
  | BoolOp op vs pos => cases vs with
    | nil => cases h
    | cons a vs => cases vs with
      | nil => cases hb
      | cons _ _ => cases h
  | List es pos =>
    obtain ⟨h1, h2⟩ := ba (show (chEs T N n sc es cs && Nat.ble cs.length 1000) = true from h)
    exact .plain (je_lstR (hs X sc W _ _ g hN hsc h1).1 h2) (fun _ _ _ q => nomatch q) fun _ => rfl
  | _ => cases h
theorem memF {α : Type} [BEq α] [LawfulBEq α] {x : α} {xs : List α} (h : xs.contains x = true) : x ∈ xs := List.contains_iff_mem.mp h
theorem k_call {f : Nat} {cs : List CE} (hs : OkEs T N G ca k n) (g : Good X T G ca W k) (hN : X.N = N) (hsc : X.env.scope = sc) (hb : loneBool e = false) (h : chE T N (n + 1) sc e (.call f cs) = true) : Ok X ca W G e (.call f cs) := by
  cases e with
  | BoolOp op vs pos => cases vs with
    | nil => cases h
    | cons a vs => cases vs with
      | nil => cases hb
      | cons _ _ => cases h
  | Call fe as ks pos =>
    match fe, ks, h with
    | .Name x p, [], h =>
      obtain ⟨hh, h⟩ := ba (show (!T.hot && (T.fns.contains (x, f, cs.length) && isGl sc x && notDbg x && chEs T N n sc as cs)) = true from h)
      obtain ⟨h1, h4⟩ := ba h
      obtain ⟨h1, h3⟩ := ba h1
      obtain ⟨h1, h2⟩ := ba h1
      obtain ⟨r1, r2, r3⟩ := hs X sc W _ _ g hN hsc h4
      exact .plain (je_call g (by simpa using hh) (memF h1) (gl_of hsc h2) h3 r1 r2 r3) (fun _ _ _ q => nomatch q) fun _ => rfl
  | _ => cases h
theorem k_new {c f : Nat} {cs : List CE} (hs : OkEs T N G ca k n) (g : Good X T G ca W k) (hN : X.N = N) (hsc : X.env.scope = sc) (hb : loneBool e = false) (h : chE T N (n + 1) sc e (.new c f cs) = true) : Ok X ca W G e (.new c f cs) := by
  cases e with
  | BoolOp op vs pos => cases vs with
    | nil => cases h
    | cons a vs => cases vs with
      | nil => cases hb
      | cons _ _ => cases h
  | Call fe as ks pos =>
    match fe, ks, h with
    | .Name x p, [], h =>
      obtain ⟨hh, h⟩ := ba (show (!T.hot && (T.news.contains (x, c, f, cs.length + 1) && isGl sc x && notDbg x && chEs T N n sc as cs)) = true from h)
      obtain ⟨h1, h4⟩ := ba h
      obtain ⟨h1, h3⟩ := ba h1
      obtain ⟨h1, h2⟩ := ba h1
      obtain ⟨r1, r2, r3⟩ := hs X sc W _ _ g hN hsc h4
      exact .plain (je_new g (by simpa using hh) (memF h1) (gl_of hsc h2) h3 r1 r2 r3) (fun _ _ _ q => nomatch q) fun _ => rfl
  | _ => cases h
theorem k_meth {o : CE} {c : Nat} {m : Str} {f : Nat} {cs : List CE} (hE : OkE T N G ca k n) (hs : OkEs T N G ca k n) (g : Good X T G ca W k) (hN : X.N = N) (hsc : X.env.scope = sc) (hb : loneBool e = false) (h : chE T N (n + 1) sc e (.meth o c m f cs) = true) : Ok X ca W G e (.meth o c m f cs) := by
  cases e with
  | BoolOp op vs pos => cases vs with
    | nil => cases h
    | cons a vs => cases vs with
      | nil => cases hb
      | cons _ _ => cases h
  | Call fe as ks pos =>
    match fe, ks, h with
    | .Attribute v m' apos, [], h =>
      obtain ⟨hh, h⟩ := ba (show (!T.hot && (beqS m m' && T.mets.contains (c, m, f, cs.length + 1) && notCall v && (apos.endLine == pos.line) && decide (as.length < 20) && chE T N n sc v o && chEs T N n sc as cs)) = true from h)
      obtain ⟨h1, h7⟩ := ba h
      obtain ⟨h1, h6⟩ := ba h1
      obtain ⟨h1, h5⟩ := ba h1
      obtain ⟨h1, h4⟩ := ba h1
      obtain ⟨h1, h3⟩ := ba h1
      obtain ⟨h1, h2⟩ := ba h1
      have e1 := beqS_eq h1
      subst e1
      obtain ⟨r1, r2, r3⟩ := hs X sc W _ _ g hN hsc h7
      exact .plain (je_meth g (by simpa using hh) (memF h2) h3 h4 (of_decide_eq_true h5) (hE X sc W v o g hN hsc h6).je r1 r2 r3) (fun _ _ _ q => nomatch q) fun _ => rfl
  | _ => cases h
theorem k_fld {o : CE} {f : Str} (hE : OkE T N G ca k n) (g : Good X T G ca W k) (hN : X.N = N) (hsc : X.env.scope = sc) (hb : loneBool e = false) (h : chE T N (n + 1) sc e (.fld o f) = true) : Ok X ca W G e (.fld o f) := by
  cases e with
  | BoolOp op vs pos => cases vs with
    | nil => cases h
    | cons a vs => cases vs with
      | nil => cases hb
      | cons _ _ => cases h
  | Attribute v f' pos =>
    obtain ⟨h1, h3⟩ := ba (show (beqS f f' && notCall v && chE T N n sc v o) = true from h)
    obtain ⟨h1, h2⟩ := ba h1
    have e1 := beqS_eq h1
    subst e1
    exact .plain (je_fld g.cls h2 (hE X sc W v o g hN hsc h3).je) (fun _ _ _ q => nomatch q) fun _ => rfl
  | _ => cases h
theorem k_pop {o : CE} (hE : OkE T N G ca k n) (g : Good X T G ca W k) (hN : X.N = N) (hsc : X.env.scope = sc) (hb : loneBool e = false) (h : chE T N (n + 1) sc e (.pop o) = true) : Ok X ca W G e (.pop o) := by
  cases e with
  | BoolOp op vs pos => cases vs with
    | nil => cases h
    | cons a vs => cases vs with
      | nil => cases hb
      | cons _ _ => cases h
  | Call fe as ks pos =>
    match fe, as, ks, h with
    | .Attribute v m apos, [], [], h =>
      obtain ⟨h1, h4⟩ := ba (show (beqS m "pop" && notCall v && (apos.endLine == pos.line) && chE T N n sc v o) = true from h)
      obtain ⟨h1, h3⟩ := ba h1
      obtain ⟨h1, h2⟩ := ba h1
      have e1 := beqS_eq h1
      subst e1
      exact .plain (je_pop h2 h3 (hE X sc W v o g hN hsc h4).je) (fun _ _ _ q => nomatch q) fun _ => rfl
  | _ => cases h
theorem k_lrev {c1 : CE} (hE : OkE T N G ca k n) (g : Good X T G ca W k) (hN : X.N = N) (hsc : X.env.scope = sc) (hb : loneBool e = false) (h : chE T N (n + 1) sc e (.lrev c1) = true) : Ok X ca W G e (.lrev c1) := by
  cases e with
  | BoolOp op vs pos => cases vs with
    | nil => cases h
    | cons a vs => cases vs with
      | nil => cases hb
      | cons _ _ => cases h
  | Call f as ks pos =>
    match f, as, ks, h with
    | .Name x p, [.Call (.Name y p2) [a] [] pos2], [], h =>
      obtain ⟨hh, h⟩ := ba (show (!T.hot && (beqS x "list" && beqS y "reversed" && T.bl.contains x && T.bl.contains y && isGl sc x && isGl sc y && notStar a && chE T N n sc a c1)) = true from h)
      obtain ⟨h1, h8⟩ := ba h
      obtain ⟨h1, h7⟩ := ba h1
      obtain ⟨h1, h6⟩ := ba h1
      obtain ⟨h1, h5⟩ := ba h1
      obtain ⟨h1, h4⟩ := ba h1
      obtain ⟨h1, h3⟩ := ba h1
      obtain ⟨h1, h2⟩ := ba h1
      have e1 := beqS_eq h1
      have e2 := beqS_eq h2
      subst e1 e2
      exact .plain (pe_imp (pe_lstRev (g.calm (by simpa using hh)) (gl_of hsc h5) (g.bl _ (bl_of h3)) (gl_of hsc h6) (g.bl _ (bl_of h4)) (hE X sc W a c1 g hN hsc h8).je (by rw [star_of h7] <;> rfl)) fun _ _ _ q => t_lrev q) (fun _ _ _ q => nomatch q) fun _ => rfl
  | _ => cases h
theorem nosl_of {b : Expr} (h : notSlice b = true) : NoSl b := by
  intro ov iv
  cases b <;> first | rfl | cases h
theorem k_dnew (hE : OkE T N G ca k n) (g : Good X T G ca W k) (hN : X.N = N) (hsc : X.env.scope = sc) (hb : loneBool e = false) (h : chE T N (n + 1) sc e (.dnew) = true) : Ok X ca W G e (.dnew) := by
  cases e with
  | BoolOp op vs pos => cases vs with
    | nil => cases h
    | cons a vs => cases vs with
      | nil => cases hb
      | cons _ _ => cases h
  | Dict ks vs pos =>
    match ks, vs, h with
    | [], [], h => exact .plain (pe_imp pe_dnewK fun _ _ _ q => t_dnew q) (fun _ _ _ q => nomatch q) fun _ => rfl
  | _ => cases h
theorem k_dget {o i : CE} (hE : OkE T N G ca k n) (g : Good X T G ca W k) (hN : X.N = N) (hsc : X.env.scope = sc) (hb : loneBool e = false) (h : chE T N (n + 1) sc e (.dget o i) = true) : Ok X ca W G e (.dget o i) := by
  cases e with
  | BoolOp op vs pos => cases vs with
    | nil => cases h
    | cons a vs => cases vs with
      | nil => cases hb
      | cons _ _ => cases h
  | Subscript a b pos =>
    obtain ⟨h1, h3⟩ := ba (show (notSlice b && chE T N n sc a o && chE T N n sc b i) = true from h)
    obtain ⟨h1, h2⟩ := ba h1
    exact .plain (pe_imp (pe_dget (by have := g.units; omega) (hE X sc W a o g hN hsc h2).je (hE X sc W b i g hN hsc h3).je (nosl_of h1)) fun _ _ _ q => t_dget q) (fun _ _ _ q => nomatch q) fun _ => rfl
  | _ => cases h
theorem k_dgetD {o i d : CE} (hE : OkE T N G ca k n) (g : Good X T G ca W k) (hN : X.N = N) (hsc : X.env.scope = sc) (hb : loneBool e = false) (h : chE T N (n + 1) sc e (.dgetD o i d) = true) : Ok X ca W G e (.dgetD o i d) := by
  cases e with
  | BoolOp op vs pos => cases vs with
    | nil => cases h
    | cons a vs => cases vs with
      | nil => cases hb
      | cons _ _ => cases h
  | Call f as ks pos =>
    match f, as, ks, h with
    | .Attribute v m apos, [a, b], [], h =>
      obtain ⟨h1, h8⟩ := ba (show (beqS m "get" && notCall v && (apos.endLine == pos.line) && notStar a && notStar b && chE T N n sc v o && chE T N n sc a i && chE T N n sc b d) = true from h)
      obtain ⟨h1, h7⟩ := ba h1
      obtain ⟨h1, h6⟩ := ba h1
      obtain ⟨h1, h5⟩ := ba h1
      obtain ⟨h1, h4⟩ := ba h1
      obtain ⟨h1, h3⟩ := ba h1
      obtain ⟨h1, h2⟩ := ba h1
      have e1 := beqS_eq h1
      subst e1
      have hs : ∀ z ∈ [a, b], notStar z = true := fun z m => by
        rcases List.mem_cons.mp m with rfl | m
        · exact h4
        · rw [List.mem_singleton.mp m]; exact h5
      have tr : backTo pos (starEach [a, b] X.env) = [(false, eval a X.env), (false, eval b X.env)] := by
        rw [star_of (es := [b]) h4, star_of (es := []) h5]
        rfl
      exact .plain (pe_imp (pe_dget2 (by have := g.units; omega) (hE X sc W v o g hN hsc h6).je (hE X sc W a i g hN hsc h7).je (hE X sc W b d g hN hsc h8).je ⟨base_of h2, star_few hs (by show 2 < 20; decide), h3, tr⟩) fun _ _ _ q => t_dgetD q) (fun _ _ _ q => nomatch q) fun _ => rfl
  | _ => cases h
theorem k_din {neg : Bool} {i o : CE} (hE : OkE T N G ca k n) (g : Good X T G ca W k) (hN : X.N = N) (hsc : X.env.scope = sc) (hb : loneBool e = false) (h : chE T N (n + 1) sc e (.din neg i o) = true) : Ok X ca W G e (.din neg i o) := by
  cases e with
  | BoolOp op vs pos => cases vs with
    | nil => cases h
    | cons a vs => cases vs with
      | nil => cases hb
      | cons _ _ => cases h
  | Compare a os bs pos =>
    match os, bs, h with
    | [op], [b], h =>
      obtain ⟨h1, h4⟩ := ba (show (dinOk op neg && notSet b && chE T N n sc a i && chE T N n sc b o) = true from h)
      obtain ⟨h1, h3⟩ := ba h1
      obtain ⟨h1, h2⟩ := ba h1
      have hu : X.A.units + 1 < cLine := by have := g.units; omega
      have ja := (hE X sc W a i g hN hsc h3).je
      have jb := (hE X sc W b o g hN hsc h4).je
      cases op <;> first
        | (cases neg <;> cases h1; done)
        | (cases neg with
          | true => cases h1
          | false => exact ⟨pe_imp (pe_cmp (pc_din hu ja jb) (set_of h2)) fun _ _ _ q => (t_din q).1 rfl, pt_imp (pt_cmp (pc_din hu ja jb) (set_of h2)) fun _ _ _ q => (t_din q).1 rfl, fun _ _ _ q => nomatch q⟩)
        | (cases neg with
          | false => cases h1
          | true => exact ⟨pe_imp (pe_cmp (pc_dnotin hu ja jb) (set_of h2)) fun _ _ _ q => (t_din q).2 rfl, pt_imp (pt_cmp (pc_dnotin hu ja jb) (set_of h2)) fun _ _ _ q => (t_din q).2 rfl, fun _ _ _ q => nomatch q⟩)
  | _ => cases h
theorem k_slc {a : CE} {lo hi : List CE} (hE : OkE T N G ca k n) (hP : OkP T N G ca k n) (g : Good X T G ca W k) (hN : X.N = N) (hsc : X.env.scope = sc) (hb : loneBool e = false) (h : chE T N (n + 1) sc e (.slc a lo hi) = true) : Ok X ca W G e (.slc a lo hi) := by
  cases e with
  | BoolOp op vs pos => cases vs with
    | nil => cases h
    | cons a vs => cases vs with
      | nil => cases hb
      | cons _ _ => cases h
  | Subscript v b pos =>
    match b, h with
    | .Slice l u none p2, h =>
      obtain ⟨h1, h3⟩ := ba (show (chE T N n sc v a && chP T N n sc l lo && chP T N n sc u hi) = true from h)
      obtain ⟨h1, h2⟩ := ba h1
      obtain ⟨r2, b2⟩ := hP X sc W _ _ g hN hsc h2
      obtain ⟨r3, b3⟩ := hP X sc W _ _ g hN hsc h3
      exact .plain (pe_imp (pe_slice sl_all (hE X sc W v a g hN hsc h1).je r2 r3) fun _ _ _ q => t_slc b2 b3 q) (fun _ _ _ q => nomatch q) fun _ => rfl
  | _ => cases h
theorem k_frz {c1 : CE} (hE : OkE T N G ca k n) (g : Good X T G ca W k) (hN : X.N = N) (hsc : X.env.scope = sc) (hb : loneBool e = false) (h : chE T N n sc e c1 = true) : Ok X ca W G e (.frz c1) := by
  have r := hE X sc W e c1 g hN hsc h
  refine ⟨pe_imp r.je fun _ _ _ q => t_frz q, pt_imp r.jt fun σ H Q q => t_frz (Q := fun v H' => ∃ b, v = .bl b ∧ Q b H') q, fun op vs pos q => pw_imp (r.jw op vs pos q) fun σ H Q q => t_frz (Q := fun v H' => ∃ b, v = .bl b ∧ Q b H') q⟩
abbrev OkC (T : Tab) (N : List Str) (G : Ctx) (ca : Nat → Addr) (k n : Nat) : Prop := ∀ (sc : Scope) (e : List Expr) (c : List CE), chC T N n sc e c = true → (e = [] ∧ c = []) ∨ ∃ a b m, e = [a] ∧ c = [b] ∧ n = m + 1 ∧ chE T N m sc a b = true
theorem chC_ok {n : Nat} : OkC T N G ca k n := by
  intro sc e c h
  cases n with
  | zero => cases h
  | succ m =>
    match e, c, h with
    | [], [], _ => exact .inl ⟨rfl, rfl⟩
    | [a], [b], h => exact .inr ⟨a, b, m, rfl, rfl, rfl, h⟩
theorem k_lc {i : Nat} {it : CI} {cnd : List CE} {elt : CE} (hE : ∀ m, m ≤ n → OkE T N G ca k m) (hI : OkI T N G ca k n) (g : Good X T G ca W k) (hN : X.N = N) (hsc : X.env.scope = sc) (hb : loneBool e = false) (h : chE T N (n + 1) sc e (.lc i it cnd elt) = true) : Ok X ca W G e (.lc i it cnd elt) := by
  cases e with
  | BoolOp op vs pos => cases vs with
    | nil => cases h
    | cons a vs => cases vs with
      | nil => cases hb
      | cons _ _ => cases h
  | ListComp el gs scope pos =>
    have hgs : ∃ x p iter ifs, gs = [⟨.Name x p, iter, ifs, 0⟩] := by
      cases gs with
      | nil => cases h
      | cons gc gs =>
        obtain ⟨tg, iter, ifs, as⟩ := gc
        cases tg with
        | Name x p =>
          cases gs with
          | nil =>
            cases as with
            | ofNat m => cases m with
              | zero => exact ⟨x, p, iter, ifs, rfl⟩
              | succ m => cases h
            | negSucc m => cases h
          | cons _ _ =>
            cases as with
            | ofNat m => cases m <;> cases h
            | negSucc m => cases h
        | _ => cases h
    obtain ⟨x, p, iter, ifs, rfl⟩ := hgs
    · obtain ⟨hh, h⟩ := ba (show (!T.hot && (blkC N sc scope [(x, i)] && notSet iter && isLocal (relabelS scope sc) x && chI T N n sc (.Name x p) iter it && chC T N n (relabelS scope sc) ifs cnd && chE T N n (relabelS scope sc) el elt)) = true from h)
      have hcalm := g.calm (by simpa using hh)
      obtain ⟨h1, h6⟩ := ba h
      obtain ⟨h1, h5⟩ := ba h1
      obtain ⟨h1, h4⟩ := ba h1
      obtain ⟨h1, h3⟩ := ba h1
      obtain ⟨h1, h2⟩ := ba h1
      have ok : BlkOk X.N X.env.scope scope [(x, i)] := by rw [hN, hsc]; exact blkOk_by h1
      have hi := hI X sc W (.Name x p) iter it g hN hsc h4
      have hl := local_of h3
      have own : X.N[i]? = some x := ok.ix (x, i) List.mem_cons_self
      refine .plain ?_ (fun _ _ _ q => nomatch q) fun _ => rfl
      have hgn : ∀ (s : Shared) (H : Hp) (C : Addr) (cl : List (Str × Addr)) (fp : List Addr), PG (X.blk s H scope (compEnvC scope cl C X.env) fp) (.Name x p) (gName i) := fun s H C cl fp => by
        have hlx : (X.blk s H scope (compEnvC scope cl C X.env) fp).env.scope.names.lookup x = some .local := by subst hsc; exact hl
        exact pg_name (X := X.blk s H scope (compEnvC scope cl C X.env) fp) g.nd own (.inl hlx) (.inr hlx)
      have hel : ∀ (s : Shared) (H : Hp) (C : Addr) (cl : List (Str × Addr)) (fp : List Addr), PE (X.blk s H scope (compEnvC scope cl C X.env) fp) el (tE X.K ca W0 (evE G elt)) := fun s H C cl fp =>
        (hE n (Nat.le_refl n) (X.blk s H scope (compEnvC scope cl C X.env) fp) (relabelS scope sc) W0 el elt (g.blk s H scope _ fp) hN (by subst hsc; rfl) h6).je
      rcases chC_ok (G := G) (ca := ca) (k := k) _ _ _ h5 with ⟨rfl, rfl⟩ | ⟨a, b, m, rfl, rfl, rfl, h7⟩
      · exact pe_imp (pe_lc hcalm g.nd hi ok hgn (fun s H C cl fp => pts_nil) hel (fun x => fold_of h2 x)) fun _ _ _ q => t_lc0 q
      · have hco : ∀ (s : Shared) (H : Hp) (C : Addr) (cl : List (Str × Addr)) (fp : List Addr), PTs (X.blk s H scope (compEnvC scope cl C X.env) fp) [a] (tTe X.K ca W0 (evE G b)) := fun s H C cl fp =>
          pts_one (hE m (Nat.le_succ m) (X.blk s H scope (compEnvC scope cl C X.env) fp) (relabelS scope sc) W0 a b (g.blk s H scope _ fp) hN (by subst hsc; rfl) h7).jt
        exact pe_imp (pe_lc hcalm g.nd hi ok hgn hco hel (fun x => fold_of h2 x)) fun _ _ _ q => t_lc1 q
  | _ => cases h
theorem lc2_go {e : Expr} {i j : Nat} {it it2 : CI} {cnd : List CE} {elt : CE} (h : chE T N (n + 1) sc e (.lc2 i it j it2 cnd elt) = true) (hb : loneBool e = false) : T.hot = false ∧ ∃ x p iter y p2 iter2 scope el pos, cnd = [] ∧ e = .ListComp el [⟨.Name x p, iter, [], 0⟩, ⟨.Name y p2, iter2, [], 0⟩] scope pos ∧ blkC N sc scope [(x, i), (y, j)] = true ∧ i ≠ j ∧ notSet iter = true ∧ notSet iter2 = true ∧ isLocal (relabelS scope sc) x = true ∧ isLocal (relabelS scope sc) y = true ∧ chI T N n sc (.Name x p) iter it = true ∧ chI T N n (relabelS scope sc) (.Name y p2) iter2 it2 = true ∧ chE T N n (relabelS scope sc) el elt = true := by
  have h' : (match lc2P e cnd with
        | some (x, p, iter, y, p2, iter2, scope, el) => !T.hot && (blkC N sc scope [(x, i), (y, j)] && decide (i ≠ j) && notSet iter && notSet iter2 && isLocal (relabelS scope sc) x && isLocal (relabelS scope sc) y && chI T N n sc (.Name x p) iter it && chI T N n (relabelS scope sc) (.Name y p2) iter2 it2 && chE T N n (relabelS scope sc) el elt)
        | none => false) = true := by
    rw [← h]
    cases e with
    | BoolOp op vs pos => cases vs with
      | nil => rfl
      | cons a vs => cases vs with
        | nil => cases hb
        | cons _ _ => rfl
    | _ => rfl
  cases q : lc2P e cnd with
  | none => rw [q] at h'; cases h'
  | some z =>
    obtain ⟨x, p, iter, y, p2, iter2, scope, el⟩ := z
    rw [q] at h'
    obtain ⟨pos, hc, he⟩ := lc2P_some q
    obtain ⟨hh, h'⟩ := ba h'
    obtain ⟨h1, h9⟩ := ba h'
    obtain ⟨h1, h8⟩ := ba h1
    obtain ⟨h1, h7⟩ := ba h1
    obtain ⟨h1, h6⟩ := ba h1
    obtain ⟨h1, h5⟩ := ba h1
    obtain ⟨h1, h4⟩ := ba h1
    obtain ⟨h1, h3⟩ := ba h1
    obtain ⟨h1, h2⟩ := ba h1
    exact ⟨by simpa using hh, x, p, iter, y, p2, iter2, scope, el, pos, hc, he, h1, of_decide_eq_true h2, h3, h4, h5, h6, h7, h8, h9⟩
theorem k_lc2 {i j : Nat} {it it2 : CI} {cnd : List CE} {elt : CE} (hE : OkE T N G ca k n) (hI : OkI T N G ca k n) (g : Good X T G ca W k) (hN : X.N = N) (hsc : X.env.scope = sc) (hb : loneBool e = false) (h : chE T N (n + 1) sc e (.lc2 i it j it2 cnd elt) = true) : Ok X ca W G e (.lc2 i it j it2 cnd elt) := by
  obtain ⟨hh, x, p, iter, y, p2, iter2, scope, el, pos, rfl, rfl, h1, hij, h3, h4, h5, h6, h7, h8, h9⟩ := lc2_go h hb
  have ok : BlkOk X.N X.env.scope scope [(x, i), (y, j)] := by rw [hN, hsc]; exact blkOk_by h1
  have own : X.N[i]? = some x := ok.ix (x, i) List.mem_cons_self
  have own2 : X.N[j]? = some y := ok.ix (y, j) (List.mem_cons_of_mem _ List.mem_cons_self)
  have hl := local_of h5
  have hl2 := local_of h6
  refine .plain ?_ (fun _ _ _ q => nomatch q) fun _ => rfl
  refine pe_imp (pe_lc2 (vs1 := [j]) (g := gName i) (g1 := gName j) (tt := tYes) (tt1 := tYes) (te := tE X.K ca W0 (evE G elt)) (wi1 := tI X.K ca W0 (evI G it2)) (g.calm hh) g.nd (hI X sc W (.Name x p) iter it g hN hsc h7) ok (fun z hz => ?_) (fun s H C cl fp => ?_) (fun s H C cl fp => pts_nil) (fun s H C cl fp => ?_) (fun s H C cl fp => ?_) (fun s H C cl fp => pts_nil) (fun s H C cl fp => ?_) (fun x => fold_of h3 x) (fun env x => fold_of h4 x)) fun _ _ _ q => t_lc2 hij q
  · cases hz with
    | head => exact List.mem_cons_of_mem _ List.mem_cons_self
    | tail _ m => cases m
  · have hlx : (X.blk s H scope (compEnvC scope cl C X.env) fp).env.scope.names.lookup x = some .local := by subst hsc; exact hl
    exact pg_name (X := X.blk s H scope (compEnvC scope cl C X.env) fp) g.nd own (.inl hlx) (.inr hlx)
  · exact hI (X.blk s H scope (compEnvC scope cl C X.env) fp) (relabelS scope sc) W0 (.Name y p2) iter2 it2 (g.blk s H scope _ fp) hN (by subst hsc; rfl) h8
  · have hlx : (X.blk s H scope (compEnvC scope cl C X.env) fp).env.scope.names.lookup y = some .local := by subst hsc; exact hl2
    exact pg_name (X := X.blk s H scope (compEnvC scope cl C X.env) fp) g.nd own2 (.inl hlx) (.inr hlx)
  · exact (hE (X.blk s H scope (compEnvC scope cl C X.env) fp) (relabelS scope sc) W0 el elt (g.blk s H scope _ fp) hN (by subst hsc; rfl) h9).je
theorem k_isi {t : TyN} {c1 : CE} (hE : OkE T N G ca k n) (g : Good X T G ca W k) (hN : X.N = N) (hsc : X.env.scope = sc) (hb : loneBool e = false) (h : chE T N (n + 1) sc e (.isi t c1) = true) : Ok X ca W G e (.isi t c1) := by
  have h' : (match isiP e with
        | some (x, _, a, y, _) => beqS x "isinstance" && T.bl.contains x && T.bl.contains y && isGl sc x && isGl sc y && notDbg y && tyOk y t && notStar a && chE T N n sc a c1
        | none => false) = true := by
    rw [← h]
    cases e with
    | BoolOp op vs pos => cases vs with
      | nil => rfl
      | cons a vs => cases vs with
        | nil => cases hb
        | cons _ _ => rfl
    | _ => rfl
  cases q : isiP e with
  | none => rw [q] at h'; cases h'
  | some z =>
    obtain ⟨x, p, a, y, p2⟩ := z
    rw [q] at h'
    obtain ⟨pos, rfl⟩ := isiP_some q
    obtain ⟨h1, h9⟩ := ba h'
    obtain ⟨h1, h8⟩ := ba h1
    obtain ⟨h1, h7⟩ := ba h1
    obtain ⟨h1, h6⟩ := ba h1
    obtain ⟨h1, h5⟩ := ba h1
    obtain ⟨h1, h4⟩ := ba h1
    obtain ⟨h1, h3⟩ := ba h1
    obtain ⟨h1, h2⟩ := ba h1
    have e1 := beqS_eq h1
    subst e1
    exact .plain (je_isi (gl_of hsc h4) (g.bl _ (bl_of h2)) (gl_of hsc h5) (g.bl _ (bl_of h3)) h6 h7 h8 (hE X sc W a c1 g hN hsc h9).je) (fun _ _ _ q => nomatch q) fun _ => rfl
theorem chE_step (h : loneBool e = false) {c : CE} : chC1 T N n sc e c = chE T N (n + 1) sc e c := by
  cases e with
  | BoolOp op vs pos => cases vs with
    | nil => rfl
    | cons a vs => cases vs with
      | nil => cases h
      | cons _ _ => rfl
  | _ => rfl
theorem chE_ok1 (hE : ∀ m, m ≤ n → OkE T N G ca k m) (hs : OkEs T N G ca k n) (hI : OkI T N G ca k n) (hP : OkP T N G ca k n) : OkE T N G ca k (n + 1) := by
  intro X sc W e c g hN hsc h
  have hE1 := hE n (Nat.le_refl n)
  cases hb : loneBool e with
  | true =>
    obtain ⟨op, a, pos, rfl⟩ := lone_of hb
    have h' : chE T N n sc a c = true := by cases c <;> exact h
    exact ok_lone hE1 g hN hsc h'
  | false =>
    cases c with
    | var i => exact k_var g hN hsc hb h
    | lit d => exact k_lit g hN hsc hb h
    | glo i => exact k_glo g hN hsc hb h
    | op p cs => exact k_op hE1 hs g hN hsc hb h
    | sm p o cs => exact k_sm hE1 hs g hN hsc hb h
    | and_ a b => exact k_and hE1 g hN hsc hb h
    | or_ a b => exact k_or hE1 g hN hsc hb h
    | not_ a => exact k_not hE1 g hN hsc hb h
    | ife a b c => exact k_ife hE1 g hN hsc hb h
    | chain p q a b c => exact k_chain hE1 g hN hsc hb h
    | tup cs => exact k_tup hs g hN hsc hb h
    | lstV cs => exact k_lstV hs g hN hsc hb h
    | lstR cs => exact k_lstR hs g hN hsc hb h
    | call f cs => exact k_call hs g hN hsc hb h
    | meth o c m f cs => exact k_meth hE1 hs g hN hsc hb h
    | new c f cs => exact k_new hs g hN hsc hb h
    | fld o f => exact k_fld hE1 g hN hsc hb h
    | pop o => exact k_pop hE1 g hN hsc hb h
    | slc a lo hi => exact k_slc hE1 hP g hN hsc hb h
    | frz c1 =>
      have h' : chE T N n sc e c1 = true := by
        have q := (chE_step hb).trans h
        revert q
        cases e with
        | BoolOp op vs pos => cases vs with
          | nil => exact fun q => q
          | cons a vs => cases vs with
            | nil => cases hb
            | cons _ _ => exact fun q => q
        | _ => exact fun q => q
      exact k_frz hE1 g hN hsc hb h'
    | lc i it cnd elt => exact k_lc hE hI g hN hsc hb h
    | isi t c1 => exact k_isi hE1 g hN hsc hb h
    | exIs k =>
      exfalso
      revert h
      cases e with
      | BoolOp op vs pos => cases vs with
        | nil => intro h; cases h
        | cons a vs => cases vs with
          | nil => cases hb
          | cons _ _ => intro h; cases h
      | _ => intro h; cases h
    | exF k =>
      exfalso
      revert h
      cases e with
      | BoolOp op vs pos => cases vs with
        | nil => intro h; cases h
        | cons a vs => cases vs with
          | nil => cases hb
          | cons _ _ => intro h; cases h
      | _ => intro h; cases h
    | dnew => exact k_dnew hE1 g hN hsc hb h
    | dget o i => exact k_dget hE1 g hN hsc hb h
    | dgetD o i d => exact k_dgetD hE1 g hN hsc hb h
    | din neg i o => exact k_din hE1 g hN hsc hb h
    | lc2 i it j it2 cnd elt => exact k_lc2 hE1 hI g hN hsc hb h
    | lrev a => exact k_lrev hE1 g hN hsc hb h
    | void => exact ⟨je_void, jt_void, fun _ _ _ _ => jw_void⟩
end
/-- the checker of expressions is right -/
theorem che_all (n : Nat) : ∀ m, m ≤ n → OkE T N G ca k m ∧ OkEs T N G ca k m ∧ OkI T N G ca k m ∧ OkP T N G ca k m := by
  induction n with
  | zero =>
    intro m hm
    have e : m = 0 := by omega
    subst e
    refine ⟨?_, ?_, ?_, ?_⟩
    · intro X sc W e c g hN hsc h; cases h
    · intro X sc W e c g hN hsc h; cases h
    · intro X sc W tg e c g hN hsc h; cases h
    · intro X sc W e c g hN hsc h; cases h
  | succ n ih =>
    intro m hm
    by_cases h : m ≤ n
    · exact ih m h
    · have e : m = n + 1 := by omega
      subst e
      obtain ⟨a, b, c, d⟩ := ih n (Nat.le_refl n)
      exact ⟨chE_ok1 (fun m hm => (ih m hm).1) b c d, chEs_ok a b, chI_ok a, chP_ok a⟩
theorem chE_ok (n : Nat) : OkE T N G ca k n := (che_all n n (Nat.le_refl n)).1
theorem chEs_okA (n : Nat) : OkEs T N G ca k n := (che_all n n (Nat.le_refl n)).2.1
theorem chI_okA (n : Nat) : OkI T N G ca k n := (che_all n n (Nat.le_refl n)).2.2.1
end
end PV

namespace PV
open PySem L2 PySem.Spec PyProof.Rows
/-! ## The checker of statements -/
def notComp : Expr → Bool
  | .ListComp _ _ _ _ => false
  | .SetComp _ _ _ _ => false
  | .DictComp _ _ _ _ _ => false
  | _ => true
def notTup : Expr → Bool
  | .Tuple _ _ _ => false
  | _ => true
def isLoc (sc : Scope) (x : Str) : Bool := match sc.names.lookup x with
  | some .local => true
  | some .cell => true
  | _ => false
def swOk (sc inner : Scope) (x : Str) (p q : Pos) : Bool := isLocal sc x && (p.line == q.line) && !(inner.names.any fun (n, k) => n == x && (k == .local || k == .cell))
def isCell (sc : Scope) (x : Str) : Bool := match sc.names.lookup x with
  | some .cell => true
  | _ => false
def setOk (sc : Scope) (x : Str) (p : Pos) (v : Expr) (e : CE) : Bool := match v with
  | .ListComp _ _ inner q => (match e with
    | .lc _ _ _ _ => swOk sc inner x p q
    | .lc2 _ _ _ _ _ _ => swOk sc inner x p q
    | _ => false) || isCell sc x
  | v => notComp v
def iopOk : Operator → Prim → Bool
  | .Add, .iadd => true
  | .Sub, .sub => true
  | _, _ => false
/-- a name of an exception class -/
def isExc (T : Tab) (z : Str) (k : Nat) : Bool := T.excs.contains (z, k) || T.xis.any fun p => decide (p.1 = z ∧ p.2.1 = k)
section
variable (T : Tab) (N : List Str)
/-- isinstance(nm, C) -/
def exP : Expr → Option (Str × Pos × Str × Pos × Str × Pos)
  | .Call (.Name x p) [.Name y p1, .Name z p2] [] _ => some (x, p, y, p1, z, p2)
  | _ => none
/-- expressions of an except suite whose exception is nm -/
def chH (sc : Scope) (nm : Str) : Nat → Expr → CE → Bool
  | 0, _, _ => false
  | n + 1, e, c => chE T.hotT N n sc e c || (match e with
    | .BoolOp _ [a] _ => chH sc nm n a c
    | _ => match c with
      | .exIs k => (match exP e with
        | some (x, _, y, _, z, _) => beqS x "isinstance" && T.bl.contains x && isGl sc x && beqS y nm && isVis sc y && notDbg y && isExc T z k && isGl sc z && notDbg z
        | none => false)
      | .exF f => (match e with
        | .Attribute (.Name y _) g _ => beqS g f && beqS y nm && isVis sc y && notDbg y
        | _ => false)
      | .op p cs => (match e, cs with
        | .Compare a [.Eq] [b] _, [c1, c2] => decide (p = .eq) && notSet b && chH sc nm n a c1 && chH sc nm n b c2
        | _, _ => false)
      | .not_ c1 => (match e with
        | .UnaryOp .Not a _ => chH sc nm n a c1
        | _ => false)
      | .and_ c1 c2 => (match e with
        | .BoolOp .And (a :: b :: r) pos => chH sc nm n a c1 && chH sc nm n (.BoolOp .And (b :: r) pos) c2
        | _ => false)
      | .or_ c1 c2 => (match e with
        | .BoolOp .Or (a :: b :: r) pos => chH sc nm n a c1 && chH sc nm n (.BoolOp .Or (b :: r) pos) c2
        | _ => false)
      | _ => false)
def chHs (sc : Scope) (nm : Str) (n : Nat) : List Stmt → List (List CE × CE) → Bool
  | [], [] => true
  | .Return (some v) _ :: ss, ([], r) :: h => chH T N sc nm n v r && chHs sc nm n ss h
  | .If c [.Return (some v) _] [] _ :: ss, ([c1], r) :: h => chH T N sc nm n c c1 && chH T N sc nm n v r && chHs sc nm n ss h
  | _, _ => false
def triP : Stmt → Option (List Stmt × Str × Pos × Str × Stmt × List Stmt)
  | .Try body [.ExceptHandler (some (.Name x p)) (some nm) (b0 :: suite) _] [] [] _ => some (body, x, p, nm, b0, suite)
  | _ => none
def chNs (sc : Scope) : List Expr → List Nat → Bool
  | [], [] => true
  | .Name x _ :: es, i :: is => decide (N[i]? = some x) && isLoc sc x && chNs sc es is
  | _, _ => false
mutual
def chS : Nat → Scope → Stmt → CS → Bool
  | 0, _, _, _ => false
  | n + 1, sc, s, c => match c with
    | .set (.name i) e => (match s with
      | .Assign [.Name x p] v _ => decide (N[i]? = some x) && isLoc sc x && chE T N n sc v e && setOk sc x p v e
      | _ => false)
    | .set (.tup is) e => (match s with
      | .Assign [.Tuple es _ _] v _ => chNs N sc es is && notTup v && notComp v && chE T N n sc v e
      | _ => false)
    | .set (.sub o i) e => (match s with
      | .Assign [.Subscript a b _] v _ => notSlice b && notComp v && chE T N n sc a o && chE T N n sc b i && chE T N n sc v e
      | _ => false)
    | .set (.fld o f) e => (match s with
      | .Assign [.Attribute a g _] v _ => beqS f g && chE T N n sc a o && chE T N n sc v e
      | _ => false)
    | .aug i p e => (match s with
      | .AugAssign (.Name x _) o v _ => decide (N[i]? = some x) && isLoc sc x && iopOk o p && chE T N n sc v e
      | _ => false)
    | .augF o f p e => (match s with
      | .AugAssign (.Attribute a g _) op v _ => beqS f g && iopOk op p && chE T N n sc a o && chE T N n sc v e
      | _ => false)
    | .drop e => (match s with
      | .Expr v _ => notComp v && chE T N n sc v e
      | _ => false)
    | .app o e => (match s with
      | .Expr (.Call (.Attribute v m apos) [a] [] pos) _ => beqS m "append" && notCall v && (apos.endLine == pos.line) && notStar a && chE T N n sc v o && chE T N n sc a e
      | _ => false)
    | .ext o e => (match s with
      | .Expr (.Call (.Attribute v m apos) [a] [] pos) _ => beqS m "extend" && notCall v && (apos.endLine == pos.line) && notStar a && chE T N n sc v o && chE T N n sc a e
      | _ => false)
    | .ite c a b => (match s with
      | .If t x y _ => chE T N n sc t c && chSs n sc x a && chSs n sc y b
      | _ => false)
    | .whl c b => (match s with
      | .While t x [] _ => chE T N n sc t c && chSs n sc x b
      | _ => false)
    | .fr (.name i) it b => (match s with
      | .For (.Name x p) iter body [] _ => decide (N[i]? = some x) && isLoc sc x && notSet iter && chI T N n sc (.Name x p) iter it && chSs n sc body b
      | _ => false)
    | .fr (.tup is) it b => (match s with
      | .For (.Tuple es kk p) iter body [] _ => chNs N sc es is && notSet iter && chI T N n sc (.Tuple es kk p) iter it && chSs n sc body b
      | _ => false)
    | .fr _ _ _ => false
    | .ret e => (match s with
      | .Return (some v) _ => chE T N n sc v e
      | _ => false)
    | .retN => (match s with
      | .Return none _ => true
      | _ => false)
    | .brk => (match s with
      | .Break _ => true
      | _ => false)
    | .cont => (match s with
      | .Continue _ => true
      | _ => false)
    | .tri b i c h => (match triP s with
      | some (body, x, _, nm, b0, suite) => decide (N[i]? = some nm) && isLocal sc nm && notDbg nm && isExc T x c && isGl sc x && notDbg x && chSs n sc body b && chHs T N sc nm n (b0 :: suite) h
      | none => false)
    | .rsf c f e => (match s with
      | .Raise (some (.Call (.Name x _) [a] [] _)) none _ => (T.xis.any fun p => decide (p.1 = x ∧ p.2.1 = c ∧ p.2.2.2 = f)) && isGl sc x && notDbg x && notStar a && chE T N n sc a e
      | _ => false)
    | .dput o i e => (match s with
      | .Assign [.Subscript a b _] v _ => notSlice b && notComp v && chE T N n sc a o && chE T N n sc b i && chE T N n sc v e
      | _ => false)
    | .ini f => (match s with
      | .Assign [.Attribute (.Name x _) g _] (.Name y _) _ => beqS g f && decide (N[0]? = some x) && decide (N[1]? = some y) && isVis sc x && isVis sc y && notDbg x && notDbg y
      | _ => false)
    | .rse c es => (match s, es with
      | _, _ :: _ => true
      | .Raise (some (.Call (.Name x _) [.Constant (.str _) _ _] [] _)) none _, [] => T.excs.contains (x, c) && isGl sc x && notDbg x
      | _, _ => false)
def chSs : Nat → Scope → List Stmt → List CS → Bool
  | 0, _, _, _ => false
  | n + 1, sc, ss, cs => match ss, cs with
    | [], [] => true
    | .Expr (.Constant (.str _) _ _) _ :: ss, cs => chSs n sc ss cs
    | .Pass _ :: ss, cs => chSs n sc ss cs
    | s :: ss, c :: cs => chS n sc s c && chSs n sc ss cs
    | _, _ => false
end
end
section
variable {X : Cx} {ca : Nat → Addr} {W : WX} {G : Ctx} {pos : Pos} {wf : Nat}
abbrev JS (X : Cx) (ca : Nat → Addr) (W : WX) (G : Ctx) (wf : Nat) (s : Stmt) (c : CS) : Prop := PS X s (tS X.K ca W (evS G wf c))
abbrev JSs (X : Cx) (ca : Nat → Addr) (W : WX) (G : Ctx) (wf : Nat) (s : List Stmt) (c : List CS) : Prop := PSs X s (tS X.K ca W (evSs G wf c))
theorem loc_of {sc : Scope} {x : Str} (hs : X.env.scope = sc) (h : isLoc sc x = true) : L2.Loc X.env.scope x := by
  subst hs
  unfold isLoc at h
  unfold L2.Loc
  cases q : X.env.scope.names.lookup x with
  | none => rw [q] at h; cases h
  | some kd => cases kd <;> first | (rw [q] at h; cases h; done) | simp
theorem sw_cell {el : Expr} {gs : List Comprehension} {inner sc : Scope} {q p : Pos} {x : Str} {l : Nat} {env : Env} (hs : env.scope = sc) (h : isCell sc x = true) : swapsWith (.ListComp el gs inner q) (some (.Name x p)) l env = pure false := by
  subst hs
  have ky : env.kindOf x = some .cell := by
    unfold isCell at h
    show env.scope.names.lookup x = some .cell
    cases z : env.scope.names.lookup x with
    | none => rw [z] at h; cases h
    | some k => cases k <;> first | rfl | (rw [z] at h; cases h)
  unfold swapsWith
  simp only [ky]
  have e : ((some NameKind.cell : Option NameKind) == some NameKind.local) = false := by decide
  simp [e]
theorem sw_no {v : Expr} {t : Option Expr} {l : Nat} {env : Env} (h : notComp v = true) : swapsWith v t l env = pure false := by
  cases v <;> first | rfl | cases h
theorem sws_no {v t : Expr} {l : Nat} {env : Env} (h : notComp v = true) : swapsWithSole [t] v l env = pure false := sw_no h
theorem sw_attr {v o : Expr} {f : Str} {p : Pos} {l : Nat} {env : Env} : swapsWith v (some (.Attribute o f p)) l env = pure false := by
  cases v <;> rfl
theorem sws_tup {v : Expr} {es : List Expr} {k : Nat} {p : Pos} {env : Env} (h : notTup v = true) : swappedStores [.Tuple es k p] v env = pure none := by
  cases v <;> first | rfl | cases h
theorem pgs_names {N : List Str} {sc : Scope} (hN : X.N = N) (hnd : X.N.Nodup) (hfn : ∀ x, X.fn x = true) (hs : X.env.scope = sc) : ∀ {es : List Expr} {is : List Nat}, chNs N sc es is = true → PGs X es (is.foldr (fun i (u : TGs) => gCons (gName i) u) gNil) ∧ (assignEach es X.env).length = is.length ∧ (assignEach es X.env).findIdx? (·.1) = none ∧ es.length = is.length
  | [], [], _ => ⟨pgs_nil, rfl, rfl, rfl⟩
  | [], _ :: _, h => nomatch h
  | e :: es, [], h => by cases e <;> cases h
  | e :: es, i :: is, h => by
    cases e with
    | Name x p =>
      obtain ⟨h1, h3⟩ := ba (show (decide (N[i]? = some x) && isLoc sc x && chNs N sc es is) = true from h)
      obtain ⟨h1, h2⟩ := ba h1
      obtain ⟨r1, r2, r3, r4⟩ := pgs_names hN hnd hfn hs h3
      have hl := loc_of hs h2
      have hi : X.N[i]? = some x := by rw [hN]; exact of_decide_eq_true h1
      refine ⟨pgs_cons (pg_name hnd hi hl (.inl (hfn x))) r1 rfl, ?_, ?_, by rw [List.length_cons, List.length_cons, r4]⟩
      · show (assignEach es X.env).length + 1 = is.length + 1
        rw [r2]
      · have e : assignEach (.Name x p :: es) X.env = (false, assign (.Name x p) X.env) :: assignEach es X.env := rfl
        rw [e, List.findIdx?_cons, r3]
        rfl
    | _ => cases h
end
end PV

namespace PV
open PySem L2 PySem.Spec PyProof.Rows
section
variable {T : Tab} {N : List Str} {G : Ctx} {ca : Nat → Addr} {k wf : Nat}
/-- a def's own context -/
structure Top (X : Cx) (T : Tab) : Prop where
  stk : X.stack = X.env :: X.outer
  frm : X.env.frame = some X.env.locals
  hot : T.hot = false
abbrev OkS (T : Tab) (N : List Str) (G : Ctx) (ca : Nat → Addr) (k wf n : Nat) : Prop := ∀ (X : Cx) (sc : Scope) (W : WX) (s : Stmt) (c : CS), Good X T G ca W k → X.N = N → X.env.scope = sc → (∀ x, X.fn x = true) → sc.kind = .function → Top X T → chS T N n sc s c = true → JS X ca W G wf s c
abbrev OkSs (T : Tab) (N : List Str) (G : Ctx) (ca : Nat → Addr) (k wf n : Nat) : Prop := ∀ (X : Cx) (sc : Scope) (W : WX) (s : List Stmt) (c : List CS), Good X T G ca W k → X.N = N → X.env.scope = sc → (∀ x, X.fn x = true) → sc.kind = .function → Top X T → chSs T N n sc s c = true → JSs X ca W G wf s c
variable {n : Nat} {X : Cx} {sc : Scope} {W : WX} {s : Stmt}
theorem jgN {x : Str} {i : Nat} {p : Pos} (g : Good X T G ca W k) (hN : X.N = N) (hsc : X.env.scope = sc) (hfn : ∀ x, X.fn x = true) (h1 : N[i]? = some x) (h2 : isLoc sc x = true) : PG X (.Name x p) (tG X.K ca (evT G (.name i))) :=
  have := pg_name (pos := p) g.nd (by rw [hN]; exact h1) (loc_of hsc h2) (.inl (hfn x))
  ⟨fun pins s σ H v u Q I r h => this.run pins s σ H v u Q I r (tg_name h)⟩
theorem tE_imp {K : PySem.W.Frag} {r : Ev → Sto → Rs Sv} {σ : L2.St} {H : Hp} {Q Q' : VK} (h : tE K ca W r σ H Q) (k : ∀ v H, Q v H → Q' v H) : tE K ca W r σ H Q' := by
  obtain ⟨F, ρ, st, env, rel, eok, h⟩ := h
  exact ⟨F, ρ, st, env, rel, eok, h.imp k⟩
theorem ts_rse {K : PySem.W.Frag} {σ : L2.St} {H : Hp} {D : Ends} {c : Nat} (h : tS K ca W (evS G wf (.rse c [])) D σ H) : W (.ref (ca c)) none σ H := by
  obtain ⟨F, ρ, st, env, rel, eok, h⟩ := h
  have h' : SPost K ca W H F ρ (.exc c [] env st) D := h
  exact h' σ H F ρ (Ext.refl _ _ _) rel eok
theorem setOk_inv {x : Str} {p : Pos} {v : Expr} {e : CE} (h : setOk sc x p v e = true) : (∃ el gs inner q, v = .ListComp el gs inner q ∧ ((∃ i it cnd elt, e = .lc i it cnd elt) ∨ ∃ i it j it2 cnd elt, e = .lc2 i it j it2 cnd elt) ∧ swOk sc inner x p q = true) ∨ notComp v = true ∨ (isCell sc x = true ∧ ∃ el gs inner q, v = .ListComp el gs inner q) := by
  cases v with
  | ListComp el gs inner q =>
    cases e with
    | lc i it cnd elt =>
      rcases Bool.or_eq_true_iff.mp (show (swOk sc inner x p q || isCell sc x) = true from h) with h | h
      · exact .inl ⟨el, gs, inner, q, rfl, .inl ⟨i, it, cnd, elt, rfl⟩, h⟩
      · exact .inr (.inr ⟨h, el, gs, inner, q, rfl⟩)
    | lc2 i it j it2 cnd elt =>
      rcases Bool.or_eq_true_iff.mp (show (swOk sc inner x p q || isCell sc x) = true from h) with h | h
      · exact .inl ⟨el, gs, inner, q, rfl, .inr ⟨i, it, j, it2, cnd, elt, rfl⟩, h⟩
      · exact .inr (.inr ⟨h, el, gs, inner, q, rfl⟩)
    | _ =>
      rcases Bool.or_eq_true_iff.mp (show (false || isCell sc x) = true from h) with h | h
      · cases h
      · exact .inr (.inr ⟨h, el, gs, inner, q, rfl⟩)
  | _ => exact .inr (.inl h)
theorem s_setLc2 {x0 : Str} {i0 : Nat} {p0 spos : Pos} {el0 : Expr} {gs : List Comprehension} {scope0 : Scope} {pos0 : Pos} {i : Nat} {it : CI} {j : Nat} {it2 : CI} {cnd : List CE} {elt : CE} (g : Good X T G ca W k) (top : Top X T) (hN : X.N = N) (hsc : X.env.scope = sc) (hk : sc.kind = .function) (h1 : N[i0]? = some x0) (hsw : swOk sc scope0 x0 p0 pos0 = true) (h : chE T N n sc (.ListComp el0 gs scope0 pos0) (.lc2 i it j it2 cnd elt) = true) :
    JS X ca W G wf (.Assign [.Name x0 p0] (.ListComp el0 gs scope0 pos0) spos) (.set (.name i0) (.lc2 i it j it2 cnd elt)) := by
  obtain ⟨w1, w3⟩ := ba (show (isLocal sc x0 && (p0.line == pos0.line) && !(scope0.names.any fun (n, k) => n == x0 && (k == .local || k == .cell))) = true from hsw)
  obtain ⟨w1, w2⟩ := ba w1
  have hlx0 := local_of w1
  have hsw' : swapsWith (.ListComp el0 gs scope0 pos0) (some (.Name x0 p0)) spos.line X.env = pure true := sw_true (by rw [hsc]; exact hk) (by rw [hsc]; exact hlx0) w2 (by simpa using w3)
  have hNi : X.N[i0]? = some x0 := by rw [hN]; exact h1
  cases n with
  | zero => cases h
  | succ n =>
    obtain ⟨_, x, p, iter, y, p2, iter2, scope, el, pos, rfl, e0, h1, hij, h3, h4, h5, h6, h7, h8, h9⟩ := lc2_go h rfl
    cases e0
    have ok : BlkOk X.N X.env.scope scope0 [(x, i), (y, j)] := by rw [hN, hsc]; exact blkOk_by h1
    have own : X.N[i]? = some x := ok.ix (x, i) List.mem_cons_self
    have own2 : X.N[j]? = some y := ok.ix (y, j) (List.mem_cons_of_mem _ List.mem_cons_self)
    have hl := local_of h5
    have hl2 := local_of h6
    refine ps_imp (ps_setLc2 (vs1 := [j]) (g := gName i) (g1 := gName j) (tt := tYes) (tt1 := tYes) (te := tE X.K ca W0 (evE G elt)) (wi1 := tI X.K ca W0 (evI G it2)) (g.calm top.hot) g.nd hNi (by rw [hsc]; exact hlx0) hsw' (chI_okA n X sc W (.Name x p) iter it g hN hsc h7) ok (fun z hz => ?_) (fun s H C cl fp => ?_) (fun s H C cl fp => pts_nil) (fun s H C cl fp => ?_) (fun s H C cl fp => ?_) (fun s H C cl fp => pts_nil) (fun s H C cl fp => ?_) (fun x => fold_of h3 x) (fun env x => fold_of h4 x)) fun D σ H q =>
      t_lc2 hij (Q := fun x H1 => gName i0 x σ H1 D.nx) (tE_imp (ts_set q) fun v H' q => tg_name q)
    · cases hz with
      | head => exact List.mem_cons_of_mem _ List.mem_cons_self
      | tail _ m => cases m
    · have hlx : (X.blk s H scope0 (compEnvC scope0 cl C X.env) fp).env.scope.names.lookup x = some .local := by subst hsc; exact hl
      exact pg_name (X := X.blk s H scope0 (compEnvC scope0 cl C X.env) fp) g.nd own (.inl hlx) (.inr hlx)
    · exact chI_okA n (X.blk s H scope0 (compEnvC scope0 cl C X.env) fp) (relabelS scope0 sc) W0 (.Name y p2) iter2 it2 (g.blk s H scope0 _ fp) hN (by subst hsc; rfl) h8
    · have hlx : (X.blk s H scope0 (compEnvC scope0 cl C X.env) fp).env.scope.names.lookup y = some .local := by subst hsc; exact hl2
      exact pg_name (X := X.blk s H scope0 (compEnvC scope0 cl C X.env) fp) g.nd own2 (.inl hlx) (.inr hlx)
    · exact (chE_ok n (X.blk s H scope0 (compEnvC scope0 cl C X.env) fp) (relabelS scope0 sc) W0 el0 elt (g.blk s H scope0 _ fp) hN (by subst hsc; rfl) h9).je
/-- name = [.. for ..] -/
theorem s_setLc {x : Str} {i : Nat} {p spos : Pos} {el : Expr} {gs : List Comprehension} {scope : Scope} {pos : Pos} {j : Nat} {it : CI} {cnd : List CE} {elt : CE} (g : Good X T G ca W k) (top : Top X T) (hN : X.N = N) (hsc : X.env.scope = sc) (hk : sc.kind = .function) (h1 : N[i]? = some x) (hsw : swOk sc scope x p pos = true) (h : chE T N n sc (.ListComp el gs scope pos) (.lc j it cnd elt) = true) :
    JS X ca W G wf (.Assign [.Name x p] (.ListComp el gs scope pos) spos) (.set (.name i) (.lc j it cnd elt)) := by
  obtain ⟨w1, w3⟩ := ba (show (isLocal sc x && (p.line == pos.line) && !(scope.names.any fun (n, k) => n == x && (k == .local || k == .cell))) = true from hsw)
  obtain ⟨w1, w2⟩ := ba w1
  have hlx := local_of w1
  have hsw' : swapsWith (.ListComp el gs scope pos) (some (.Name x p)) spos.line X.env = pure true := sw_true (by rw [hsc]; exact hk) (by rw [hsc]; exact hlx) w2 (by simpa using w3)
  have hNi : X.N[i]? = some x := by rw [hN]; exact h1
  cases n with
  | zero => cases h
  | succ n =>
    · skip
      have hgs : ∃ x p iter ifs, gs = [⟨.Name x p, iter, ifs, 0⟩] := by
        cases gs with
        | nil => cases h
        | cons gc gs =>
          obtain ⟨tg, iter, ifs, as⟩ := gc
          cases tg with
          | Name x p =>
            cases gs with
            | nil =>
              cases as with
              | ofNat m => cases m with
                | zero => exact ⟨x, p, iter, ifs, rfl⟩
                | succ m => cases h
              | negSucc m => cases h
            | cons _ _ =>
              cases as with
              | ofNat m => cases m <;> cases h
              | negSucc m => cases h
          | _ => cases h
      obtain ⟨y, p', iter, ifs, rfl⟩ := hgs
      obtain ⟨hh0, h⟩ := ba (show (!T.hot && (blkC N sc scope [(y, j)] && notSet iter && isLocal (relabelS scope sc) y && chI T N n sc (.Name y p') iter it && chC T N n (relabelS scope sc) ifs cnd && chE T N n (relabelS scope sc) el elt)) = true from h)
      obtain ⟨h1, h6⟩ := ba h
      obtain ⟨h1, h5⟩ := ba h1
      obtain ⟨h1, h4⟩ := ba h1
      obtain ⟨h1, h3⟩ := ba h1
      obtain ⟨h1, h2⟩ := ba h1
      have ok : BlkOk X.N X.env.scope scope [(y, j)] := by rw [hN, hsc]; exact blkOk_by h1
      have hi := chI_okA n X sc W (.Name y p') iter it g hN hsc h4
      have hl := local_of h3
      have own : X.N[j]? = some y := ok.ix (y, j) List.mem_cons_self
      have hgn : ∀ (s : Shared) (H : Hp) (C : Addr) (cl : List (Str × Addr)) (fp : List Addr), PG (X.blk s H scope (compEnvC scope cl C X.env) fp) (.Name y p') (gName j) := fun s H C cl fp => by
        have hlx : (X.blk s H scope (compEnvC scope cl C X.env) fp).env.scope.names.lookup y = some .local := by subst hsc; exact hl
        exact pg_name (X := X.blk s H scope (compEnvC scope cl C X.env) fp) g.nd own (.inl hlx) (.inr hlx)
      have hel : ∀ (s : Shared) (H : Hp) (C : Addr) (cl : List (Str × Addr)) (fp : List Addr), PE (X.blk s H scope (compEnvC scope cl C X.env) fp) el (tE X.K ca W0 (evE G elt)) := fun s H C cl fp =>
        (chE_ok n (X.blk s H scope (compEnvC scope cl C X.env) fp) (relabelS scope sc) W0 el elt (g.blk s H scope _ fp) hN (by subst hsc; rfl) h6).je
      rcases chC_ok (G := G) (ca := ca) (k := k) _ _ _ h5 with ⟨rfl, rfl⟩ | ⟨a, b, m, rfl, rfl, rfl, h7⟩
      · exact ps_imp (ps_setLc (g.calm top.hot) g.nd hNi (by rw [hsc]; exact hlx) hsw' hi ok hgn (fun s H C cl fp => pts_nil) hel (fun x => fold_of h2 x)) fun D σ H q =>
          t_lc0 (Q := fun x H1 => gName i x σ H1 D.nx) (tE_imp (ts_set q) fun v H' q => tg_name q)
      · have hco : ∀ (s : Shared) (H : Hp) (C : Addr) (cl : List (Str × Addr)) (fp : List Addr), PTs (X.blk s H scope (compEnvC scope cl C X.env) fp) [a] (tTe X.K ca W0 (evE G b)) := fun s H C cl fp =>
          pts_one (chE_ok m (X.blk s H scope (compEnvC scope cl C X.env) fp) (relabelS scope sc) W0 a b (g.blk s H scope _ fp) hN (by subst hsc; rfl) h7).jt
        exact ps_imp (ps_setLc (g.calm top.hot) g.nd hNi (by rw [hsc]; exact hlx) hsw' hi ok hgn hco hel (fun x => fold_of h2 x)) fun D σ H q =>
          t_lc1 (Q := fun x H1 => gName i x σ H1 D.nx) (tE_imp (ts_set q) fun v H' q => tg_name q)
theorem pg_imp {tg : Expr} {g g' : TG} (h : PG X tg g) (k : ∀ v σ H Q, g' v σ H Q → g v σ H Q) : PG X tg g' := ⟨fun pins s σ H v u Q I r q => h.run pins s σ H v u Q I r (k v σ H Q q)⟩
theorem s_set {t : CT} {e : CE} (g : Good X T G ca W k) (top : Top X T) (hN : X.N = N) (hsc : X.env.scope = sc) (hfn : ∀ x, X.fn x = true) (hk : sc.kind = .function) (h : chS T N (n + 1) sc s (.set t e) = true) : JS X ca W G wf s (.set t e) := by
  cases t with
  | name i =>
    cases s with
    | Assign ts v spos =>
      match ts, h with
      | [.Name x p], h =>
        obtain ⟨h1, hv⟩ := ba (show (decide (N[i]? = some x) && isLoc sc x && chE T N n sc v e && setOk sc x p v e) = true from h)
        obtain ⟨h1, h3⟩ := ba h1
        obtain ⟨h1, h2⟩ := ba h1
        have hi1 := of_decide_eq_true h1
        clear h1
        rcases setOk_inv hv with ⟨el, gs, inner, q, rfl, ⟨j, it, cnd, elt, rfl⟩ | ⟨j, it, j2, it2, cnd, elt, rfl⟩, hsw⟩ | hv | ⟨hcell, el, gs, inner, q, rfl⟩
        · exact s_setLc g top hN hsc hk hi1 hsw h3
        · exact s_setLc2 g top hN hsc hk hi1 hsw h3
        · exact ps_imp (ps_set g.nd (by rw [hN]; exact hi1) (loc_of hsc h2) (chE_ok n X sc W v e g hN hsc h3).je (sw_no hv) (.inl (hfn x))) fun D σ H q => tE_imp (ts_set q) fun v H' q => tg_name q
        · exact ps_imp (ps_set g.nd (by rw [hN]; exact hi1) (loc_of hsc h2) (chE_ok n X sc W _ e g hN hsc h3).je (sw_cell hsc hcell) (.inl (hfn x))) fun D σ H q => tE_imp (ts_set q) fun v H' q => tg_name q
    | _ => cases h
  | tup is =>
    cases s with
    | Assign ts v spos =>
      match ts, h with
      | [.Tuple es kk tp], h =>
        obtain ⟨h1, h4⟩ := ba (show (chNs N sc es is && notTup v && notComp v && chE T N n sc v e) = true from h)
        obtain ⟨h1, h3⟩ := ba h1
        obtain ⟨h1, h2⟩ := ba h1
        obtain ⟨r1, r2, r3, r4⟩ := pgs_names hN g.nd hfn hsc h1
        exact ps_imp (ps_asg (chE_ok n X sc W v e g hN hsc h4).je (pg_imp (pg_tup (g.calm top.hot) r1 r2 r3) fun v σ H Q q => tg_tup q) (sws_no h3) (sws_tup h2) rfl) fun D σ H q => ts_set q
    | _ => cases h
  | sub o i =>
    cases s with
    | Assign ts v spos =>
      match ts, h with
      | [.Subscript a b sp], h =>
        obtain ⟨h1, h5⟩ := ba (show (notSlice b && notComp v && chE T N n sc a o && chE T N n sc b i && chE T N n sc v e) = true from h)
        obtain ⟨h1, h4⟩ := ba h1
        obtain ⟨h1, h3⟩ := ba h1
        obtain ⟨h1, h2⟩ := ba h1
        have ra := (chE_ok n X sc W a o g hN hsc h3).je
        have rb := (chE_ok n X sc W b i g hN hsc h4).je
        have hg : PG X (.Subscript a b sp) (tG X.K ca (evT G (.sub o i))) := pg_imp (pg_sub ra rb set_list (by cases b <;> first | (intro _; rfl) | cases h1)) fun v σ H Q q => tE_W0 (tE_imp (tg_sub q) fun x H1 q1 => tE_W0 q1)
        exact ps_imp (ps_asg (chE_ok n X sc W v e g hN hsc h5).je hg (sws_no h2) (by cases v <;> rfl) rfl) fun D σ H q => ts_set q
    | _ => cases h
  | fld o f =>
    cases s with
    | Assign ts v spos =>
      match ts, h with
      | [.Attribute a f' ap], h =>
        obtain ⟨h1, h3⟩ := ba (show (beqS f f' && chE T N n sc a o && chE T N n sc v e) = true from h)
        obtain ⟨h1, h2⟩ := ba h1
        have e1 := beqS_eq h1
        subst e1
        exact ps_imp (ps_fld (chE_ok n X sc W a o g hN hsc h2).je (chE_ok n X sc W v e g hN hsc h3).je sw_attr) fun D σ H q => ts_setf g.cls q
    | _ => cases h
theorem iop_ok {o : Operator} {p : Prim} (h : iopOk o p = true) : ∃ rr, OpR X (inplaceOp o) rr ∧ Ip2 X.K ca rr p := by
  cases o <;> first
    | (cases p <;> first | (cases h; done) | exact ⟨_, iop_add.or iop_add_str, ip_addP⟩)
    | (cases p <;> first | (cases h; done) | exact ⟨_, iop_sub, ip_subP⟩)
    | (cases p <;> (cases h; done))
theorem s_aug {i : Nat} {p : Prim} {e : CE} (g : Good X T G ca W k) (hN : X.N = N) (hsc : X.env.scope = sc) (hfn : ∀ x, X.fn x = true) (h : chS T N (n + 1) sc s (.aug i p e) = true) : JS X ca W G wf s (.aug i p e) := by
  cases s with
  | AugAssign t o v spos =>
    match t, h with
    | .Name x tp, h =>
      obtain ⟨h1, h4⟩ := ba (show (decide (N[i]? = some x) && isLoc sc x && iopOk o p && chE T N n sc v e) = true from h)
      obtain ⟨h1, h3⟩ := ba h1
      obtain ⟨h1, h2⟩ := ba h1
      obtain ⟨rr, o1, p1⟩ := iop_ok (X := X) (ca := ca) h3
      exact ps_imp (ps_aug g.nd (by rw [hN]; exact of_decide_eq_true h1) (loc_of hsc h2) (chE_ok n X sc W v e g hN hsc h4).je o1 (.inl (hfn x))) fun D σ H q => ts_aug p1 q
  | _ => cases h
theorem s_augF {o e : CE} {f : Str} {p : Prim} (g : Good X T G ca W k) (hN : X.N = N) (hsc : X.env.scope = sc) (hfn : ∀ x, X.fn x = true) (h : chS T N (n + 1) sc s (.augF o f p e) = true) : JS X ca W G wf s (.augF o f p e) := by
  cases s with
  | AugAssign t op v spos =>
    match t, h with
    | .Attribute a f' tp, h =>
      obtain ⟨h1, h4⟩ := ba (show (beqS f f' && iopOk op p && chE T N n sc a o && chE T N n sc v e) = true from h)
      obtain ⟨h1, h3⟩ := ba h1
      obtain ⟨h1, h2⟩ := ba h1
      have e1 := beqS_eq h1
      subst e1
      obtain ⟨rr, o1, p1⟩ := iop_ok (X := X) (ca := ca) h2
      exact ps_imp (ps_fldaug (chE_ok n X sc W a o g hN hsc h3).je (chE_ok n X sc W v e g hN hsc h4).je o1) fun D σ H q => ts_augF g.cls p1 q
  | _ => cases h
theorem s_drop {e : CE} (g : Good X T G ca W k) (hN : X.N = N) (hsc : X.env.scope = sc) (h : chS T N (n + 1) sc s (.drop e) = true) : JS X ca W G wf s (.drop e) := by
  cases s with
  | Expr v spos =>
    obtain ⟨h1, h2⟩ := ba (show (notComp v && chE T N n sc v e) = true from h)
    exact ps_imp (ps_expr (chE_ok n X sc W v e g hN hsc h2).je (sw_no h1)) fun D σ H q => ts_drop q
  | _ => cases h
theorem s_app {o e : CE} (g : Good X T G ca W k) (hN : X.N = N) (hsc : X.env.scope = sc) (h : chS T N (n + 1) sc s (.app o e) = true) : JS X ca W G wf s (.app o e) := by
  cases s with
  | Expr v spos =>
    match v, h with
    | .Call (.Attribute v m apos) [a] [] pos, h =>
      obtain ⟨h1, h6⟩ := ba (show (beqS m "append" && notCall v && (apos.endLine == pos.line) && notStar a && chE T N n sc v o && chE T N n sc a e) = true from h)
      obtain ⟨h1, h5⟩ := ba h1
      obtain ⟨h1, h4⟩ := ba h1
      obtain ⟨h1, h3⟩ := ba h1
      obtain ⟨h1, h2⟩ := ba h1
      have e1 := beqS_eq h1
      subst e1
      have hs : ∀ z ∈ [a], notStar z = true := fun z m => by cases m with
        | head => exact h4
        | tail _ m => cases m
      have ja := ja_cons (chE_ok n X sc W a e g hN hsc h6).je ja_nil (star_of (es := []) h4)
      have pe := pe_bm PySem.F.plainAttrs_list PySem.F.slot_list_append PySem.F.type_list_append mt_append (chE_ok n X sc W v o g hN hsc h5).je ja (base_of h2) (star_few hs (by show 1 < 20; decide)) h3 (star_of h4) rfl
      exact ps_imp (ps_expr pe rfl) fun D σ H q => ts_app q
  | _ => cases h
theorem s_ext {o e : CE} (g : Good X T G ca W k) (hN : X.N = N) (hsc : X.env.scope = sc) (h : chS T N (n + 1) sc s (.ext o e) = true) : JS X ca W G wf s (.ext o e) := by
  cases s with
  | Expr v spos =>
    match v, h with
    | .Call (.Attribute v m apos) [a] [] pos, h =>
      obtain ⟨h1, h6⟩ := ba (show (beqS m "extend" && notCall v && (apos.endLine == pos.line) && notStar a && chE T N n sc v o && chE T N n sc a e) = true from h)
      obtain ⟨h1, h5⟩ := ba h1
      obtain ⟨h1, h4⟩ := ba h1
      obtain ⟨h1, h3⟩ := ba h1
      obtain ⟨h1, h2⟩ := ba h1
      have e1 := beqS_eq h1
      subst e1
      have hs : ∀ z ∈ [a], notStar z = true := fun z m => by cases m with
        | head => exact h4
        | tail _ m => cases m
      have ja := ja_cons (chE_ok n X sc W a e g hN hsc h6).je ja_nil (star_of (es := []) h4)
      have pe := pe_bm PySem.F.plainAttrs_list PySem.F.slot_list_extend PySem.F.type_list_extend mt_extR (chE_ok n X sc W v o g hN hsc h5).je ja (base_of h2) (star_few hs (by show 1 < 20; decide)) h3 (star_of h4) rfl
      exact ps_imp (ps_expr pe rfl) fun D σ H q => ts_ext q
  | _ => cases h
theorem s_fr {t : CT} {it : CI} {b : List CS} (hSs : OkSs T N G ca k wf n) (g : Good X T G ca W k) (top : Top X T) (hN : X.N = N) (hsc : X.env.scope = sc) (hfn : ∀ x, X.fn x = true) (hk : sc.kind = .function) (h : chS T N (n + 1) sc s (.fr t it b) = true) : JS X ca W G wf s (.fr t it b) := by
  cases t with
  | name i =>
    cases s with
    | For tg iter body orelse spos =>
      match tg, orelse, h with
      | .Name x p, [], h =>
        obtain ⟨h1, h5⟩ := ba (show (decide (N[i]? = some x) && isLoc sc x && notSet iter && chI T N n sc (.Name x p) iter it && chSs T N n sc body b) = true from h)
        obtain ⟨h1, h4⟩ := ba h1
        obtain ⟨h1, h3⟩ := ba h1
        obtain ⟨h1, h2⟩ := ba h1
        exact ps_imp (ps_for g.po (g.calm top.hot) (chI_okA n X sc W _ iter it g hN hsc h4) (jgN g hN hsc hfn (of_decide_eq_true h1) h2) (hSs X sc W body b g hN hsc hfn hk top h5) (fun x => fold_of h3 x)) fun D σ H q => ts_fr q
    | _ => cases h
  | tup is =>
    cases s with
    | For tg iter body orelse spos =>
      match tg, orelse, h with
      | .Tuple es kk p, [], h =>
        obtain ⟨h1, h4⟩ := ba (show (chNs N sc es is && notSet iter && chI T N n sc (.Tuple es kk p) iter it && chSs T N n sc body b) = true from h)
        obtain ⟨h1, h3⟩ := ba h1
        obtain ⟨h1, h2⟩ := ba h1
        obtain ⟨r1, r2, r3, r4⟩ := pgs_names hN g.nd hfn hsc h1
        exact ps_imp (ps_for g.po (g.calm top.hot) (chI_okA n X sc W _ iter it g hN hsc h3) (pg_imp (pg_tup (g.calm top.hot) r1 r2 r3) fun v σ H Q q => tg_tup q) (hSs X sc W body b g hN hsc hfn hk top h4) (fun x => fold_of h2 x)) fun D σ H q => ts_fr q
    | _ => cases h
  | sub o i => cases s <;> cases h
  | fld o f => cases s <;> cases h
theorem s_rse {c : Nat} {es : List CE} (g : Good X T G ca W k) (top : Top X T) (hN : X.N = N) (hsc : X.env.scope = sc) (h : chS T N (n + 1) sc s (.rse c es) = true) : JS X ca W G wf s (.rse c es) := by
  cases es with
  | cons e1 es1 => exact ⟨fun pins s σ H Q I h => by
      obtain ⟨F, ρ, st, env, rel, eok, h⟩ := h
      exact h.elim⟩
  | nil =>
  cases s with
  | Raise e cause spos =>
    match e, cause, h with
    | some (.Call (.Name x p) [.Constant (.str m) j p2] [] pos), none, h =>
      obtain ⟨h1, h3⟩ := ba (show (T.excs.contains (x, c) && isGl sc x && notDbg x) = true from h)
      obtain ⟨h1, h2⟩ := ba h1
      obtain ⟨g1, g2, g3, g4⟩ := g.excs x c (memF h1)
      obtain ⟨d1, d2, d3⟩ := dbg_of h3
      exact ps_imp (ps_raise (g.calm top.hot) g.tk (pmk_own PySem.F.excBase_ValueError g4 g1 g2 g3 (gl_of hsc h2) d1)) fun D σ H q => ts_rse q
  | _ => cases h
theorem Rel.other {K : PySem.W.Frag} {H F : Hp} {ρ : List Addr} {st : Sto} {a : Addr} {o : HO} (rel : Rel K ca H F ρ st) (ha : H a = none) : Rel K ca (upd H a o) F ρ st ∧ Ext ρ H F ρ (upd H a o) F := by
  have ne : ∀ {b : Addr} {u : HO}, H b = some u → b ≠ a := fun {b u} z e => by rw [e, ha] at z; cases z
  have ex : Ext ρ H F ρ (upd H a o) F := ⟨fun _ _ h => h, ⟨[], by simp, by simp⟩, fun b u h _ => by rw [upd_ne (ne h)]; exact h, fun b u h => ⟨u, by rw [upd_ne (ne h)]; exact h⟩, fun _ _ h => .inl h⟩
  refine ⟨⟨fun b u h => by rw [upd_ne (ne (rel.sub _ _ h))]; exact rel.sub _ _ h, rel.nd, ?_⟩, ex⟩
  refine Paired.imp (fun b c hc => ?_) rel.cells
  refine hc.ext ex ?_ rfl
  have hb : ∃ u, H b = some u := by
    cases c with
    | lst xs => obtain ⟨_, vs, q, _⟩ := hc; exact ⟨_, q⟩
    | frz xs => obtain ⟨vs, q, _⟩ := hc; exact ⟨_, rel.sub _ _ q⟩
    | obj c fs => obtain ⟨_, dx, vfs, q, _⟩ := hc; exact ⟨_, q⟩
    | dct kvs => obtain ⟨_, vks, q, _⟩ := hc; exact ⟨_, q⟩
  obtain ⟨u, hu⟩ := hb
  exact upd_ne (ne hu)
theorem ts_rsf {K : PySem.W.Frag} {σ : L2.St} {H : Hp} {D : Ends} {c : Nat} {f : Str} {e : CE} (hC : OexC K (ca c)) (hno : PySem.W.findIn K (.ref (ca c)) f = some none) (h : tS K ca W (evS G wf (.rsf c f e)) D σ H) :
    G.deep = true ∧ tMkO (ca c) (spX K f) [] (tEs K ca W (evEs G [e])) σ H fun cls d H' => W cls d σ H' := by
  obtain ⟨F, ρ, st, env, rel, eok, h⟩ := h
  have h0 : SPost K ca W H F ρ (match G.deep with
    | true => lift env (evE G e env st) fun s st1 => (match s with
      | .d (.str x) => .exc c [(f, .str x)] env st1
      | _ => .bad)
    | false => .bad) D := h
  cases q : G.deep with
  | false => rw [q] at h0; exact h0.elim
  | true =>
  rw [q] at h0
  have h' : SPost K ca W H F ρ (lift env (evE G e env st) fun s st1 => (match s with
    | .d (.str x) => .exc c [(f, .str x)] env st1
    | _ => .bad)) D := h0
  refine ⟨rfl, F, ρ, st, env, rel, eok, ?_⟩
  show PostA K ca (at_ W σ) H F ρ ((evE G e env st).bind fun s st1 => (Rs.ok [] st1).bind fun ss st2 => .ok (s :: ss) st2) _
  revert h'
  cases evE G e env st with
  | exc c2 p st1 => exact fun h' H' F' ρ' ex rel' => h' σ H' F' ρ' ex rel' (eok.ext ex)
  | bad => exact fun h' => h'.elim
  | ok s st1 =>
    cases s with
    | r n => exact fun h' => h'.elim
    | d x =>
      cases x with
      | str x =>
        intro h2 vs H1 F1 ρ1 e1 rel1 rv
        cases rv with
        | @cons v _ _ _ r1 r2 =>
          cases r2
          have ev : v = .str x := by cases (show DRep K F1 v (.str x) from r1); rfl
          subst ev
          refine ⟨by simp, fun a ha => ⟨a, ca c, .str x, rfl, hC, hno, upd_same, fun dx hdx hne => ⟨rfl, dx, [(f, .str x)], upd_same, ?_, ?_, ?_⟩⟩⟩
          · rw [upd_ne hne, upd_same]
          · rw [upd_ne hne] at hdx; exact hdx
          · rw [upd_ne hne] at hdx
            have eH : upd (del (upd (upd (upd H1 a (exo a (ca c) none)) dx (exd dx [(f, .str x)])) a (exo a (ca c) (some dx))) a) dx (.xd [(f, V.str x)]) = upd H1 dx (.xd [(f, V.str x)]) := by
              funext b
              by_cases hb : b = dx
              · subst hb; rw [upd_same, upd_same]
              · rw [upd_ne hb, upd_ne hb]
                by_cases hba : b = a
                · subst hba; rw [del_same, ha]
                · rw [del_ne hba, upd_ne hba, upd_ne hb, upd_ne hba]
            rw [eH]
            obtain ⟨rel2, ex2⟩ := rel1.other (o := .xd [(f, V.str x)]) hdx
            have h3 := h2 σ (upd H1 dx (.xd [(f, V.str x)])) F1 ρ1 (e1.trans ex2) rel2 (eok.ext (e1.trans ex2))
            exact h3 dx [(f, .str x)] upd_same (.cons ⟨rfl, .str x⟩ .nil)
      | _ => exact fun h' => h'.elim
theorem ts_dput {K : PySem.W.Frag} {σ : L2.St} {H : Hp} {D : Ends} {o i e : CE} (h : tS K ca W (evS G wf (.dput o i e)) D σ H) : sDPut (tE K ca W (evE G o)) (tE K ca W (evE G i)) (tE K ca W (evE G e)) D σ H := by
  obtain ⟨F, ρ, st, env, rel, eok, h⟩ := h
  have h' : SPost K ca W H F ρ (lift env (evE G e env st) fun s st1 => lift env (evE G o env st1) fun so st2 => lift env (evE G i env st2) fun si st3 => dputR env s (onD st3 so) (strK si) st3) D := h
  refine ⟨F, ρ, st, env, rel, eok, h'.lift eok fun s st1 v H1 F1 ρ1 _ e1 rel1 rv p1 => ?_⟩
  refine ⟨F1, ρ1, st1, env, rel1, eok.ext e1, p1.lift (eok.ext e1) fun so st2 x H2 F2 ρ2 _ e2 rel2 rx p2 => ?_⟩
  refine ⟨F2, ρ2, st2, env, rel2, (eok.ext e1).ext e2, p2.lift ((eok.ext e1).ext e2) fun si st3 y H3 F3 ρ3 _ e3 rel3 ry p3 => ?_⟩
  cases s with
  | r n => exact p3.elim
  | d d =>
    cases q1 : onD st3 so with
    | none => rw [q1] at p3; exact p3.elim
    | some p =>
      cases q2 : strK si with
      | none => rw [q1, q2] at p3; exact p3.elim
      | some z =>
        rw [q1, q2] at p3
        have p4 : SPost K ca W H3 F3 ρ3 (match decide (p.2.length < 1000000) with
          | true => .next env (setC st3 p.1 (.dct (putD p.2 z d)))
          | false => .bad) D := p3
        cases q3 : decide (p.2.length < 1000000) with
        | false => rw [q3] at p4; exact p4.elim
        | true =>
          rw [q3] at p4
          obtain ⟨a, vks, rfl, ha, fa, Ha, hk⟩ := onD_inv (n := p.1) (kvs := p.2) rel3 ((rx.ext e3)) q1
          have ey := strK_inv ry q2
          have hl : vks.length < sizeLine := by
            have e1 : vks.length = p.2.length := Paired.length hk
            have e2 := of_decide_eq_true q3
            rw [sizeLine_eq]
            omega
          have dv : DRep K F3 v d := DRep.mono e3.ff (DRep.mono e2.ff rv)
          have E1 : Ext ρ3 H3 F3 ρ3 (upd H3 a (.dK (putK vks (.inr z) v))) F3 := Ext.set ha
          refine ⟨a, upd H3 a (.dK (putK vks (.inr z) v)), rfl, by rw [ey]; exact DPut.k Ha hl, ?_⟩
          exact p4 σ _ F3 ρ3 E1 (rel3.set ha fa ⟨fa, _, upd_same, kv_put hk dv⟩) ((((eok.ext e1).ext e2).ext e3).ext E1)
theorem s_dput {o i e : CE} (g : Good X T G ca W k) (hN : X.N = N) (hsc : X.env.scope = sc) (h : chS T N (n + 1) sc s (.dput o i e) = true) : JS X ca W G wf s (.dput o i e) := by
  cases s with
  | Assign ts v spos =>
    match ts, h with
    | [.Subscript a b sp], h =>
      obtain ⟨h1, h5⟩ := ba (show (notSlice b && notComp v && chE T N n sc a o && chE T N n sc b i && chE T N n sc v e) = true from h)
      obtain ⟨h1, h4⟩ := ba h1
      obtain ⟨h1, h3⟩ := ba h1
      obtain ⟨h1, h2⟩ := ba h1
      exact ps_imp (ps_dput (by have := g.units; omega) (chE_ok n X sc W a o g hN hsc h3).je (chE_ok n X sc W b i g hN hsc h4).je (chE_ok n X sc W v e g hN hsc h5).je (sw_no h2)) fun D σ H q => ts_dput q
  | _ => cases h
theorem l2room {A : Around} (r : Room k A) (h : 200 ≤ k) : L2.Room 64 A := ⟨r.hd, by have := r.dp; omega, by have := r.un; omega⟩
theorem s_rsf {c : Nat} {f : Str} {e : CE} (g : Good X T G ca W k) (top : Top X T) (hN : X.N = N) (hsc : X.env.scope = sc) (h : chS T N (n + 1) sc s (.rsf c f e) = true) : JS X ca W G wf s (.rsf c f e) := by
  cases s with
  | Raise e1 cause spos =>
    match e1, cause, h with
    | some (.Call (.Name x p) [a] [] pos), none, h =>
      obtain ⟨h1, h5⟩ := ba (show ((T.xis.any fun p => decide (p.1 = x ∧ p.2.1 = c ∧ p.2.2.2 = f)) && isGl sc x && notDbg x && notStar a && chE T N n sc a e) = true from h)
      obtain ⟨h1, h4⟩ := ba h1
      obtain ⟨h1, h3⟩ := ba h1
      obtain ⟨h1, h2⟩ := ba h1
      obtain ⟨⟨x', c', i, f'⟩, hm, hq⟩ := List.any_eq_true.mp h1
      obtain ⟨q1, q2, q3⟩ := of_decide_eq_true hq
      dsimp only at q1 q2 q3
      subst q1 q2 q3
      obtain ⟨g1, fa, fd, ps, g2, g3, g4, g5, g6, g7⟩ := g.xis _ _ _ _ hm
      obtain ⟨d1, d2, d3⟩ := dbg_of h3
      have ja := ja_cons (chE_ok n X sc W a e g hN hsc h5).je ja_nil (star_of (es := []) h4)
      refine ⟨fun pins s σ H Q I h => ?_⟩
      obtain ⟨hd, q⟩ := ts_rsf g2 g5 h
      have room := l2room (g.room top.hot) (g.deep hd)
      exact (ps_raise (g.calm top.hot) g.tk (pmk_oex g2 g3 g4 g7 room g6 .nil pass0 (gl_of hsc h2) g1 ja d1 (star_of h4) rfl)).run pins s σ H Q I q
  | _ => cases h
/-! ### try: .. except C as e: .. -/
theorem EnvOk.blind {K : PySem.W.Frag} {F : Hp} {ρ : List Addr} {σ : L2.St} {env : Ev} (h : EnvOk K F ρ σ env) (j : Nat) (x : Option V) : EnvOk K F ρ (σ.set j x) (env.set j none) := by
  refine ⟨by rw [List.length_set, List.length_set]; exact h.1, fun m t hm => ?_⟩
  by_cases e : j = m
  · subst e
    have hi : j < env.length := by
      have q := (List.getElem?_eq_some_iff.mp hm).1
      rwa [List.length_set] at q
    rw [List.getElem?_set_self hi] at hm
    cases hm
  · rw [List.getElem?_set_ne e] at hm ⊢
    exact h.2 m t hm
/-- what the exception holds, in the heap -/
def PayOk (d : Option Addr) (p : List (Str × PyData)) (H : Hp) : Prop := (p = [] ∧ d = none) ∨ ∃ dd f x, d = some dd ∧ p = [(f, PyData.str x)] ∧ H dd = some (.xd [(f, .str x)])
theorem PayOk.ext {K : PySem.W.Frag} {d : Option Addr} {p : List (Str × PyData)} {H F H' F' : Hp} {ρ ρ' : List Addr} {st : Sto} (h : PayOk d p H) (rel : Rel K ca H F ρ st) (e : Ext ρ H F ρ' H' F') : PayOk d p H' := by
  rcases h with h | ⟨dd, f, x, h1, h2, h3⟩
  · exact .inl h
  · refine .inr ⟨dd, f, x, h1, h2, e.hh _ _ h3 fun hm => ?_⟩
    obtain ⟨j, hj⟩ := List.mem_iff_getElem?.mp hm
    have hlt : j < st.length := by rw [← rel.len]; exact (List.getElem?_eq_some_iff.mp hj).1
    obtain ⟨a, ha, hc⟩ := rel.cell (List.getElem?_eq_getElem hlt)
    rw [hj] at ha
    cases ha
    revert hc
    cases st[j] with
    | lst xs => rintro ⟨_, vs, q, _⟩; rw [h3] at q; cases q
    | frz xs => rintro ⟨vs, q, _⟩; have q2 := rel.sub _ _ q; rw [h3] at q2; cases q2
    | obj c fs => rintro ⟨_, dx, vfs, q, _⟩; rw [h3] at q; cases q
    | dct kvs => rintro ⟨_, vks, q, _⟩; rw [h3] at q; cases q
/-- the payload stands through an evaluation -/
theorem tE_pay {K : PySem.W.Frag} {d : Option Addr} {p : List (Str × PyData)} {H : Hp} {r : Ev → Sto → Rs Sv} {σ : L2.St} {Q : VK} (hp : PayOk d p H) (q : tE K ca W r σ H Q) : tE K ca W r σ H fun v H1 => PayOk d p H1 ∧ Q v H1 := by
  obtain ⟨F, ρ, st, env, rel, eok, h⟩ := q
  refine ⟨F, ρ, st, env, rel, eok, ?_⟩
  revert h
  cases r env st with
  | ok w st1 => exact fun h v H1 F1 ρ1 e1 rel1 rv => ⟨hp.ext rel e1, h v H1 F1 ρ1 e1 rel1 rv⟩
  | exc c p st1 => exact fun h => h
  | bad => exact fun h => h
def tEh (K : PySem.W.Frag) (ca : Nat → Addr) (i : Nat) (a : Addr) (d : Option Addr) (p : List (Str × PyData)) (r : Ev → Sto → Rs Sv) : TE := fun σ H Q => σ[i]? = some (some (.ref a)) ∧ PayOk d p H ∧ tE K ca W0 r σ H Q
def tTh (K : PySem.W.Frag) (ca : Nat → Addr) (i : Nat) (a : Addr) (d : Option Addr) (p : List (Str × PyData)) (r : Ev → Sto → Rs Sv) : TT := fun σ H Q => tEh K ca i a d p r σ H fun v H' => ∃ b, v = .bl b ∧ Q b H'
structure OkH (X : Cx) (ca : Nat → Addr) (i : Nat) (a : Addr) (d : Option Addr) (p : List (Str × PyData)) (G : Ctx) (e : Expr) (c : CE) : Prop where
  je : PE X e (tEh X.K ca i a d p (evE G c))
  jt : PT X e (tTh X.K ca i a d p (evE G c))
  jw : ∀ op vs pos, e = .BoolOp op vs pos → PW X e (tTh X.K ca i a d p (evE G c))
theorem OkH.pure {X : Cx} {i : Nat} {a : Addr} {d : Option Addr} {p : List (Str × PyData)} {e : Expr} {c : CE} (h : Ok X ca W0 G e c) : OkH X ca i a d p G e c := ⟨pe_imp h.je fun _ _ _ q => q.2.2, pt_imp h.jt fun _ _ _ q => q.2.2, fun op vs pos e => pw_imp (h.jw op vs pos e) fun _ _ _ q => q.2.2⟩
theorem OkH.plain {X : Cx} {i : Nat} {a : Addr} {d : Option Addr} {p : List (Str × PyData)} {e : Expr} {c : CE} (h : PE X e (tEh X.K ca i a d p (evE G c))) (hb : ∀ op vs pos, e ≠ .BoolOp op vs pos) (he : ∀ whole, isTrue e X.env whole = (do let v ← whole; standAt e.pos; holding [v] (truthy v))) : OkH X ca i a d p G e c := ⟨h, pt_imp (pt_val h he) fun _ _ _ q => q, fun op vs pos e => absurd e (hb op vs pos)⟩
theorem exP_some {e : Expr} {x y z : Str} {p p1 p2 : Pos} (h : exP e = some (x, p, y, p1, z, p2)) : ∃ pos, e = .Call (.Name x p) [.Name y p1, .Name z p2] [] pos := by
  unfold exP at h
  split at h
  · cases h
    exact ⟨_, rfl⟩
  · cases h
theorem triP_some {s : Stmt} {body suite : List Stmt} {x nm : Str} {p : Pos} {b0 : Stmt} (h : triP s = some (body, x, p, nm, b0, suite)) : ∃ pos' pos, s = .Try body [.ExceptHandler (some (.Name x p)) (some nm) (b0 :: suite) pos'] [] [] pos := by
  unfold triP at h
  split at h
  · cases h
    exact ⟨_, _, rfl⟩
  · cases h
/-- isinstance of the exception that the suite holds, whatever it holds -/
def rIsD (K : PySem.W.Frag) (D a : Addr) (d : Option Addr) : List V → Hp → VK → Prop := fun xs H Q => ∃ (c : V) (cv : Value) (b : Bool), xs = [.ref a, c] ∧ (∀ u, RelV c u → u = cv) ∧ PySem.W.kitOne K (.ref D) cv = some b ∧ (d = none ∨ ∃ dd fs, d = some dd ∧ H dd = some (.xd fs)) ∧ Q (.bl b) H
theorem call_isD {X : Cx} {a D : Addr} {d : Option Addr} {oe : Obj} {pn : List (Addr × Obj)} (C : ExcC X.K D) (hz : Zc (.ref D) d oe) (hf : ∃ vs, oe.data = .fields vs) : CallR (X.suite a ((a, oe) :: pn)) (.builtin "isinstance") (rIsD X.K D a d) := by
  intro pins s σ H xs us Q I r h
  obtain ⟨c, cv, b, rfl, hcv, e, hd, q⟩ := h
  cases r with
  | cons rx rr =>
    cases rr with
    | cons rt rr =>
      cases rr
      cases rx
      have ec := hcv _ rt
      subst ec
      obtain ⟨hget, _⟩ := I.pin (a, oe) (List.mem_append.mpr (.inl List.mem_cons_self))
      obtain ⟨vs, hv⟩ := hf
      obtain ⟨od, J⟩ : ∃ od, PySem.W.InstAt s.heap a oe D od := by
        rcases hd with rfl | ⟨dd, fs, rfl, hx⟩
        · refine ⟨none, ?_⟩
          obtain ⟨oc, od, oda, osl⟩ := oe
          obtain ⟨h1, h2⟩ := hz
          dsimp only at h1 h2 hv
          subst h1 h2 hv
          exact ⟨hget, rfl, rfl, trivial⟩
        · have hx' : ObjOk X.prog X.w H s.heap dd (.xd fs) := I.hok dd _ hx
          obtain ⟨mA, hns, hr⟩ := hx'
          obtain ⟨od, ho, hl⟩ := lookIn_ns hns
          exact ⟨some od, hget, hz.1, by unfold PySem.W.notCls; rw [hv] <;> rfl, by rw [hz.2]; exact ho⟩
      have hcl : (PySem.W.clsIn X.K D).isSome = true := by
        have q := C.hd
        unfold PySem.W.hasDictIn at q
        cases z : PySem.W.clsIn X.K D with
        | none => rw [z] at q; cases q
        | some _ => rfl
      exact PySem.W.kia_one (PySem.W.kitx_exc hcl C.hg C.hk C.hs C.ha C.hn C.ht C.hm) I.kIn J e (fun z => nomatch z) fun tk => ⟨.bl b, H, I.kept (t' := tk) fun _ _ z => z, rfl, q⟩
section
variable {X : Cx} {a : Addr} {d : Option Addr} {p : List (Str × PyData)} {i c : Nat} {G : Ctx}
theorem okh_is {oe : Obj} {pn : List (Addr × Obj)} {y z : Str} {p0 p1 p2 pos : Pos} {d0 : Nat} (hx : ExcC X.K (ca c)) (he : G.exn = some c) (hsub : ∀ r, G.sub c d0 = some r → PySem.W.kitOne X.K (.ref (ca c)) (.ref (ca d0)) = some r) (hz : Zc (.ref (ca c)) d oe) (hf : ∃ vs, oe.data = .fields vs)
    (hg : Gl X "isinstance") (hm : X.mg "isinstance" = none) (hN : X.N[i]? = some y) (hv : Vis X.env.scope y) (hd : notDbg y = true) (hgz : Gl X z) (hmz : X.mg z = some (.ref (ca d0))) (hdz : notDbg z = true) : OkH (X.suite a ((a, oe) :: pn)) ca i a d p G (.Call (.Name "isinstance" p0) [.Name y p1, .Name z p2] [] pos) (.exIs d0) := by
  obtain ⟨d1, d2, d3⟩ := dbg_of hd
  obtain ⟨f1, f2, f3⟩ := dbg_of hdz
  have je : PE (X.suite a ((a, oe) :: pn)) (.Call (.Name "isinstance" p0) [.Name y p1, .Name z p2] [] pos) (tEh X.K ca i a d p (evE G (.exIs d0))) := by
    refine pe_imp (pe_callB (X := X.suite a ((a, oe) :: pn)) (call_isD hx hz hf) hg hm (by decide +kernel) (pa_cons (pe_var hN hv d1 d2) (pa_cons (pe_glob (v := .ref (ca d0)) hgz hmz rfl f1) pa_nil)) (by decide) (by decide) rfl rfl) fun σ H Q ⟨hs, hp, F, ρ, st, env, rel, eok, h⟩ => ?_
    have h' : Post X.K ca (at_ W0 σ) H F ρ (match G.exn with
      | some k => (match G.sub k d0 with
        | some b => .ok (.d (.bool b)) st
        | none => .bad)
      | none => .bad) Q := h
    rw [he] at h'
    have h2 : Post X.K ca (at_ W0 σ) H F ρ (match G.sub c d0 with
        | some b => .ok (.d (.bool b)) st
        | none => .bad) Q := h'
    cases q : G.sub c d0 with
    | none => rw [q] at h2; exact h2.elim
    | some b =>
      rw [q] at h2
      have hpd : d = none ∨ ∃ dd fs, d = some dd ∧ H dd = some (.xd fs) := by
        rcases hp with ⟨_, h⟩ | ⟨dd, f, x, h1, _, h3⟩
        · exact .inl h
        · exact .inr ⟨dd, _, h1, h3⟩
      exact ⟨.ref a, hs, .ref (ca d0), .ref (ca d0), b, rfl, fun u r => r, hsub b q, hpd, here_bl h2 rel⟩
  exact .plain je (fun _ _ _ q => nomatch q) fun _ => rfl
/-- the exception's field -/
theorem okh_xf {oe : Obj} {pn : List (Addr × Obj)} {y f : Str} {p1 pos : Pos} (he : G.exn = some c) (hpay : G.pay = p) (hxf : G.xf c f = true → XfC X.K (ca c) ∧ PySem.W.findIn X.K (.ref (ca c)) f = some none) (hz : Zc (.ref (ca c)) d oe) (hf : ∃ vs, oe.data = .fields vs)
    (hN : X.N[i]? = some y) (hv : Vis X.env.scope y) (hd : notDbg y = true) : OkH (X.suite a ((a, oe) :: pn)) ca i a d p G (.Attribute (.Name y p1) f pos) (.exF f) := by
  obtain ⟨d1, d2, d3⟩ := dbg_of hd
  have key : ∀ {σ : L2.St} {H : Hp} {Q : VK}, tEh X.K ca i a d p (evE G (.exF f)) σ H Q → (XfC X.K (ca c) ∧ PySem.W.findIn X.K (.ref (ca c)) f = some none) ∧ tXf a (.ref (ca c)) d (ca c) f (tVar i) σ H Q := fun {σ H Q} ⟨hs, hp, F, ρ, st, env, rel, eok, h⟩ => by
    have h' : Post X.K ca (at_ W0 σ) H F ρ (match G.exn with
      | some k => (match G.pay.lookup f, G.xf k f with
        | some (.str x), true => .ok (.d (.str x)) st
        | _, _ => .bad)
      | none => .bad) Q := h
    rw [he, hpay] at h'
    have h2 : Post X.K ca (at_ W0 σ) H F ρ (match p.lookup f, G.xf c f with
        | some (.str x), true => .ok (.d (.str x)) st
        | _, _ => .bad) Q := h'
    rcases hp with ⟨rfl, _⟩ | ⟨dd, g, x, e1, rfl, e3⟩
    · exact h2.elim
    · by_cases hfg : f = g
      · subst hfg
        have el : ([(f, PyData.str x)] : List (Str × PyData)).lookup f = some (.str x) := by simp [List.lookup]
        have el2 : ([(f, V.str x)] : List (Str × V)).lookup f = some (.str x) := by simp [List.lookup]
        rw [el] at h2
        cases q : G.xf c f with
        | false => rw [q] at h2; exact h2.elim
        | true =>
          rw [q] at h2
          exact ⟨hxf q, .ref a, hs, rfl, rfl, dd, _, _, e1, e3, el2, h2 _ H F ρ (Ext.refl _ _ _) rel (.str x)⟩
      · have eb : (f == g) = false := by simpa using hfg
        have el : ([(g, PyData.str x)] : List (Str × PyData)).lookup f = none := by simp [List.lookup, eb]
        rw [el] at h2
        exact h2.elim
  have je : PE (X.suite a ((a, oe) :: pn)) (.Attribute (.Name y p1) f pos) (tEh X.K ca i a d p (evE G (.exF f))) := ⟨fun pins s σ H Q I q => by
    obtain ⟨⟨k1, k2⟩, k3⟩ := key q
    exact (pe_xf (X := X) (cls := .ref (ca c)) (d := d) k1 k2 hz hf (pe_var hN hv d1 d2) rfl).run pins s σ H Q I k3⟩
  exact .plain je (fun _ _ _ q => nomatch q) fun _ => rfl
theorem okh_eq {e b : Expr} {c1 c2 : CE} {pos : Pos} (hu : X.A.units + 1190 < cLine) (hs : notSet b = true) (h : OkH X ca i a d p G e c1) (k : OkH X ca i a d p G b c2) : OkH X ca i a d p G (.Compare e [.Eq] [b] pos) (.op .eq [c1, c2]) := by
  have je : PE X (.Compare e [.Eq] [b] pos) (tEh X.K ca i a d p (evE G (.op .eq [c1, c2]))) := pe_imp (pe_cmpR (op_eq.or (op_eqX hu)) h.je k.je (set_of hs)) fun σ H Q ⟨hs, hp, q⟩ => by
    have q1 : tOp (rEqP X.K) (tE X.K ca W0 (evE G c1)) (tE X.K ca W0 (evE G c2)) σ H Q := t_op2 p_eq q
    exact ⟨hs, hp, tE_imp (tE_pay hp q1) fun x H1 ⟨hp1, q2⟩ => ⟨hs, hp1, q2⟩⟩
  have jt : PT X (.Compare e [.Eq] [b] pos) (tTh X.K ca i a d p (evE G (.op .eq [c1, c2]))) := pt_imp (pt_cmpR (op_eq.or (op_eqX hu)) h.je k.je (set_of hs)) fun σ H Q ⟨hs, hp, q⟩ => by
    have q1 : tOp (rEqP X.K) (tE X.K ca W0 (evE G c1)) (tE X.K ca W0 (evE G c2)) σ H fun v H' => ∃ b, v = .bl b ∧ Q b H' := t_op2 p_eq q
    exact ⟨hs, hp, tE_imp (tE_pay hp q1) fun x H1 ⟨hp1, q2⟩ => ⟨hs, hp1, q2⟩⟩
  exact ⟨je, jt, fun _ _ _ q => nomatch q⟩
theorem okh_not {e : Expr} {c : CE} {pos : Pos} (h : OkH X ca i a d p G e c) : OkH X ca i a d p G (.UnaryOp .Not e pos) (.not_ c) :=
  ⟨pe_imp (pe_not h.je) fun σ H Q q => ⟨q.1, q.2.1, t_not q.2.2⟩, pt_imp (pt_not h.jt) fun σ H Q q => ⟨q.1, q.2.1, tt_not q.2.2⟩, fun _ _ _ q => nomatch q⟩
theorem okh_one {op : BoolOp} {e : Expr} {c : CE} {pos : Pos} (h : OkH X ca i a d p G e c) : OkH X ca i a d p G (.BoolOp op [e] pos) c := by
  have w : PW X (.BoolOp op [e] pos) (tTh X.K ca i a d p (evE G c)) := by
    cases op with
    | And => exact pw_and1 h.jt
    | Or => exact pw_or1 h.jt
  exact ⟨pe_one h.je, w.pt, fun _ _ _ _ => w⟩
theorem okh_and {e b : Expr} {r : List Expr} {c1 c2 : CE} {pos : Pos} (h : OkH X ca i a d p G e c1) (k : OkH X ca i a d p G (.BoolOp .And (b :: r) pos) c2) : OkH X ca i a d p G (.BoolOp .And (e :: b :: r) pos) (.and_ c1 c2) := by
  have w : PW X (.BoolOp .And (e :: b :: r) pos) (tTh X.K ca i a d p (evE G (.and_ c1 c2))) := pw_imp (pw_and h.jt (k.jw _ _ _ rfl)) fun σ H Q ⟨hs, hp, q⟩ => by
    have q1 : tAnd (tTe X.K ca W0 (evE G c1)) (tTe X.K ca W0 (evE G c2)) σ H Q := tt_and q
    refine ⟨hs, hp, tE_imp (tE_pay hp q1) fun v H1 ⟨hp1, c, hv, z⟩ => ⟨c, hv, ?_⟩⟩
    cases c with
    | true => exact ⟨hs, hp1, z⟩
    | false => exact z
  refine ⟨pe_imp (pe_and h.je k.je) fun σ H Q ⟨hs, hp, q⟩ => ?_, w.pt, fun _ _ _ _ => w⟩
  refine ⟨hs, hp, tE_imp (tE_pay hp (t_and q)) fun v H1 ⟨hp1, c, hv, z⟩ => ⟨c, hv, ?_⟩⟩
  cases c with
  | true => exact ⟨hs, hp1, z⟩
  | false => exact z
theorem okh_or {e b : Expr} {r : List Expr} {c1 c2 : CE} {pos : Pos} (h : OkH X ca i a d p G e c1) (k : OkH X ca i a d p G (.BoolOp .Or (b :: r) pos) c2) : OkH X ca i a d p G (.BoolOp .Or (e :: b :: r) pos) (.or_ c1 c2) := by
  have w : PW X (.BoolOp .Or (e :: b :: r) pos) (tTh X.K ca i a d p (evE G (.or_ c1 c2))) := pw_imp (pw_or h.jt (k.jw _ _ _ rfl)) fun σ H Q ⟨hs, hp, q⟩ => by
    have q1 : tOr (tTe X.K ca W0 (evE G c1)) (tTe X.K ca W0 (evE G c2)) σ H Q := tt_or q
    refine ⟨hs, hp, tE_imp (tE_pay hp q1) fun v H1 ⟨hp1, c, hv, z⟩ => ⟨c, hv, ?_⟩⟩
    cases c with
    | true => exact z
    | false => exact ⟨hs, hp1, z⟩
  refine ⟨pe_imp (pe_or h.je k.je) fun σ H Q ⟨hs, hp, q⟩ => ?_, w.pt, fun _ _ _ _ => w⟩
  refine ⟨hs, hp, tE_imp (tE_pay hp (t_or q)) fun v H1 ⟨hp1, c, hv, z⟩ => ⟨c, hv, ?_⟩⟩
  cases c with
  | true => exact z
  | false => exact ⟨hs, hp1, z⟩
end
theorem isExc_mg {X : Cx} {z : Str} {c : Nat} (g : Good X T G ca W k) (h : isExc T z c = true) : X.mg z = some (.ref (ca c)) := by
  rcases Bool.or_eq_true_iff.mp h with h | h
  · exact (g.excs z c (memF h)).1
  · obtain ⟨⟨x, c2, i, f⟩, hm, hq⟩ := List.any_eq_true.mp h
    obtain ⟨e1, e2⟩ := of_decide_eq_true hq
    dsimp only at e1 e2
    subst e1 e2
    exact (g.xis _ _ _ _ hm).1
theorem chH_ok {nm : Str} {i c : Nat} {a : Addr} {d : Option Addr} {p : List (Str × PyData)} {oe : Obj} {pn : List (Addr × Obj)} (g : Good X T G ca W k) (hN : X.N = N) (hsc : X.env.scope = sc) (hi : N[i]? = some nm) (hx : ExcC X.K (ca c)) (hz : Zc (.ref (ca c)) d oe) (hf : ∃ vs, oe.data = .fields vs) :
    ∀ (n : Nat) (e : Expr) (c1 : CE), chH T N sc nm n e c1 = true → OkH (X.suite a ((a, oe) :: pn)) ca i a d p { G with exn := some c, pay := p } e c1
  | 0, _, _, h => nomatch h
  | n + 1, e, c1, h => by
    have pure : ∀ e c1, chE T.hotT N n sc e c1 = true → Ok (X.suite a ((a, oe) :: pn)) ca W0 { G with exn := some c, pay := p } e c1 := fun e c1 h => chE_ok n (X.suite a ((a, oe) :: pn)) sc W0 e c1 g.suite hN hsc h
    have ih := chH_ok (nm := nm) (pn := pn) (a := a) (p := p) g hN hsc hi hx hz hf n
    rcases Bool.or_eq_true_iff.mp (show (chE T.hotT N n sc e c1 || _) = true from h) with h | h
    · exact .pure (pure e c1 h)
    · cases hb : loneBool e with
      | true =>
        cases e with
        | BoolOp op vs pos => cases vs with
          | nil => cases hb
          | cons a vs => cases vs with
            | nil => exact okh_one (ih a c1 h)
            | cons _ _ => cases hb
        | _ => cases hb
      | false =>
      cases c1 with
      | exIs d0 =>
        cases e with
        | BoolOp op vs pos => cases vs with
          | nil => cases h
          | cons a vs => cases vs with
            | nil => cases hb
            | cons _ _ => cases h
        | Call ff as ks pos0 =>
          have h' : (match exP (.Call ff as ks pos0) with
            | some (x, _, y, _, z, _) => beqS x "isinstance" && T.bl.contains x && isGl sc x && beqS y nm && isVis sc y && notDbg y && isExc T z d0 && isGl sc z && notDbg z
            | none => false) = true := h
          cases q : exP (.Call ff as ks pos0) with
          | none => rw [q] at h'; cases h'
          | some w =>
            obtain ⟨x, p0, y, p1, z, p2⟩ := w
            rw [q] at h'
            obtain ⟨pos, e0⟩ := exP_some q
            cases e0
            obtain ⟨h1, h9⟩ := ba h'
            obtain ⟨h1, h8⟩ := ba h1
            obtain ⟨h1, h7⟩ := ba h1
            obtain ⟨h1, h6⟩ := ba h1
            obtain ⟨h1, h5⟩ := ba h1
            obtain ⟨h1, h4⟩ := ba h1
            obtain ⟨h1, h3⟩ := ba h1
            obtain ⟨h1, h2⟩ := ba h1
            have e1 := beqS_eq h1
            have e2 := beqS_eq h4
            subst e1 e2
            exact okh_is (X := X) hx rfl (fun r hr => (g.sub c d0 r hr).2.2) hz hf (gl_of hsc h3) (g.bl _ (bl_of h2)) (by rw [hN]; exact hi) (by rw [hsc]; exact vis_of h5) h6 (gl_of hsc h8) (isExc_mg g h7) h9
        | _ => cases h
      | exF f =>
        cases e with
        | BoolOp op vs pos => cases vs with
          | nil => cases h
          | cons a vs => cases vs with
            | nil => cases hb
            | cons _ _ => cases h
        | Attribute v f' pos =>
          cases v with
          | Name y p1 =>
            obtain ⟨h1, h4⟩ := ba (show (beqS f' f && beqS y nm && isVis sc y && notDbg y) = true from h)
            obtain ⟨h1, h3⟩ := ba h1
            obtain ⟨h1, h2⟩ := ba h1
            have e1 := beqS_eq h1
            have e2 := beqS_eq h2
            subst e1 e2
            exact okh_xf (X := X) rfl rfl (fun q => g.xf c _ q) hz hf (by rw [hN]; exact hi) (by rw [hsc]; exact vis_of h3) h4
          | _ => cases h
        | _ => cases h
      | op q cs =>
        cases e with
        | BoolOp op vs pos => cases vs with
          | nil => cases h
          | cons a vs => cases vs with
            | nil => cases hb
            | cons _ _ => cases h
        | Compare a0 os bs pos =>
          match os, bs, cs, h with
          | [.Eq], [b], [c1, c2], h =>
            obtain ⟨h1, h4⟩ := ba (show (decide (q = .eq) && notSet b && chH T N sc nm n a0 c1 && chH T N sc nm n b c2) = true from h)
            obtain ⟨h1, h3⟩ := ba h1
            obtain ⟨h1, h2⟩ := ba h1
            have e1 := of_decide_eq_true h1
            subst e1
            exact okh_eq g.units h2 (ih a0 c1 h3) (ih b c2 h4)
        | _ => cases h
      | not_ c1 =>
        cases e with
        | BoolOp op vs pos => cases vs with
          | nil => cases h
          | cons a vs => cases vs with
            | nil => cases hb
            | cons _ _ => cases h
        | UnaryOp op e1 pos =>
          cases op with
          | Not => exact okh_not (ih e1 c1 h)
          | _ => cases h
        | _ => cases h
      | and_ c1 c2 =>
        cases e with
        | BoolOp op vs pos =>
          cases vs with
          | nil => cases op <;> cases h
          | cons e1 vs =>
            cases vs with
            | nil => cases hb
            | cons b r =>
              cases op with
              | And =>
                obtain ⟨h1, h2⟩ := ba (show (chH T N sc nm n e1 c1 && chH T N sc nm n (.BoolOp .And (b :: r) pos) c2) = true from h)
                exact okh_and (ih e1 c1 h1) (ih _ c2 h2)
              | Or => cases h
        | _ => cases h
      | or_ c1 c2 =>
        cases e with
        | BoolOp op vs pos =>
          cases vs with
          | nil => cases op <;> cases h
          | cons e1 vs =>
            cases vs with
            | nil => cases hb
            | cons b r =>
              cases op with
              | Or =>
                obtain ⟨h1, h2⟩ := ba (show (chH T N sc nm n e1 c1 && chH T N sc nm n (.BoolOp .Or (b :: r) pos) c2) = true from h)
                exact okh_or (ih e1 c1 h1) (ih _ c2 h2)
              | And => cases h
        | _ => cases h
      | _ =>
        exfalso
        revert h
        cases e with
        | BoolOp op vs pos => cases vs with
          | nil => intro h; cases h
          | cons a vs => cases vs with
            | nil => cases hb
            | cons _ _ => intro h; cases h
        | _ => intro h; cases h
def tSh (K : PySem.W.Frag) (ca : Nat → Addr) (i : Nat) (a : Addr) (d : Option Addr) (p : List (Str × PyData)) (r : Ev → Sto → SRs) : TS := fun D σ H => σ[i]? = some (some (.ref a)) ∧ PayOk d p H ∧ ∃ F ρ st env, Rel K ca H F ρ st ∧ EnvOk K F ρ σ env ∧ SPost K ca W0 H F ρ (r env st) D
theorem retH_post {K : PySem.W.Frag} {H F : Hp} {ρ : List Addr} {D : Ends} {σ : L2.St} {r : Rs Sv} (h : SPost K ca W0 H F ρ (retH r) D) : Post K ca (at_ W0 σ) H F ρ r D.rt := by
  cases r with
  | ok s st => exact fun v H1 F1 ρ1 e1 rel1 rv => h v H1 F1 ρ1 e1 rel1 rv
  | exc c p st => exact h.elim
  | bad => exact h.elim
theorem onH_post {K : PySem.W.Frag} {H F : Hp} {ρ : List Addr} {D : Ends} {σ : L2.St} {r : Rs Sv} {kt kf : Sto → SRs} {QB : Bool → Hp → Prop} (h : SPost K ca W0 H F ρ (onH r kt kf) D)
    (f : ∀ b st1 H1 F1 ρ1, Ext ρ H F ρ1 H1 F1 → Rel K ca H1 F1 ρ1 st1 → SPost K ca W0 H1 F1 ρ1 (if b = true then kt st1 else kf st1) D → QB b H1) : Post K ca (at_ W0 σ) H F ρ r fun v H1 => ∃ b, v = .bl b ∧ QB b H1 := by
  cases r with
  | exc c p st => exact h.elim
  | bad => exact h.elim
  | ok w st1 =>
    cases w with
    | r n => exact h.elim
    | d x =>
      cases x with
      | bool b =>
        cases b with
        | true => exact fun v H1 F1 ρ1 e1 rel1 rv => ⟨true, srep_bool rv, f true st1 H1 F1 ρ1 e1 rel1 (by rw [if_pos rfl]; exact SPost.ext (r := kt st1) h e1)⟩
        | false => exact fun v H1 F1 ρ1 e1 rel1 rv => ⟨false, srep_bool rv, f false st1 H1 F1 ρ1 e1 rel1 (by rw [if_neg Bool.false_ne_true]; exact SPost.ext (r := kf st1) h e1)⟩
      | _ => exact h.elim
theorem chHs_ok {nm : Str} {i c n : Nat} {a : Addr} {d : Option Addr} {p : List (Str × PyData)} {oe : Obj} {pn : List (Addr × Obj)} (g : Good X T G ca W k) (hN : X.N = N) (hsc : X.env.scope = sc) (hi : N[i]? = some nm) (hx : ExcC X.K (ca c)) (hz : Zc (.ref (ca c)) d oe) (hf : ∃ vs, oe.data = .fields vs) :
    ∀ (ss : List Stmt) (h : List (List CE × CE)), chHs T N sc nm n ss h = true → PSs (X.suite a ((a, oe) :: pn)) ss (tSh X.K ca i a d p (evH { G with exn := some c, pay := p } h)) := by
  intro ss
  induction ss with
  | nil =>
    intro h hc
    cases h with
    | nil => exact pss_imp pss_nil fun D σ H ⟨hs, hp, F, ρ, st, env, rel, eok, q⟩ => s_next q rel eok
    | cons _ _ => cases hc
  | cons s ss ih =>
    intro h hc
    have key := chH_ok (pn := pn) (a := a) (p := p) g hN hsc hi hx hz hf
    match s, h, hc with
    | .Return (some v) p0, ([], r) :: h, hc =>
      obtain ⟨h1, h2⟩ := ba (show (chH T N sc nm n v r && chHs T N sc nm n ss h) = true from hc)
      have jv := key n v r h1
      exact pss_imp (pss_cons (ps_ret jv.je) (ih h h2)) fun D σ H ⟨hs, hp, F, ρ, st, env, rel, eok, q⟩ => ⟨hs, hp, F, ρ, st, env, rel, eok, retH_post (D := D) q⟩
    | .If ce [.Return (some v) p0] [] pos, ([c1], r) :: h, hc =>
      obtain ⟨h1, h3⟩ := ba (show (chH T N sc nm n ce c1 && chH T N sc nm n v r && chHs T N sc nm n ss h) = true from hc)
      obtain ⟨h1, h2⟩ := ba h1
      have jv := key n v r h2
      have jc := key n ce c1 h1
      refine pss_imp (pss_cons (ps_if jc.jt (pss_one (ps_ret jv.je)) pss_nil) (ih h h3)) fun D σ H ⟨hs, hp, F, ρ, st, env, rel, eok, q⟩ => ?_
      refine ⟨hs, hp, F, ρ, st, env, rel, eok, onH_post (QB := fun b' H1 => if b' = true then tEh X.K ca i a d p (evE { G with exn := some c, pay := p } r) σ H1 D.rt else tSh X.K ca i a d p (evH { G with exn := some c, pay := p } h) D σ H1) q fun b' st1 H1 F1 ρ1 e1 rel1 z => ?_⟩
      have hp1 := hp.ext rel e1
      cases b' with
      | true => rw [if_pos rfl] at z ⊢; exact ⟨hs, hp1, F1, ρ1, st1, env, rel1, eok.ext e1, retH_post (D := D) z⟩
      | false => rw [if_neg Bool.false_ne_true] at z ⊢; exact ⟨hs, hp1, F1, ρ1, st1, env, rel1, eok.ext e1, z⟩
theorem evH_shape (G : Ctx) : ∀ (h : List (List CE × CE)) (env : Ev) (st : Sto), (∃ st', evH G h env st = .next env st') ∨ (∃ s st', evH G h env st = .ret s st') ∨ evH G h env st = .bad
  | [], env, st => .inl ⟨st, rfl⟩
  | ([], e) :: _, env, st => by
    show _ ∨ (∃ s st', retH (evE G e env st) = .ret s st') ∨ retH (evE G e env st) = .bad
    cases evE G e env st with
    | ok s st1 => exact .inr (.inl ⟨s, st1, rfl⟩)
    | _ => exact .inr (.inr rfl)
  | ([c], e) :: r, env, st => by
    show (∃ st', onH (evE G c env st) (fun st1 => retH (evE G e env st1)) (fun st1 => evH G r env st1) = .next env st') ∨ (∃ s st', onH (evE G c env st) (fun st1 => retH (evE G e env st1)) (fun st1 => evH G r env st1) = .ret s st') ∨ onH (evE G c env st) (fun st1 => retH (evE G e env st1)) (fun st1 => evH G r env st1) = .bad
    cases evE G c env st with
    | exc c p st1 => exact .inr (.inr rfl)
    | bad => exact .inr (.inr rfl)
    | ok s st1 =>
      cases s with
      | r n => exact .inr (.inr rfl)
      | d x =>
        cases x with
        | bool b =>
          cases b with
          | false => exact evH_shape G r env st1
          | true =>
            show _ ∨ (∃ s st', retH (evE G e env st1) = .ret s st') ∨ retH (evE G e env st1) = .bad
            cases evE G e env st1 with
            | ok s st2 => exact .inr (.inl ⟨s, st2, rfl⟩)
            | _ => exact .inr (.inr rfl)
        | _ => exact .inr (.inr rfl)
  | (_ :: _ :: _, _) :: _, _, _ => .inr (.inr rfl)
theorem catch_inv {K : PySem.W.Frag} {H F : Hp} {ρ : List Addr} {D : Ends} {o : Option Bool} {b : Bool} {p : List (Str × PyData)} {h no : SRs} (q : SPost K ca W H F ρ (catchH o b p h no) D) : (o = some true ∧ b = true ∧ okP p = true ∧ SPost K ca W H F ρ h D) ∨ (o = some false ∧ SPost K ca W H F ρ no D) := by
  cases o with
  | none => exact q.elim
  | some c =>
    cases c with
    | false => exact .inr ⟨rfl, q⟩
    | true =>
      cases b with
      | false => exact q.elim
      | true =>
        unfold catchH at q
        cases z : okP p with
        | true => rw [z] at q; exact .inl ⟨rfl, rfl, rfl, q⟩
        | false => rw [z] at q; exact q.elim
theorem okP_inv {p : List (Str × PyData)} (h : okP p = true) : p = [] ∨ ∃ f x, p = [(f, .str x)] := by
  match p, h with
  | [], _ => exact .inl rfl
  | [(f, .str x)], _ => exact .inr ⟨f, x, rfl⟩
theorem pay_rep {K : PySem.W.Frag} {F H : Hp} {dd : Addr} {f x : Str} {vfs : List (Str × V)} (h : H dd = some (.xd vfs)) (q : Paired (fun (a : Str × V) (b : Str × PyData) => a.1 = b.1 ∧ DRep K F a.2 b.2) vfs [(f, .str x)]) : PayOk (some dd) [(f, .str x)] H := by
  cases q with
  | @cons a _ _ _ q1 q2 =>
    cases q2
    obtain ⟨g, v⟩ := a
    obtain ⟨e1, e2⟩ := q1
    dsimp only at e1 e2
    subst e1
    cases e2
    exact .inr ⟨dd, g, x, rfl, rfl, h⟩
/-- what the suite wishes -/
def tsTri (K : PySem.W.Frag) (ca : Nat → Addr) (G : Ctx) (i : Nat) (h : List (List CE × CE)) : Addr → Value → Option Addr → TS := fun a cls d D σ H => ∃ k p, cls = .ref (ca k) ∧ ExcC K (ca k) ∧ tSh K ca i a d p (evH { G with exn := some k, pay := p } h) D σ H
theorem ts_tri {K : PySem.W.Frag} {σ : L2.St} {H : Hp} {D : Ends} {b : List CS} {i c : Nat} {h : List (List CE × CE)} (hsub : ∀ a b r, G.sub a b = some r → ExcC K (ca a) ∧ PySem.W.exmOne K (.ref (ca a)) (.ref (ca b)) = some r ∧ PySem.W.kitOne K (.ref (ca a)) (.ref (ca b)) = some r) (q : tS K ca W (evS G wf (.tri b i c h)) D σ H) :
    tS K ca (wAs K (.ref (ca c)) i (tsTri K ca G i h) W D) (evSs G wf b) D σ H := by
  obtain ⟨F, ρ, st, env, rel, eok, q⟩ := q
  have q' : SPost K ca W H F ρ (match evSs G wf b env st with
    | .exc k p env1 st1 => catchH (G.sub k c) (decide (i < env1.length)) p (evH { G with exn := some k, pay := p } h (env1.set i none) st1) (.exc k p env1 st1)
    | r => r) D := q
  refine ⟨F, ρ, st, env, rel, eok, ?_⟩
  cases z : evSs G wf b env st with
  | bad => rw [z] at q'; exact q'
  | next env1 st1 => rw [z] at q'; exact q'
  | brk env1 st1 => rw [z] at q'; exact q'
  | cont env1 st1 => rw [z] at q'; exact q'
  | ret w st1 => rw [z] at q'; exact q'
  | exc k p env1 st1 =>
    rw [z] at q'
    rcases catch_inv (h := evH { G with exn := some k, pay := p } h (env1.set i none) st1) (no := .exc k p env1 st1) q' with ⟨h1, h2, h0, h3⟩ | ⟨h1, h2⟩
    · obtain ⟨f1, f2, f3⟩ := hsub k c true h1
      intro σ' H' F' ρ' ex rel' eo
      have main : ∀ d, PayOk d p H' → wAs K (.ref (ca c)) i (tsTri K ca G i h) W D (.ref (ca k)) d σ' H' := fun d hpay => by
        refine ⟨true, f2, fun _ a ha => ⟨k, p, rfl, f1, ?_, hpay, F', ρ', st1, env1.set i none, rel', eo.blind i _, ?_⟩, fun z => nomatch z⟩
        · rw [List.getElem?_set_self (by rw [eo.1]; exact of_decide_eq_true h2)]
        · have h4 := SPost.ext h3 ex
          rcases evH_shape { G with exn := some k, pay := p } h (env1.set i none) st1 with ⟨st', e⟩ | ⟨s, st', e⟩ | e
          · rw [e] at h4 ⊢
            intro σ2 H2 F2 ρ2 ex2 rel2 eo2
            have eo3 := eo2.blind i none
            rw [List.set_set] at eo3
            exact h4 (σ2.set i none) H2 F2 ρ2 ex2 rel2 eo3
          · rw [e] at h4 ⊢
            exact h4
          · rw [e] at h4
            exact h4.elim
      rcases okP_inv h0 with rfl | ⟨f, x, rfl⟩
      · exact main none (.inl ⟨rfl, rfl⟩)
      · exact fun d vfs hd hp => main (some d) (pay_rep hd hp)
    · obtain ⟨f1, f2, f3⟩ := hsub k c false h1
      intro σ' H' F' ρ' ex rel' eo
      have h4 := h2 σ' H' F' ρ' ex rel' eo
      cases p with
      | nil => exact ⟨false, f2, (fun z => nomatch z), fun _ => h4⟩
      | cons a r => exact fun d vfs hd hp => ⟨false, f2, (fun z => nomatch z), fun _ => h4 d vfs hd hp⟩
theorem s_tri {b : List CS} {i c : Nat} {hh : List (List CE × CE)} (hSs : OkSs T N G ca k wf n) (g : Good X T G ca W k) (top : Top X T) (hN : X.N = N) (hsc : X.env.scope = sc) (hfn : ∀ x, X.fn x = true) (hk : sc.kind = .function) (h : chS T N (n + 1) sc s (.tri b i c hh) = true) : JS X ca W G wf s (.tri b i c hh) := by
  have h' : (match triP s with
      | some (body, x, _, nm, b0, suite) => decide (N[i]? = some nm) && isLocal sc nm && notDbg nm && isExc T x c && isGl sc x && notDbg x && chSs T N n sc body b && chHs T N sc nm n (b0 :: suite) hh
      | none => false) = true := h
  cases q : triP s with
  | none => rw [q] at h'; cases h'
  | some w =>
    obtain ⟨body, x, p, nm, b0, suite⟩ := w
    rw [q] at h'
    obtain ⟨pos', pos, rfl⟩ := triP_some q
    obtain ⟨h1, h8⟩ := ba h'
    obtain ⟨h1, h7⟩ := ba h1
    obtain ⟨h1, h6⟩ := ba h1
    obtain ⟨h1, h5⟩ := ba h1
    obtain ⟨h1, h4⟩ := ba h1
    obtain ⟨h1, h3⟩ := ba h1
    obtain ⟨h1, h2⟩ := ba h1
    have hi := of_decide_eq_true h1
    have g1 := isExc_mg g h4
    obtain ⟨d1, d2, d3⟩ := dbg_of h6
    refine ps_imp (ps_try_as (tb := fun W => tS X.K ca W (evSs G wf b)) (ts := tsTri X.K ca G i hh) (c := .ref (ca c)) top.stk top.frm g.nd (by rw [hN]; exact hi) (by subst hsc; exact local_of h2) ⟨gl_of hsc h5, d1, .inl g1⟩ g.tk (fun W' pn xe tk po => hSs (X.tr pn xe) sc W' body b (g.tr tk po) hN hsc hfn hk ⟨top.stk, top.frm, top.hot⟩ h7) fun a oe cls d pn hz hf => ?_) fun D σ H q => ts_tri g.sub q
    refine ⟨fun pins s1 σ H D I ⟨c1, p1, e1, hx, hq⟩ => ?_⟩
    subst e1
    exact (chHs_ok (p := p1) (pn := pn) (a := a) g hN hsc hi hx hz hf (b0 :: suite) hh h8).run pins s1 σ H D I hq
end
end PV

namespace PV
open PySem L2 PySem.Spec PyProof.Rows
section
variable {T : Tab} {N : List Str} {G : Ctx} {ca : Nat → Addr} {k wf : Nat}
theorem chS_ok1 {n : Nat} (hSs : OkSs T N G ca k wf n) : OkS T N G ca k wf (n + 1) := by
  intro X sc W s c g hN hsc hfn hk top h
  cases c with
  | set t e => exact s_set g top hN hsc hfn hk h
  | aug i p e => exact s_aug g hN hsc hfn h
  | augF o f p e => exact s_augF g hN hsc hfn h
  | drop e => exact s_drop g hN hsc h
  | app o e => exact s_app g hN hsc h
  | ext o e => exact s_ext g hN hsc h
  | fr t it b => exact s_fr hSs g top hN hsc hfn hk h
  | rse c es => exact s_rse g top hN hsc h
  | rsf c f e => exact s_rsf g top hN hsc h
  | dput o i e => exact s_dput g hN hsc h
  | ini f => exact ⟨fun pins s σ H Q I h => by
      obtain ⟨F, ρ, st, env, rel, eok, h⟩ := h
      exact h.elim⟩
  | tri b i c hh => exact s_tri hSs g top hN hsc hfn hk h
  | ite c a b =>
    cases s with
    | If t x y p =>
      obtain ⟨h1, h3⟩ := ba (show (chE T N n sc t c && chSs T N n sc x a && chSs T N n sc y b) = true from h)
      obtain ⟨h1, h2⟩ := ba h1
      exact ps_imp (ps_if (chE_ok n X sc W t c g hN hsc h1).jt (hSs X sc W x a g hN hsc hfn hk top h2) (hSs X sc W y b g hN hsc hfn hk top h3)) fun D σ H q => ts_ite q
    | _ => cases h
  | whl c b =>
    cases s with
    | While t x y p =>
      cases y with
      | cons _ _ => cases h
      | nil =>
        obtain ⟨h1, h2⟩ := ba (show (chE T N n sc t c && chSs T N n sc x b) = true from h)
        exact ps_imp (ps_while g.po (chE_ok n X sc W t c g hN hsc h1).jt (hSs X sc W x b g hN hsc hfn hk top h2)) fun D σ H q => ts_whl q
    | _ => cases h
  | ret e =>
    cases s with
    | Return v p =>
      cases v with
      | none => cases h
      | some v => exact ps_imp (ps_ret (chE_ok n X sc W v e g hN hsc h).je) fun D σ H q => ts_ret q
    | _ => cases h
  | retN =>
    cases s with
    | Return v p =>
      cases v with
      | some _ => cases h
      | none => exact ps_imp ps_retN fun D σ H q => ts_retN q
    | _ => cases h
  | brk =>
    cases s with
    | Break p => exact ps_imp ps_break fun D σ H q => ts_brk q
    | _ => cases h
  | cont =>
    cases s with
    | Continue p => exact ps_imp ps_continue fun D σ H q => ts_cont q
    | _ => cases h
theorem pss_skip {X : Cx} {s : Stmt} {ss : List Stmt} {t : TS} (h1 : PS X s tNext) (h : PSs X ss t) : PSs X (s :: ss) t := pss_imp (pss_cons h1 h) fun D σ H q => q
def docB : Stmt → Bool
  | .Expr (.Constant (.str _) _ _) _ => true
  | .Pass _ => true
  | _ => false
theorem doc_ps {X : Cx} {s : Stmt} (h : docB s = true) : PS X s tNext := by
  cases s with
  | Pass p => exact ps_pass
  | Expr e p =>
    cases e with
    | Constant c j q =>
      cases c with
      | str x => exact ps_doc
      | _ => cases h
    | _ => cases h
  | _ => cases h
theorem chSs_doc {n : Nat} {sc : Scope} {s : Stmt} {ss : List Stmt} {cs : List CS} (h : docB s = true) : chSs T N (n + 1) sc (s :: ss) cs = chSs T N n sc ss cs := by
  cases s with
  | Pass p => cases cs <;> rfl
  | Expr e p =>
    cases e with
    | Constant c j q =>
      cases c with
      | str x => cases cs <;> rfl
      | _ => cases h
    | _ => cases h
  | _ => cases h
theorem chSs_cons {n : Nat} {sc : Scope} {s : Stmt} {ss : List Stmt} {c : CS} {cs : List CS} (h : docB s = false) : chSs T N (n + 1) sc (s :: ss) (c :: cs) = (chS T N n sc s c && chSs T N n sc ss cs) := by
  cases s with
  | Pass p => cases h
  | Expr e p =>
    cases e with
    | Constant c j q =>
      cases c with
      | str x => cases h
      | _ => rfl
    | _ => rfl
  | _ => rfl
theorem chSs_none {n : Nat} {sc : Scope} {s : Stmt} {ss : List Stmt} (h : docB s = false) : chSs T N (n + 1) sc (s :: ss) [] = false := by
  cases s with
  | Pass p => cases h
  | Expr e p =>
    cases e with
    | Constant c j q =>
      cases c with
      | str x => cases h
      | _ => rfl
    | _ => rfl
  | _ => rfl
theorem chSs_ok1 {n : Nat} (hS : OkS T N G ca k wf n) (hSs : OkSs T N G ca k wf n) : OkSs T N G ca k wf (n + 1) := by
  intro X sc W s c g hN hsc hfn hk top h
  cases s with
  | nil =>
    cases c with
    | cons _ _ => cases h
    | nil => exact pss_imp pss_nil fun D σ H q => ts_nil q
  | cons s ss =>
    cases hb : docB s with
    | true =>
      rw [chSs_doc hb] at h
      exact pss_skip (doc_ps hb) (hSs X sc W ss c g hN hsc hfn hk top h)
    | false =>
      cases c with
      | nil => rw [chSs_none hb] at h; cases h
      | cons c cs =>
        rw [chSs_cons hb] at h
        obtain ⟨h1, h2⟩ := ba h
        exact pss_imp (pss_cons (hS X sc W s c g hN hsc hfn hk top h1) (hSs X sc W ss cs g hN hsc hfn hk top h2)) fun D σ H q => ts_cons q
theorem chs_all (n : Nat) : OkS T N G ca k wf n ∧ OkSs T N G ca k wf n := by
  induction n with
  | zero =>
    refine ⟨?_, ?_⟩
    · intro X sc W s c g hN hsc hfn hk top h; cases h
    · intro X sc W s c g hN hsc hfn hk top h; cases h
  | succ n ih => exact ⟨chS_ok1 ih.2, chSs_ok1 ih.1 ih.2⟩
theorem chSs_ok (n : Nat) : OkSs T N G ca k wf n := (chs_all n).2
/-! ### an own exception's __init__ -/
theorem ini_ps {X : Cx} {s : Stmt} {f : Str} {sc : Scope} {n : Nat} (hN : X.N = N) (hsc : X.env.scope = sc) (h : chS T N n sc s (.ini f) = true) : PS X s (tOst X.K f (tVar 0) (tVar 1)) := by
  cases n with
  | zero => cases h
  | succ n =>
  cases s with
  | Assign ts v spos =>
    match ts, v, h with
    | [.Attribute (.Name x p1) g p2], .Name y p3, h =>
      obtain ⟨h1, h7⟩ := ba (show (beqS g f && decide (N[0]? = some x) && decide (N[1]? = some y) && isVis sc x && isVis sc y && notDbg x && notDbg y) = true from h)
      obtain ⟨h1, h6⟩ := ba h1
      obtain ⟨h1, h5⟩ := ba h1
      obtain ⟨h1, h4⟩ := ba h1
      obtain ⟨h1, h3⟩ := ba h1
      obtain ⟨h1, h2⟩ := ba h1
      have e1 := beqS_eq h1
      subst e1
      obtain ⟨d1, d2, d3⟩ := dbg_of h6
      obtain ⟨f1, f2, f3⟩ := dbg_of h7
      exact ps_ost (pe_var (by rw [hN]; exact of_decide_eq_true h2) (by rw [hsc]; exact vis_of h4) d1 d2) (pe_var (by rw [hN]; exact of_decide_eq_true h3) (by rw [hsc]; exact vis_of h5) f1 f2) rfl
  | _ => cases h
theorem ini_pss {X : Cx} {f : Str} {sc : Scope} (hN : X.N = N) (hsc : X.env.scope = sc) : ∀ {n : Nat} {ss : List Stmt}, chSs T N n sc ss [.ini f] = true → PSs X ss (tOst X.K f (tVar 0) (tVar 1))
  | 0, _, h => nomatch h
  | n + 1, [], h => nomatch h
  | n + 1, s :: ss, h => by
    cases hb : docB s with
    | true =>
      rw [chSs_doc hb] at h
      exact pss_skip (doc_ps hb) (ini_pss hN hsc h)
    | false =>
      rw [chSs_cons hb] at h
      obtain ⟨h1, h2⟩ := ba h
      have hnil : PSs X ss tNext := by
        clear h h1
        revert ss
        induction n with
        | zero => intro ss h; cases h
        | succ n ih =>
          intro ss h
          cases ss with
          | nil => exact pss_nil
          | cons s2 ss2 =>
            cases hb2 : docB s2 with
            | true => rw [chSs_doc hb2] at h; exact pss_skip (doc_ps hb2) (ih _ h)
            | false => rw [chSs_none hb2] at h; cases h
      exact pss_imp (pss_cons (ini_ps hN hsc h1) hnil) fun D σ H q => q
/-- it keeps its promise -/
theorem init_ok {P : Program} {w : World} {K : PySem.W.Frag} {mg : Str → Option Value} {base : Heap} {x qual : Str} {params : Arguments} {body : List Stmt} {scope : Scope} {dvs : List V} {kws : List (Str × V)} {fa : Addr} {fd : FuncData} {ps : List Str} {f : Str} {n : Nat}
    (F : FunD K x qual params body scope dvs kws fa fd) (S : FnScope N ps scope) (hl : ps.length = 2) (ch : chSs T N n scope body [.ini f] = true) : L2.FnOk P w K mg base CX0 63 fa fd ps (spX K f) := by
  have r : FnOk P w K mg base CX0 1 fa fd ps (spX K f) := by
    refine fund_ok F S (fun vs H Q E ⟨a, C, y, e, _⟩ => by rw [e, hl]; rfl) fun cdv A outer s H vs Q E hr ⟨a, C, y, e, hC, hno, ha, hq⟩ => ?_
    subst e
    refine ⟨_, ini_pss (T := T) (X := cxOf CX0 P w K mg base N qual scope fa cdv A outer s H E) rfl rfl ch, ?_⟩
    have hN : 2 ≤ N.length := by
      have e := congrArg List.length S.pre
      rw [List.length_take, hl] at e
      omega
    have s0 : (L2.start N [V.ref a, y])[0]? = some (some (.ref a)) := by unfold L2.start; simp
    have s1 : (L2.start N [V.ref a, y])[1]? = some (some y) := by unfold L2.start; simp
    exact ⟨y, s1, .ref a, s0, a, C, rfl, hC, hno, .inl ⟨ha, fun dx h1 h2 => hq dx h1 h2⟩⟩
  exact ⟨r.len, fun A outer s H args us vs Q E hr => r.run A outer s H args us vs Q E ⟨hr.hd, by have := hr.dp; omega, by have := hr.un; omega⟩⟩
end
end PV

namespace PV
open PySem L2 PySem.Spec PyProof.Rows
/-! ## Defs -/
structure DefP where
  N : List Str
  np : Nat
  body : List CS
structure Pg where
  defs : List DefP
  flds : List (Nat × Str)
  glo : List PyData
  wf : Nat
  sub : List (Nat × Nat × Bool)
  xfs : List (Nat × Str) := []
def startE (n : Nat) (ss : List Sv) : Ev := ss.map some ++ List.replicate (n - ss.length) none
def endR : SRs → Rs Sv
  | .ret w st => .ok w st
  | .next _ st => .ok (.d .none) st
  | .exc c p _ st => .exc c p st
  | _ => .bad
def runD (P : Pg) (G : Ctx) (f : Nat) (ss : List Sv) (st : Sto) : Rs Sv := match P.defs[f]? with
  | some d => (match decide (ss.length = d.np) with
    | true => endR (evSs G P.wf d.body (startE d.N.length ss) st)
    | false => .bad)
  | none => .bad
def badF : Nat → List Sv → Sto → Rs Sv := fun _ _ _ => .bad
def Pg.ctx (P : Pg) (call init : Nat → List Sv → Sto → Rs Sv) (deep : Bool) : Ctx := ⟨call, init, fun c f => P.flds.contains (c, f), fun g => P.glo.getD g .none, fun a b => (P.sub.find? fun t => t.1 == a && t.2.1 == b).map (·.2.2), none, [], deep, fun c f => P.xfs.contains (c, f)⟩
def initN (P : Pg) (c : Nat → Nat → List Sv → Sto → Rs Sv) : Nat → Nat → List Sv → Sto → Rs Sv
  | 0 => badF
  | m + 1 => c m
def pairN (P : Pg) : Nat → (Nat → List Sv → Sto → Rs Sv) × (Nat → List Sv → Sto → Rs Sv)
  | 0 => (badF, badF)
  | m + 1 => (runD P (P.ctx (pairN P m).1 (pairN P m).2 (Nat.ble 200 m)), (pairN P m).1)
/-- the defs, m calls deep -/
def callN (P : Pg) (m : Nat) : Nat → List Sv → Sto → Rs Sv := (pairN P m).1
def ctxN (P : Pg) (m : Nat) : Ctx := P.ctx (callN P m) (pairN P m).2 (Nat.ble 200 m)
theorem callN_succ (P : Pg) (m : Nat) : callN P (m + 1) = runD P (ctxN P m) := rfl
/-- what the machine's heap has of a program -/
structure Dep (K : PySem.W.Frag) (mg : Str → Option Value) (T : Tab) (P : Pg) (ca fa : Nat → Addr) (fd : Nat → FuncData) (ps : Nat → List Str) : Prop where
  glo : ∀ (g : Nat) x, T.glo[g]? = some x → ∃ v u, mg x = some u ∧ RelV v u ∧ ∀ F, DRep K F v (P.glo.getD g .none)
  fns : ∀ x f n, (x, f, n) ∈ T.fns → mg x = some (.ref (fa f)) ∧ PySem.W.keepIn K (.ref (fa f)) = true ∧ ∃ d, P.defs[f]? = some d ∧ d.np = n
  news : ∀ x c f n, (x, c, f, n) ∈ T.news → mg x = some (.ref (ca c)) ∧ Mk K (ca c) (fa f) ∧ ∃ d, P.defs[f]? = some d ∧ d.np = n
  mets : ∀ c m f n, (c, m, f, n) ∈ T.mets → Cls K (ca c) ∧ Meth K (ca c) m (fa f) ∧ ∃ d, P.defs[f]? = some d ∧ d.np = n
  excs : ∀ x c, (x, c) ∈ T.excs → mg x = some (.ref (ca c)) ∧ PySem.W.keepIn K (.ref (ca c)) = true ∧ PySem.W.subIn K (.ref (ca c)) (.type "BaseException") = some true ∧ PySem.W.typeIn K (.ref (ca c)) = some (.type "type") ∧ PySem.W.excIn K (ca c) He.veBase "ValueError.__new__" = true
  bl : ∀ b, b ∈ T.bl → mg b = none
  cls : ∀ c f, P.flds.contains (c, f) = true → Cls K (ca c) ∧ NoAttr K (ca c) f
  sub : ∀ a b r, (a, b, r) ∈ P.sub → ExcC K (ca a) ∧ PySem.W.exmOne K (.ref (ca a)) (.ref (ca b)) = some r ∧ PySem.W.kitOne K (.ref (ca a)) (.ref (ca b)) = some r
  xis : ∀ x c i f, (x, c, i, f) ∈ T.xis → mg x = some (.ref (ca c)) ∧ OexC K (ca c) ∧ PySem.W.findIn K (.ref (ca c)) "__init__" = some (some (.ref (fa i))) ∧ PySem.W.typeIn K (.ref (fa i)) = some (.type "function") ∧ PySem.W.findIn K (.ref (ca c)) f = some none ∧ ∃ d, P.defs[i]? = some d ∧ d.np = 2 ∧ d.body = [.ini f]
  xf : ∀ c f, P.xfs.contains (c, f) = true → XfC K (ca c) ∧ PySem.W.findIn K (.ref (ca c)) f = some none
  hot : T.hot = false
  defs : ∀ f d, P.defs[f]? = some d → (ps f).length = d.np ∧ Binds K (fd f) (ps f) [] ∧ ∃ x qual params body scope dvs kws n, FunD K x qual params body scope dvs kws (fa f) (fd f) ∧ FnScope d.N (ps f) scope ∧ chSs T d.N n scope body d.body = true
section
variable {P : Program} {w : World} {K : PySem.W.Frag} {mg : Str → Option Value} {base : Heap} {T : Tab} {Q : Pg} {ca fa : Nat → Addr} {fd : Nat → FuncData} {ps : Nat → List Str}
theorem startE_len {n : Nat} {ss : List Sv} (h : ss.length ≤ n) : (startE n ss).length = n := by
  unfold startE
  simp
  omega
theorem envOk_start {F : Hp} {ρ : List Addr} {N : List Str} {vs : List V} {ss : List Sv} (r : SReps K F ρ vs ss) (h : ss.length ≤ N.length) : EnvOk K F ρ (L2.start N vs) (startE N.length ss) := by
  have hl : vs.length = ss.length := Paired.length r
  refine ⟨?_, fun i s e => ?_⟩
  · rw [startE_len h]
    unfold L2.start
    simp
    omega
  · unfold startE at e
    rw [List.getElem?_append] at e
    split at e
    · rename_i hi
      rw [List.getElem?_map] at e
      cases q : ss[i]? with
      | none => rw [q] at e; cases e
      | some s' =>
        rw [q] at e
        cases e
        obtain ⟨v, e1, e2⟩ := Paired.get r q
        refine ⟨v, ?_, e2⟩
        unfold L2.start
        rw [List.getElem?_append_left (by rw [List.length_map] at hi ⊢; omega), List.getElem?_map, e1]
        rfl
    · rw [List.getElem?_replicate] at e
      split at e <;> cases e
theorem promBad {n : Nat} {vs : List V} {H : Hp} {Qv : VK} {E : XK} {f : Nat} (h : Prom K ca n (badF f) vs H Qv E) : False := by
  obtain ⟨F, ρ, st, ss, _, _, _, p⟩ := h
  exact p
/-- the context is good -/
theorem good_of (D : Dep K mg T Q ca fa fd ps) {m : Nat} (hA : ∀ f d, Q.defs[f]? = some d → FnOk P w K mg base (L2.CX P w) (m + 1) (fa f) (fd f) (ps f) (Prom K ca d.np (callN Q m f)))
    (hB : ∀ f d, Q.defs[f]? = some d → FnOk P w K mg base (L2.CX P w) m (fa f) (fd f) (ps f) (Prom K ca d.np ((pairN Q m).2 f)))
    {X : Cx} {W : WX} (h1 : X.prog = P) (h2 : X.w = w) (h3 : X.K = K) (h4 : X.mg = mg) (h5 : X.base = base) (room : Room (m + 1) X.A) (calm : X.calm = true) (nd : X.N.Nodup) (tk : Takes X W) (po : PassesOwn (model X.prog X.w) X.A X.env X.xe) : Good X T (ctxN Q m) ca W (m + 1) := by
  subst h1 h2 h3 h4 h5
  refine ⟨fun g x h => D.glo g x h, fun x f n h => ?_, fun x c f n h => ?_, fun c mm f n h => ?_, fun x c h => ?_, D.bl, ⟨fun c f h => D.cls c f h⟩, fun _ => room, fun _ => calm, (by have := room.un; omega), fun a b r h => ?_, fun x c i f h => ?_, fun c f h => D.xf c f h, fun h => by have h2 : Nat.ble 200 m = true := h; have := Nat.le_of_ble_eq_true h2; omega, nd, tk, po⟩
  · obtain ⟨a1, a2, d, a3, rfl⟩ := D.fns x f n h
    exact ⟨fa f, fd f, ps f, a1, a2, (D.defs f d a3).2.1, hA f d a3⟩
  · obtain ⟨a1, a2, d, a3, rfl⟩ := D.news x c f n h
    exact ⟨a1, fa f, fd f, ps f, m, a2, (D.defs f d a3).2.1, Nat.le_refl _, hB f d a3⟩
  · obtain ⟨a1, a2, d, a3, rfl⟩ := D.mets c mm f n h
    exact ⟨a1, fa f, fd f, ps f, a2, (D.defs f d a3).2.1, hA f d a3⟩
  · obtain ⟨a1, a2, a3, a4, a5⟩ := D.excs x c h
    exact ⟨a1, a2, raises_own a3 a4, a5⟩
  · have h' : (Q.sub.find? fun t => t.1 == a && t.2.1 == b).map (·.2.2) = some r := h
    obtain ⟨t, ht, e⟩ := Option.map_eq_some_iff.mp h'
    have hm := List.mem_of_find?_eq_some ht
    have hp := List.find?_some ht
    obtain ⟨p1, p2⟩ := Bool.and_eq_true_iff.mp hp
    obtain ⟨t1, t2, t3⟩ := t
    have e1 : t1 = a := eq_of_beq p1
    have e2 : t2 = b := eq_of_beq p2
    have e3 : t3 = r := e
    subst e1 e2 e3
    exact D.sub _ _ _ hm
  · obtain ⟨a1, a2, a3, a4, a5, d, a6, a7, a8⟩ := D.xis x c i f h
    obtain ⟨b1, b2, x2, qual, params, body, scope, dvs, kws, n, F, S, ch⟩ := D.defs i d a6
    rw [a8] at ch
    exact ⟨a1, fa i, fd i, ps i, a2, a3, a4, a5, b2, init_ok F S (by rw [b1, a7]) ch⟩
/-- a def's body -/
theorem body_ok (D : Dep K mg T Q ca fa fd ps) {m : Nat} {CX : CXT} {f : Nat} {d : DefP} (hd : Q.defs[f]? = some d) (W : XK → WX)
    (hg : ∀ {qual : Str} {scope : Scope} (cdv : Value) (A : Around) (outer : List Env) (s : Shared) (H : Hp) (E : XK), d.N.Nodup → Room (m + 1) (A.deeper (envOfC qual scope s.heap.objs.size (fa f) cdv)) → Good (cxOf CX P w K mg base d.N qual scope (fa f) cdv A outer s H E) T (ctxN Q m) ca (W E) (m + 1))
    (sp : Sp) (hsp : ∀ vs H Qv E, sp vs H Qv E → ∃ E' : XK, (∀ c d H, E' c d H → W E c d [] H ∧ ∀ σ, W E c d σ H) ∧ Prom K ca d.np (callN Q (m + 1) f) vs H Qv E') : FnOk P w K mg base CX (m + 2) (fa f) (fd f) (ps f) sp := by
  obtain ⟨hl, hb, x, qual, params, body, scope, dvs, kws, n, F, S, ch⟩ := D.defs f d hd
  refine fund_ok F S (fun vs H Qv E h => ?_) fun cdv A outer s H vs Qv E hr h => ?_
  · obtain ⟨E', _, hp⟩ := hsp vs H Qv E h
    rw [Prom.len hp, hl]
  · obtain ⟨E', hE, hp⟩ := hsp vs H Qv E h
    have g := hg (qual := qual) (scope := scope) cdv A outer s H E S.nd hr
    refine ⟨tS K ca (W E) (evSs (ctxN Q m) Q.wf d.body), chSs_ok n _ scope (W E) body d.body g rfl rfl (fun _ => rfl) S.kind ⟨rfl, rfl, D.hot⟩ ch, ?_⟩
    obtain ⟨Ff, ρ, st, ss, rel, rs, hn, p⟩ := hp
    have hpl : d.np ≤ d.N.length := by
      have e := congrArg List.length S.pre
      rw [List.length_take, hl] at e
      omega
    refine ⟨Ff, ρ, st, startE d.N.length ss, rel, envOk_start rs (by omega), ?_⟩
    have p' : Post K ca E' H Ff ρ (endR (evSs (ctxN Q m) Q.wf d.body (startE d.N.length ss) st)) Qv := by
      have e : callN Q (m + 1) f ss st = endR (evSs (ctxN Q m) Q.wf d.body (startE d.N.length ss) st) := by
        rw [callN_succ]
        unfold runD
        rw [hd]
        show (match decide (ss.length = d.np) with
          | true => endR (evSs (ctxN Q m) Q.wf d.body (startE d.N.length ss) st)
          | false => .bad) = _
        rw [decide_eq_true hn]
      rw [e] at p
      exact p
    revert p'
    cases evSs (ctxN Q m) Q.wf d.body (startE d.N.length ss) st with
    | next env st1 => exact fun p σ' H' F' ρ' e r eo => p _ H' F' ρ' e r .non
    | ret w1 st1 => exact fun p v H' F' ρ' e r rv => p v H' F' ρ' e r rv
    | exc c q env st1 => exact fun p σ' H' F' ρ' e r eo => xk_imp (fun a b dd z => (hE a b dd z).2 σ') (p H' F' ρ' e r)
    | brk env st1 => exact fun p => p.elim
    | cont env st1 => exact fun p => p.elim
    | bad => exact fun p => p.elim
theorem fns_ok (D : Dep K mg T Q ca fa fd ps) (m : Nat) : (∀ f d, Q.defs[f]? = some d → FnOk P w K mg base (L2.CX P w) (m + 1) (fa f) (fd f) (ps f) (Prom K ca d.np (callN Q m f))) ∧
    ∀ f d, Q.defs[f]? = some d → FnOk P w K mg base (L2.CX P w) m (fa f) (fd f) (ps f) (Prom K ca d.np ((pairN Q m).2 f)) := by
  induction m with
  | zero => exact ⟨fun f d _ => ⟨fun _ _ _ _ h => (promBad (f := f) h).elim, fun _ _ _ _ _ _ _ _ _ _ _ _ _ h => (promBad (f := f) h).elim⟩, fun f d _ => ⟨fun _ _ _ _ h => (promBad (f := f) h).elim, fun _ _ _ _ _ _ _ _ _ _ _ _ _ h => (promBad (f := f) h).elim⟩⟩
  | succ m ih =>
    refine ⟨fun f d h => ?_, ih.1⟩
    refine body_ok D h (fun E cls dd _ H => E cls dd H) (fun {qual scope} cdv A outer s H E nd hr => ?_) _ fun vs H Qv E hp => ⟨E, fun c d H h => ⟨h, fun _ => h⟩, hp⟩
    exact good_of D ih.1 ih.2 rfl rfl rfl rfl rfl hr rfl nd (takes_of rfl rfl rfl rfl) (passes_of rfl)
/-- the law's def, which lets nothing out -/
theorem top_ok (D : Dep K mg T Q ca fa fd ps) (m : Nat) {f : Nat} {d : DefP} (h : Q.defs[f]? = some d) (sp : Sp) (hsp : ∀ vs H Qv E, sp vs H Qv E → Prom K ca d.np (callN Q (m + 1) f) vs H Qv fun _ _ _ => False) :
    FnOk P w K mg base CX0 (m + 2) (fa f) (fd f) (ps f) sp := by
  obtain ⟨hA, hB⟩ := fns_ok (P := P) (w := w) (base := base) D m
  refine body_ok D h (fun _ => W0) (fun {qual scope} cdv A outer s H E nd hr => ?_) sp fun vs H Qv E hp => ⟨fun _ _ _ => False, fun c d H h => h.elim, hsp vs H Qv E hp⟩
  · exact good_of D hA hB rfl rfl rfl rfl rfl hr rfl nd takes0 (passes_of rfl)
end
end PV

namespace PV
open PySem L2 PySem.Spec PyProof.Rows
/-! ## A program described, and its heap -/
structure Spc where
  T : Tab
  P : Pg
  ds : List He.DefD
  cn : List Str
  fu : Nat
def Spc.ca (S : Spc) (K : PySem.W.Frag) (c : Nat) : Addr := He.ga K (S.cn.getD c "")
def Spc.fa (S : Spc) (K : PySem.W.Frag) (f : Nat) : Addr := match S.ds[f]? with
  | some d => He.fAd K d.at_
  | none => 0
def Spc.ps (S : Spc) (f : Nat) : List Str := match S.ds[f]? with
  | some d => d.params.args.map (·.arg)
  | none => []
def dvOf : PyData → Option He.Dv
  | .none => some .non
  | .bool b => some (.bl b)
  | .int i => some (.int i)
  | .str x => some (.str x)
  | _ => none
def dvsOf : List PyData → List He.Dv
  | [] => []
  | x :: r => match dvOf x with
    | some d => d :: dvsOf r
    | none => dvsOf r
def gloFa (x : Str) : PyData → He.Fa
  | .int i => .int x i
  | .str z => .str x z
  | _ => .glo x
def Spc.facts (S : Spc) : List He.Fa := (S.T.glo.zip S.P.glo).map (fun p => gloFa p.1 p.2) ++ S.T.fns.map (fun p => .glo p.1) ++ S.T.news.map (fun p => .glo p.1) ++ S.T.news.map (fun p => .mkr p.1) ++ S.T.mets.map (fun p => .cls (S.cn.getD p.1 ""))
  ++ S.T.mets.map (fun p => .meth (S.cn.getD p.1 "") p.2.1) ++ S.T.excs.map (fun p => .glo p.1) ++ S.T.excs.map (fun p => .exc p.1) ++ S.T.bl.map .free ++ S.P.flds.map (fun p => .cls (S.cn.getD p.1 "")) ++ S.P.flds.map (fun p => .noat (S.cn.getD p.1 "") p.2)
/-- the global tuples -/
def tupsOf : List (Str × PyData) → List (Str × List He.Dv)
  | [] => []
  | (x, .tuple ds) :: r => (x, dvsOf ds) :: tupsOf r
  | _ :: r => tupsOf r
def Spc.tups (S : Spc) : List (Str × List He.Dv) := tupsOf (S.T.glo.zip S.P.glo)
def gloB : PyData → Bool
  | .int _ => true
  | .str _ => true
  | .tuple ds => ds.all fun d => (dvOf d).isSome
  | _ => false
def scB (N ps : List Str) (sc : Scope) : Bool := (match sc.kind with
    | .function => true
    | _ => false) && !sc.isCoroutine && !sc.isGenerator && decide N.Nodup && decide (N.take ps.length = ps) && (ps.all fun x => isLoc sc x) && sc.names.all fun y => match y.2 with
    | .free => false
    | _ => true
def parB (a : Arguments) (n : Nat) : Bool := match a with
  | ⟨[], as, none, [], [], none, []⟩ => decide (as.length = n) && Nat.ble n 8
  | _ => false
def defB (S : Spc) (p : DefP × He.DefD) : Bool := parB p.2.params p.1.np && p.2.dfl.isEmpty && p.2.kwd.isEmpty && scB p.1.N (p.2.params.args.map (·.arg)) p.2.scope && chSs S.T p.1.N S.fu p.2.scope p.2.body p.1.body
/-- what isinstance asks of a caught exception's class -/
def excB (K : PySem.W.Frag) (D : Addr) : Bool := decide (PySem.W.findIn K (.ref D) "__getattribute__" = some (some (.builtin "BaseException.__getattribute__"))) && (decide (PySem.W.findIn K (.ref D) "__getattr__" = some none) && (decide (PySem.W.subIn K (.ref D) (.type "BaseException") = some true) && (PySem.W.hasDictIn K D &&
  (decide (PySem.W.findIn K (.ref D) "__class__" = some (some (.builtin "object.__class__"))) && (decide (PySem.W.specialIn K (.builtin "object.__class__") "__get__" = some (some (.builtin "getset_descriptor.__get__"))) && (decide (PySem.W.takesIn K (.builtin "object.__class__") = some true) && decide (PySem.W.mroIn K D (.type "object") = some true)))))))
theorem excB_ok {K : PySem.W.Frag} {D : Addr} (h : excB K D = true) : ExcC K D := by
  unfold excB at h
  obtain ⟨h1, h⟩ := ba h
  obtain ⟨h2, h⟩ := ba h
  obtain ⟨h3, h⟩ := ba h
  obtain ⟨h4, h⟩ := ba h
  obtain ⟨h5, h⟩ := ba h
  obtain ⟨h6, h⟩ := ba h
  obtain ⟨h7, h8⟩ := ba h
  exact ⟨of_decide_eq_true h1, of_decide_eq_true h2, of_decide_eq_true h3, h4, of_decide_eq_true h5, of_decide_eq_true h6, of_decide_eq_true h7, of_decide_eq_true h8⟩
def subB (S : Spc) (K : PySem.W.Frag) (t : Nat × Nat × Bool) : Bool := excB K (S.ca K t.1) && (decide (PySem.W.exmOne K (.ref (S.ca K t.1)) (.ref (S.ca K t.2.1)) = some t.2.2) && decide (PySem.W.kitOne K (.ref (S.ca K t.1)) (.ref (S.ca K t.2.1)) = some t.2.2))
/-- an exception class whose __init__ keeps one field -/
def oexB (K : PySem.W.Frag) (C : Addr) : Bool := (match K.lookup C with
  | some ⟨.type "type", _, .cls cd, sl⟩ => (match cd.mro, sl.toList with
    | .ref C' :: bm, [_, _, _, _, some (.builtin n), _] => C' == C && n == "ValueError.__new__" && !cd.hasDel && cd.hasDict && PySem.HandSPX.refsVE bm
    | _, _ => false)
  | _ => false) && (decide (PySem.W.findIn K (.ref C) "__setattr__" = some (some (.builtin "object.__setattr__"))) && (decide (PySem.W.subIn K (.ref C) (.type "BaseException") = some true) && (decide (PySem.W.typeIn K (.ref C) = some (.type "type")) && PySem.W.keepIn K (.ref C))))
theorem oexB_ok {K : PySem.W.Frag} {C : Addr} (h : oexB K C = true) : OexC K C := by
  unfold oexB at h
  obtain ⟨q, h⟩ := ba h
  obtain ⟨h1, h⟩ := ba h
  obtain ⟨h2, h⟩ := ba h
  obtain ⟨h3, h4⟩ := ba h
  refine ⟨?_, of_decide_eq_true h1, of_decide_eq_true h2, of_decide_eq_true h3, h4⟩
  split at q
  · rename_i dd cd sl ho
    split at q
    · rename_i C' bm k0 k1 k2 k3 n k5 hm hs
      simp only [Bool.and_eq_true, beq_iff_eq, Bool.not_eq_true'] at q
      obtain ⟨⟨⟨⟨rfl, rfl⟩, hdel⟩, hdict⟩, ht⟩ := q
      obtain ⟨nm, bs, mro, ns, qn, hd, sn, sub, ab, col, del⟩ := cd
      dsimp only at hm hdel hdict
      subst hm hdel hdict
      have hsl : sl = #[k0, k1, k2, k3, some (.builtin "ValueError.__new__"), k5] := by
        obtain ⟨l⟩ := sl
        simp only at hs
        rw [hs]
      subst hsl
      exact ⟨nm, qn, ns, bs, bm, sn, sub, ab, col, dd, k0, k1, k2, k3, k5, ho, ht⟩
    · cases q
  · cases q
def xiB (S : Spc) (K : PySem.W.Frag) (p : Str × Nat × Nat × Str) : Bool := (He.Fa.glo p.1).ok K && (decide (S.cn.getD p.2.1 "" = p.1) && (oexB K (S.ca K p.2.1) && (decide (PySem.W.findIn K (.ref (S.ca K p.2.1)) "__init__" = some (some (.ref (S.fa K p.2.2.1)))) && (decide (PySem.W.typeIn K (.ref (S.fa K p.2.2.1)) = some (.type "function")) && decide (PySem.W.findIn K (.ref (S.ca K p.2.1)) p.2.2.2 = some none)))))
def xfsB (S : Spc) (K : PySem.W.Frag) (p : Nat × Str) : Bool := xfB K (S.ca K p.1) && decide (PySem.W.findIn K (.ref (S.ca K p.1)) p.2 = some none)
def Spc.iniB (S : Spc) (i : Nat) (f : Str) : Bool := match S.P.defs[i]? with
  | some d => decide (d.np = 2) && (match d.body with
    | [.ini g] => beqS g f
    | _ => false)
  | none => false
/-- what is looked at of the heap beyond the facts -/
def Spc.obsB (S : Spc) (K : PySem.W.Frag) : Bool := (S.tups.all fun p => He.tupB K p.1 p.2) && (S.P.sub.all (subB S K) && (S.T.xis.all (xiB S K) && S.P.xfs.all (xfsB S K)))
def Spc.npB (S : Spc) (f n : Nat) : Bool := match S.P.defs[f]? with
  | some d => decide (d.np = n)
  | none => false
def Spc.atB (S : Spc) (f : Nat) (a : Str × Option Str) : Bool := match S.ds[f]? with
  | some d => decide (d.at_ = a)
  | none => false
def Spc.ok (S : Spc) : Bool := !S.T.hot && decide (S.T.glo.length = S.P.glo.length) && S.P.glo.all gloB && decide (S.P.defs.length = S.ds.length)
  && (S.T.fns.all fun p => S.atB p.2.1 (p.1, none) && S.npB p.2.1 p.2.2)
  && (S.T.news.all fun p => decide (S.cn.getD p.2.1 "" = p.1) && S.atB p.2.2.1 (p.1, some "__init__") && S.npB p.2.2.1 p.2.2.2)
  && (S.T.mets.all fun p => S.atB p.2.2.1 (S.cn.getD p.1 "", some p.2.1) && S.npB p.2.2.1 p.2.2.2)
  && (S.T.excs.all fun p => decide (S.cn.getD p.2 "" = p.1))
  && (S.T.xis.all fun p => S.iniB p.2.2.1 p.2.2.2)
  && (S.P.defs.zip S.ds).all (defB S)
section
variable {S : Spc} {K : PySem.W.Frag}
theorem dvOf_rep {d : PyData} {v : He.Dv} (h : dvOf d = some v) (F : Hp) : DRep K F (v.v K) d := by
  cases d <;> first
    | (cases h; done)
    | (cases h; exact .non)
    | (cases h; exact .bl _)
    | (cases h; exact .int _)
    | (cases h; exact .str _)
theorem dvsOf_rep : ∀ {ds : List PyData}, (ds.all fun d => (dvOf d).isSome) = true → ∀ F : Hp, DReps K F ((dvsOf ds).map (He.Dv.v K)) ds
  | [], _, _ => .nil
  | d :: r, h, F => by
    obtain ⟨h1, h2⟩ := ba (show ((dvOf d).isSome && r.all fun d => (dvOf d).isSome) = true from h)
    obtain ⟨v, e⟩ := Option.isSome_iff_exists.mp h1
    have e2 : dvsOf (d :: r) = v :: dvsOf r := by
      show (match dvOf d with
        | some d => d :: dvsOf r
        | none => dvsOf r) = _
      rw [e]
    rw [e2]
    exact .cons (dvOf_rep e F) (dvsOf_rep h2 F)
theorem tups_mem {x : Str} {ds : List PyData} : ∀ {l : List (Str × PyData)}, (x, .tuple ds) ∈ l → (x, dvsOf ds) ∈ tupsOf l
  | [], h => nomatch h
  | (y, d) :: r, h => by
    rcases List.mem_cons.mp h with e | h
    · cases e; exact List.mem_cons_self
    · have q := tups_mem h
      cases d <;> first | exact List.mem_cons_of_mem _ q | exact q
/-- what the end leans on -/
structure Says (S : Spc) (K : PySem.W.Frag) : Prop where
  say : He.SaysD S.facts S.ds K
  tup : S.obsB K = true
theorem Says.fact (c : Says S K) {f : He.Fa} (h : f ∈ S.facts) : f.ok K = true := by
  obtain ⟨i, hi⟩ := List.mem_iff_getElem?.mp h
  exact c.say.fact i hi
/-- how a def takes its arguments -/
def BindOk (d : He.DefD) : Prop := ∀ (kV doc pm : Value) (an : Option Addr) (cdv ct : Value) (us : List Value), us.length = (d.params.args.map (·.arg)).length → bindArgs (PySem.W.fnOf d.name d.qual d.params d.body d.scope .none kV doc pm an cdv ct) ⟨us, []⟩ = pure ((d.params.args.map (·.arg)).zip us)
theorem bindOk_of {d : He.DefD} {ps : List Str} (h : d.params.args.map (·.arg) = ps) (k : ∀ (kV doc pm : Value) (an : Option Addr) (cdv ct : Value) (us : List Value), us.length = ps.length → bindArgs (PySem.W.fnOf d.name d.qual d.params d.body d.scope .none kV doc pm an cdv ct) ⟨us, []⟩ = pure (ps.zip us)) : BindOk d := by
  subst h
  exact k
def AllBind : List He.DefD → Prop
  | [] => True
  | d :: r => BindOk d ∧ AllBind r
theorem AllBind.get : ∀ {l : List He.DefD} {f : Nat} {d : He.DefD}, AllBind l → l[f]? = some d → BindOk d
  | [], f, _, _, e => by cases f <;> cases e
  | x :: r, 0, d, h, e => by cases e; exact h.1
  | x :: r, f + 1, d, h, e => AllBind.get (l := r) (f := f) h.2 (by simpa using e)
theorem par_inv {a : Arguments} {n : Nat} (h : parB a n = true) : ∃ as, a = ⟨[], as, none, [], [], none, []⟩ ∧ as.length = n ∧ n ≤ 8 := by
  obtain ⟨p, as, va, ko, kd, kw, df⟩ := a
  cases p <;> cases va <;> cases ko <;> cases kd <;> cases kw <;> cases df <;> first
    | (cases h; done)
    | (obtain ⟨h1, h2⟩ := ba (show (decide (as.length = n) && Nat.ble n 8) = true from h); exact ⟨as, rfl, of_decide_eq_true h1, Nat.le_of_ble_eq_true h2⟩)
theorem sc_inv {N ps : List Str} {sc : Scope} (h : scB N ps sc = true) : FnScope N ps sc := by
  unfold scB at h
  obtain ⟨h1, h7⟩ := ba h
  obtain ⟨h1, h6⟩ := ba h1
  obtain ⟨h1, h5⟩ := ba h1
  obtain ⟨h1, h4⟩ := ba h1
  obtain ⟨h1, h3⟩ := ba h1
  obtain ⟨h1, h2⟩ := ba h1
  refine ⟨?_, by simpa using h2, by simpa using h3, of_decide_eq_true h4, of_decide_eq_true h5, fun x m => ?_, fun y m e => ?_⟩
  · cases q : sc.kind with
    | function => rfl
    | _ => rw [q] at h1; cases h1
  · have q := List.all_eq_true.mp h6 x m
    unfold isLoc at q
    cases q2 : sc.names.lookup x with
    | none => rw [q2] at q; cases q
    | some kd => cases kd <;> first | (rw [q2] at q; cases q; done) | simp
  · have q := List.all_eq_true.mp h7 y m
    rw [e] at q
    cases q
theorem at_inv {f : Nat} {a : Str × Option Str} (h : S.atB f a = true) : S.fa K f = He.fAd K a ∧ ∃ d, S.ds[f]? = some d := by
  unfold Spc.atB at h
  unfold Spc.fa
  cases q : S.ds[f]? with
  | none => rw [q] at h; cases h
  | some d =>
    rw [q] at h
    have e := of_decide_eq_true h
    exact ⟨by rw [← e], d, rfl⟩
theorem np_inv {f n : Nat} (h : S.npB f n = true) : ∃ d, S.P.defs[f]? = some d ∧ d.np = n := by
  unfold Spc.npB at h
  cases q : S.P.defs[f]? with
  | none => rw [q] at h; cases h
  | some d =>
    rw [q] at h
    exact ⟨d, rfl, of_decide_eq_true h⟩
theorem dep_of {h : Heap} {mg : Str → Option Value} (X : K.In h) (Gm : h.Ns mainGlobals mg) (hS : S.ok = true) (hB : AllBind S.ds) (c : Says S K) (fd : Nat → FuncData) (hfd : ∀ f (d : He.DefD), S.ds[f]? = some d → FunD K d.name d.qual d.params d.body d.scope (d.dvs K) (d.kws K) (He.fAd K d.at_) (fd f)) :
    Dep K mg S.T S.P (S.ca K) (S.fa K) fd S.ps := by
  unfold Spc.ok at hS
  obtain ⟨hS, s8⟩ := ba hS
  obtain ⟨hS, s9⟩ := ba hS
  obtain ⟨hS, s7⟩ := ba hS
  obtain ⟨hS, s6⟩ := ba hS
  obtain ⟨hS, s5⟩ := ba hS
  obtain ⟨hS, s4⟩ := ba hS
  obtain ⟨hS, s3⟩ := ba hS
  obtain ⟨hS, s2⟩ := ba hS
  obtain ⟨s0, s1⟩ := ba hS
  have s1 := of_decide_eq_true s1
  have s3 := of_decide_eq_true s3
  have fact : ∀ f, f ∈ S.facts → f.ok K = true := fun f => c.fact
  unfold Spc.facts at fact
  simp only [List.mem_append, List.mem_map] at fact
  have kept : ∀ f (d : He.DefD), S.ds[f]? = some d → PySem.W.keepIn K (.ref (He.fAd K d.at_)) = true := fun f d e => (hfd f d e).kp
  refine ⟨fun g x e => ?_, fun x f n m => ?_, fun x cc f n m => ?_, fun cc mm f n m => ?_, fun x cc m => ?_, fun b m => ?_, fun cc f m => ?_, fun a b r m => ?_, fun x cc i f m => ?_, fun cc f m => ?_, by simpa using s0, fun f d e => ?_⟩
  · have hlt : g < S.T.glo.length := (List.getElem?_eq_some_iff.mp e).1
    have e2 : S.P.glo[g]? = some (S.P.glo.getD g .none) := by
      rw [List.getD_eq_getElem?_getD, List.getElem?_eq_getElem (by omega)]
      rfl
    generalize S.P.glo.getD g .none = d at e2
    have hz : (x, d) ∈ S.T.glo.zip S.P.glo := by
      refine List.mem_of_getElem? (i := g) ?_
      rw [List.getElem?_zip_eq_some]
      exact ⟨e, e2⟩
    have hb := List.all_eq_true.mp s2 d (List.mem_of_getElem? e2)
    have hf := fact _ (.inl (.inl (.inl (.inl (.inl (.inl (.inl (.inl (.inl (.inl ⟨(x, d), hz, rfl⟩))))))))))
    cases d with
    | int i => obtain ⟨t, e3⟩ := He.int_ok X Gm hf; exact ⟨.int i, _, e3, ⟨t, rfl⟩, fun F => .int i⟩
    | str z => obtain ⟨t, e3⟩ := He.str_ok X Gm hf; exact ⟨.str z, _, e3, ⟨t, rfl⟩, fun F => .str z⟩
    | tuple ds =>
      have e3 := He.glo_ok X Gm hf
      have ht := List.all_eq_true.mp (ba c.tup).1 _ (tups_mem hz)
      exact ⟨.ref (He.ga K x), _, e3, rfl, fun F => .tup (He.tupB_ok ht F) (dvsOf_rep hb F)⟩
    | _ => cases hb
  · obtain ⟨b1, b2⟩ := ba (List.all_eq_true.mp s4 (x, f, n) m)
    have hf := fact _ (.inl (.inl (.inl (.inl (.inl (.inl (.inl (.inl (.inl (.inr ⟨(x, f, n), m, rfl⟩))))))))))
    obtain ⟨e1, d, e2⟩ := at_inv (K := K) b1
    rw [e1]
    refine ⟨He.glo_ok X Gm hf, ?_, np_inv b2⟩
    have q := kept f d e2
    have e3 : He.fAd K d.at_ = S.fa K f := by unfold Spc.fa; rw [e2]
    rw [e3, e1] at q
    exact q
  · obtain ⟨b1, b3⟩ := ba (List.all_eq_true.mp s5 (x, cc, f, n) m)
    obtain ⟨b1, b2⟩ := ba b1
    have hf := fact _ (.inl (.inl (.inl (.inl (.inl (.inl (.inl (.inl (.inr ⟨(x, cc, f, n), m, rfl⟩)))))))))
    have hk := fact _ (.inl (.inl (.inl (.inl (.inl (.inl (.inl (.inr ⟨(x, cc, f, n), m, rfl⟩))))))))
    obtain ⟨e1, d, e2⟩ := at_inv (K := K) b2
    have ec : S.ca K cc = He.ga K x := by unfold Spc.ca; rw [of_decide_eq_true b1]
    rw [e1, ec]
    exact ⟨He.glo_ok X Gm hf, He.mkr_ok hk, np_inv b3⟩
  · obtain ⟨b1, b2⟩ := ba (List.all_eq_true.mp s6 (cc, mm, f, n) m)
    have hc := fact _ (.inl (.inl (.inl (.inl (.inl (.inl (.inr ⟨(cc, mm, f, n), m, rfl⟩)))))))
    have hm := fact _ (.inl (.inl (.inl (.inl (.inl (.inr ⟨(cc, mm, f, n), m, rfl⟩))))))
    obtain ⟨e1, d, e2⟩ := at_inv (K := K) b1
    rw [e1]
    exact ⟨He.cls_ok hc, He.meth_ok hm, np_inv b2⟩
  · have b1 := of_decide_eq_true (List.all_eq_true.mp s7 (x, cc) m)
    have hf := fact _ (.inl (.inl (.inl (.inl (.inr ⟨(x, cc), m, rfl⟩)))))
    have he := fact _ (.inl (.inl (.inl (.inr ⟨(x, cc), m, rfl⟩))))
    have ec : S.ca K cc = He.ga K x := by unfold Spc.ca; rw [b1]
    obtain ⟨q1, q2, q3, q4⟩ := He.exc_ok he
    rw [ec]
    exact ⟨He.glo_ok X Gm hf, q2, q3, q4, q1⟩
  · have hf := fact _ (.inl (.inl (.inr ⟨b, m, rfl⟩)))
    exact He.free_ok X Gm hf
  · have m := List.contains_iff_mem.mp m
    have hc := fact _ (.inl (.inr ⟨(cc, f), m, rfl⟩))
    have hn := fact _ (.inr ⟨(cc, f), m, rfl⟩)
    exact ⟨He.cls_ok hc, He.noat_ok hn⟩
  · obtain ⟨q1, q⟩ := ba (List.all_eq_true.mp (ba (ba c.tup).2).1 _ m)
    obtain ⟨q2, q3⟩ := ba q
    exact ⟨excB_ok q1, of_decide_eq_true q2, of_decide_eq_true q3⟩
  · have q := List.all_eq_true.mp (ba (ba (ba c.tup).2).2).1 _ m
    obtain ⟨q1, q⟩ := ba q
    obtain ⟨q2, q⟩ := ba q
    obtain ⟨q3, q⟩ := ba q
    obtain ⟨q4, q⟩ := ba q
    obtain ⟨q5, q6⟩ := ba q
    have ec : S.ca K cc = He.ga K x := by unfold Spc.ca; rw [of_decide_eq_true q2]
    refine ⟨by rw [ec]; exact He.glo_ok X Gm q1, oexB_ok q3, of_decide_eq_true q4, of_decide_eq_true q5, of_decide_eq_true q6, ?_⟩
    have b := List.all_eq_true.mp s9 _ m
    unfold Spc.iniB at b
    dsimp only at b
    cases z : S.P.defs[i]? with
    | none => rw [z] at b; cases b
    | some d =>
      rw [z] at b
      obtain ⟨b1, b2⟩ := ba b
      refine ⟨d, rfl, of_decide_eq_true b1, ?_⟩
      revert b2
      cases d.body with
      | nil => intro b2; cases b2
      | cons s ss =>
        cases ss with
        | cons _ _ => cases s <;> (intro b2; cases b2)
        | nil =>
          cases s with
          | ini g => intro b2; rw [beqS_eq b2]
          | _ => intro b2; cases b2
  · have q := List.all_eq_true.mp (ba (ba (ba c.tup).2).2).2 _ (List.contains_iff_mem.mp m)
    obtain ⟨q1, q2⟩ := ba q
    exact ⟨xfB_ok q1, of_decide_eq_true q2⟩
  · have hlt : f < S.P.defs.length := (List.getElem?_eq_some_iff.mp e).1
    obtain ⟨dd, ed⟩ : ∃ dd, S.ds[f]? = some dd := ⟨_, List.getElem?_eq_getElem (by omega)⟩
    have hz : (d, dd) ∈ S.P.defs.zip S.ds := by
      refine List.mem_of_getElem? (i := f) ?_
      rw [List.getElem?_zip_eq_some]
      exact ⟨e, ed⟩
    have b1 : defB S (d, dd) = true := List.all_eq_true.mp s8 _ hz
    unfold defB at b1
    obtain ⟨b1, b5⟩ := ba b1
    obtain ⟨b1, b4⟩ := ba b1
    obtain ⟨b1, b3⟩ := ba b1
    obtain ⟨b1, b2⟩ := ba b1
    obtain ⟨as, e4, e5, e6⟩ := par_inv b1
    have F := hfd f dd ed
    have ep : S.ps f = dd.params.args.map (·.arg) := by unfold Spc.ps; rw [ed]
    have ef : S.fa K f = He.fAd K dd.at_ := by unfold Spc.fa; rw [ed]
    have d0 : dd.dvs K = [] := by
      have z : dd.dfl = [] := List.isEmpty_iff.mp b2
      unfold He.DefD.dvs
      rw [z]
      rfl
    have k0 : dd.kws K = [] := by
      have z : dd.kwd = [] := List.isEmpty_iff.mp b3
      unfold He.DefD.kws
      rw [z]
      rfl
    rw [d0, k0] at F
    refine ⟨?_, ?_, dd.name, dd.qual, dd.params, dd.body, dd.scope, [], [], S.fu, by rw [ef]; exact F, by rw [ep]; exact sc_inv b4, b5⟩
    · rw [ep, List.length_map, e4]; exact e5
    · rw [ep]
      exact F.bindsN (hB.get ed)
/-! ### the Hook -/
def obsV (S : Spc) (K : PySem.W.Frag) : He.AlD × Bool := (He.obsD S.facts S.ds K, S.obsB K)
def obsVG (n : Nat) (S : Spc) (g : Addr → Option Obj) : He.AlD × Bool := obsV S (He.frG g (He.asD g n))
def hookV (n : Nat) (S : Spc) : PySem.W.Hook where
  α := He.AlD × Bool
  obs := fun s => obsVG n S s.heap.get?
  val := fun _ => (He.valD S.ds, true)
  says := fun _ h => ∃ K : PySem.W.Frag, K.In h ∧ Says S K
  of := fun _ _ e => ⟨_, He.frG_in, congrArg Prod.fst e, congrArg Prod.snd e⟩
  keeps := fun _ _ _ ⟨K, hK, c⟩ k => ⟨K, PySem.W.Frag.In.keeps hK k, c⟩
theorem obsVG_eq {n : Nat} {S : Spc} {g : Addr → Option Obj} {s : Shared} (h : ∀ a, g a = s.heap.get? a) : obsVG n S g = (hookV n S).obs s := by
  have e : g = s.heap.get? := funext h
  rw [e] <;> rfl
/-- what is asked of the law's def -/
def Wanted (S : Spc) (f m : Nat) : Prop := ∀ ns : List Int, ns.length ≤ 63 → ∃ st, callN S.P (m + 1) f [.d (scrD ns)] [] = .ok (.d (.bool true)) st
def spLaw (K : PySem.W.Frag) : Sp := fun vs H Q _ => ∃ (a : Addr) (ns : List Int), vs = [.ref a] ∧ ns.length ≤ 63 ∧ SqL K H a (ns.map V.int) ∧ ∀ H', Q (.bl true) H'
theorem rel0 {K : PySem.W.Frag} {ca : Nat → Addr} {H : Hp} : Rel K ca H H [] [] := ⟨fun _ _ h => h, List.nodup_nil, .nil⟩
theorem law_out {P : Program} {w : World} {h : Heap} {mg : Str → Option Value} {f m : Nat} {af : Addr} {x : Str} (X : K.In h) (Gm : h.Ns mainGlobals mg) (hS : S.ok = true) (hB : AllBind S.ds) (c : Says S K) (hat : S.atB f (x, none) = true) (hnp : S.npB f 1 = true) (hdf : ∀ (d : He.DefD), S.ds[f]? = some d → d.dfl = [] ∧ d.kwd = []) (hps : S.ps f = [("_law_script" : Str)]) (hmg : mg x = some (.ref af)) (hfn : S.T.fns.contains (x, f, 1) = true) (hw : Wanted S f m) (hm : m ≤ 600 := by decide) :
    ∃ fd : FuncData, (∀ (s : Shared) (u : Value), BindsTo s fd ⟨[u], []⟩ [(("_law_script" : Str), u)]) ∧ ∀ base : Heap, K.In base → base.Ns mainGlobals mg → L2.FnOk P w K mg base CX0 231 af fd [("_law_script" : Str)] (spLaw K) := by
  obtain ⟨ea, d0, ed0⟩ := at_inv (K := K) hat
  have hex : ∀ f : Nat, ∃ fd : FuncData, ∀ (d : He.DefD), S.ds[f]? = some d → FunD K d.name d.qual d.params d.body d.scope (d.dvs K) (d.kws K) (He.fAd K d.at_) fd := by
    intro g
    cases q : S.ds[g]? with
    | none =>
      obtain ⟨fd, _⟩ := c.say.def_ f ed0
      exact ⟨fd, fun _ e => nomatch e⟩
    | some d =>
      obtain ⟨fd, hfd⟩ := c.say.def_ g q
      exact ⟨fd, fun d' e => by cases e; exact hfd⟩
  obtain ⟨fd, hfd⟩ := Classical.axiomOfChoice hex
  have D := dep_of X Gm hS hB c fd hfd
  have hglo : He.Fa.glo x ∈ S.facts := by
    have m := List.contains_iff_mem.mp hfn
    unfold Spc.facts
    simp only [List.mem_append, List.mem_map]
    exact .inl (.inl (.inl (.inl (.inl (.inl (.inl (.inl (.inl (.inr ⟨(x, f, 1), m, rfl⟩)))))))))
  have e := hmg.symm.trans (He.glo_ok X Gm (c.fact hglo))
  have eaf : af = S.fa K f := by
    rw [ea]
    have e' := Option.some.inj e
    exact Value.ref.inj e'
  obtain ⟨d, hd, hdn⟩ := np_inv hnp
  obtain ⟨q1, q2, _⟩ := D.defs f d hd
  refine ⟨fd f, fun s u => ?_, fun base _ _ => ?_⟩
  · have F := hfd f d0 ed0
    obtain ⟨z1, z2⟩ := hdf d0 ed0
    have e1 : d0.dvs K = [] := by unfold He.DefD.dvs; rw [z1]; rfl
    have e2 : d0.kws K = [] := by unfold He.DefD.kws; rw [z2]; rfl
    rw [e1, e2] at F
    have ep : S.ps f = d0.params.args.map (·.arg) := by unfold Spc.ps; rw [ed0]
    have b := F.bindsA (hB.get ed0) s [u] (by rw [← ep, hps]; rfl)
    rw [← ep, hps] at b
    exact b
  · have r := top_ok (P := P) (w := w) (base := base) D m hd (spLaw K) fun vs H Qv E hs => by
      obtain ⟨a, ns, rfl, hl, hq, hQ⟩ := hs
      obtain ⟨st, e⟩ := hw ns hl
      refine ⟨H, [], [], [.d (scrD ns)], rel0, .cons (.scr hq) .nil, by rw [hdn]; rfl, ?_⟩
      rw [e]
      intro v H' F' ρ' _ _ rv
      cases rv
      exact hQ H'
    rw [hps] at r
    rw [eaf]
    exact r.out (by omega)
end
end PV

namespace PV
open PySem L2
/-! ## Plain reasoning about the small language -/
/-- f at level m answers x to the data ds -/
def Ans (P : Pg) (m f : Nat) (ds : List PyData) (x : PyData) : Prop := ∃ st, callN P m f (ds.map .d) [] = .ok (.d x) st
theorem allD_map (ds : List PyData) : allD (ds.map .d) = some ds := by
  induction ds with
  | nil => rfl
  | cons d r ih => show (match allD (r.map .d) with
      | some xs => some (d :: xs)
      | none => none) = _; rw [ih]
theorem evCall_ans {P : Pg} {m f : Nat} {ds : List PyData} {x : PyData} (h : Ans P m f ds x) (st : Sto) : evCall (callN P m f) (ds.map .d) st = .ok (.d x) st := by
  obtain ⟨s, e⟩ := h
  unfold evCall
  rw [allD_map]
  simp only [e]
theorem call1 {P : Pg} {m f : Nat} {a x : PyData} (h : Ans P m f [a] x) (st : Sto) : evCall (callN P m f) [.d a] st = .ok (.d x) st := evCall_ans (ds := [a]) h st
theorem call2 {P : Pg} {m f : Nat} {a b x : PyData} (h : Ans P m f [a, b] x) (st : Sto) : evCall (callN P m f) [.d a, .d b] st = .ok (.d x) st := evCall_ans (ds := [a, b]) h st
theorem call3 {P : Pg} {m f : Nat} {a b c x : PyData} (h : Ans P m f [a, b, c] x) (st : Sto) : evCall (callN P m f) [.d a, .d b, .d c] st = .ok (.d x) st := evCall_ans (ds := [a, b, c]) h st
@[simp] theorem ctx_call (P : Pg) (m : Nat) : (ctxN P m).call = callN P m := rfl
theorem ctx_glo (P : Pg) (m g : Nat) : (ctxN P m).glo g = P.glo.getD g .none := rfl
/-- equations in the order of reading -/
theorem w_var (G : Ctx) (i : Nat) (env : Ev) (st : Sto) : evE G (.var i) env st = (match env[i]? with
    | some (some s) => .ok s st
    | _ => .bad) := rfl
@[simp] theorem w_lit (G : Ctx) (d : PyData) (env : Ev) (st : Sto) : evE G (.lit d) env st = .ok (.d d) st := rfl
@[simp] theorem w_glo (G : Ctx) (g : Nat) (env : Ev) (st : Sto) : evE G (.glo g) env st = .ok (.d (G.glo g)) st := rfl
def opR (p : Prim) (r : Rs (List Sv)) : Rs Sv := r.bind fun ss st1 => toRs st1 (bindO (views st1 ss) (prim p))
@[simp] theorem w_op (G : Ctx) (p : Prim) (es : List CE) (env : Ev) (st : Sto) : evE G (.op p es) env st = opR p (evEs G es env st) := rfl
@[simp] theorem w_opk (p : Prim) (ss : List Sv) (st : Sto) : opR p (.ok ss st) = toRs st (bindO (views st ss) (prim p)) := rfl
def callR (c : List Sv → Sto → Rs Sv) (r : Rs (List Sv)) : Rs Sv := r.bind fun ss st1 => evCall c ss st1
@[simp] theorem w_callk (c : List Sv → Sto → Rs Sv) (ss : List Sv) (st : Sto) : callR c (.ok ss st) = evCall c ss st := rfl
def consR1 (G : Ctx) (es : List CE) (env : Ev) (r : Rs Sv) : Rs (List Sv) := r.bind fun s st1 => (evEs G es env st1).bind fun ss st2 => .ok (s :: ss) st2
def consR2 (s : Sv) (r : Rs (List Sv)) : Rs (List Sv) := r.bind fun ss st2 => .ok (s :: ss) st2
@[simp] theorem w_consk1 (G : Ctx) (es : List CE) (env : Ev) (s : Sv) (st : Sto) : consR1 G es env (.ok s st) = consR2 s (evEs G es env st) := rfl
@[simp] theorem w_consk2 (s : Sv) (ss : List Sv) (st : Sto) : consR2 s (.ok ss st) = .ok (s :: ss) st := rfl
@[simp] theorem w_call (G : Ctx) (f : Nat) (es : List CE) (env : Ev) (st : Sto) : evE G (.call f es) env st = callR (G.call f) (evEs G es env st) := rfl
@[simp] theorem w_nil (G : Ctx) (env : Ev) (st : Sto) : evEs G [] env st = .ok [] st := rfl
@[simp] theorem w_cons (G : Ctx) (e : CE) (es : List CE) (env : Ev) (st : Sto) : evEs G (e :: es) env st = consR1 G es env (evE G e env st) := rfl
@[simp] theorem w_bok {α β : Type} (a : α) (st : Sto) (f : α → Sto → Rs β) : (Rs.ok a st).bind f = f a st := rfl
@[simp] theorem w_lok (env : Ev) (s : Sv) (st : Sto) (k : Sv → Sto → SRs) : lift env (.ok s st) k = k s st := rfl
def setR (G : Ctx) (t : CT) (env : Ev) (r : Rs Sv) : SRs := lift env r fun s st1 => nextO (evT G t s env st1)
@[simp] theorem q_set (G : Ctx) (wf : Nat) (t : CT) (e : CE) (env : Ev) (st : Sto) : evS G wf (.set t e) env st = setR G t env (evE G e env st) := rfl
@[simp] theorem q_setk (G : Ctx) (t : CT) (env : Ev) (s : Sv) (st : Sto) : setR G t env (.ok s st) = nextO (evT G t s env st) := rfl
def retR (env : Ev) (r : Rs Sv) : SRs := lift env r fun s st1 => .ret s st1
@[simp] theorem q_retk (env : Ev) (s : Sv) (st : Sto) : retR env (.ok s st) = .ret s st := rfl
@[simp] theorem q_rete (env : Ev) (c : Nat) (p : List (Str × PyData)) (st : Sto) : retR env (.exc c p st) = .exc c p env st := rfl
@[simp] theorem q_sete (G : Ctx) (t : CT) (env : Ev) (c : Nat) (p : List (Str × PyData)) (st : Sto) : setR G t env (.exc c p st) = .exc c p env st := rfl
def iteR (G : Ctx) (wf : Nat) (a b : List CS) (env : Ev) (r : Rs Sv) : SRs := onT r env (fun st1 => evSs G wf a env st1) fun st1 => evSs G wf b env st1
@[simp] theorem q_itek (G : Ctx) (wf : Nat) (a b : List CS) (env : Ev) (x : Bool) (st : Sto) : iteR G wf a b env (.ok (.d (.bool x)) st) = if x = true then evSs G wf a env st else evSs G wf b env st := by cases x <;> rfl
@[simp] theorem q_rets (G : Ctx) (wf : Nat) (e : CE) (env : Ev) (st : Sto) : evS G wf (.ret e) env st = retR env (evE G e env st) := rfl
@[simp] theorem q_ite (G : Ctx) (wf : Nat) (c : CE) (a b : List CS) (env : Ev) (st : Sto) : evS G wf (.ite c a b) env st = iteR G wf a b env (evE G c env st) := rfl
@[simp] theorem ss_nil (G : Ctx) (wf : Nat) (env : Ev) (st : Sto) : evSs G wf [] env st = .next env st := rfl
/-- what follows a statement -/
def seqS (G : Ctx) (wf : Nat) (r : List CS) (x : SRs) : SRs := match x with
  | .next env st => evSs G wf r env st
  | x => x
@[simp] theorem ss_cons (G : Ctx) (wf : Nat) (s : CS) (r : List CS) (env : Ev) (st : Sto) : evSs G wf (s :: r) env st = seqS G wf r (evS G wf s env st) := by
  show (match evS G wf s env st with
    | .next env1 st1 => evSs G wf r env1 st1
    | x => x) = _
  cases evS G wf s env st <;> rfl
@[simp] theorem q_next (G : Ctx) (wf : Nat) (r : List CS) (env : Ev) (st : Sto) : seqS G wf r (.next env st) = evSs G wf r env st := rfl
@[simp] theorem q_ret (G : Ctx) (wf : Nat) (r : List CS) (w : Sv) (st : Sto) : seqS G wf r (.ret w st) = .ret w st := rfl
@[simp] theorem q_cont (G : Ctx) (wf : Nat) (r : List CS) (env : Ev) (st : Sto) : seqS G wf r (.cont env st) = .cont env st := rfl
@[simp] theorem q_brk (G : Ctx) (wf : Nat) (r : List CS) (env : Ev) (st : Sto) : seqS G wf r (.brk env st) = .brk env st := rfl
@[simp] theorem q_exc (G : Ctx) (wf : Nat) (r : List CS) (c : Nat) (p : List (Str × PyData)) (env : Ev) (st : Sto) : seqS G wf r (.exc c p env st) = .exc c p env st := rfl
@[simp] theorem w_tt (env : Ev) (st : Sto) (a b : Sto → SRs) : onT (.ok (.d (.bool true)) st) env a b = a st := rfl
@[simp] theorem w_ff (env : Ev) (st : Sto) (a b : Sto → SRs) : onT (.ok (.d (.bool false)) st) env a b = b st := rfl
@[simp] theorem w_tgn (G : Ctx) (i : Nat) (s : Sv) (env : Ev) (st : Sto) : evT G (.name i) s env st = some (env.set i (some s), st) := rfl
@[simp] theorem w_nxt (env : Ev) (st : Sto) : nextO (some (env, st)) = .next env st := rfl
@[simp] theorem w_vn (st : Sto) : views st [] = some [] := rfl
@[simp] theorem w_vc (st : Sto) (x : PyData) (r : List Sv) : views st (.d x :: r) = bindO (views st r) fun xs => some (x :: xs) := by
  show (match views st r with
    | some xs => some (x :: xs)
    | none => none) = _
  cases views st r <;> rfl
@[simp] theorem w_os {α β : Type} (a : α) (f : α → Option β) : bindO (some a) f = f a := rfl
@[simp] theorem w_rs (st : Sto) (x : PyData) : toRs st (some x) = .ok (.d x) st := rfl
theorem call_eq {P : Pg} {m f : Nat} {d : DefP} {ss : List Sv} (st : Sto) (hd : P.defs[f]? = some d) (hn : ss.length = d.np) : callN P (m + 1) f ss st = endR (evSs (ctxN P m) P.wf d.body (startE d.N.length ss) st) := by
  rw [callN_succ]
  unfold runD
  rw [hd]
  show (match decide (ss.length = d.np) with
    | true => endR (evSs (ctxN P m) P.wf d.body (startE d.N.length ss) st)
    | false => .bad) = _
  rw [decide_eq_true hn]
@[simp] theorem w_endr (w : Sv) (st : Sto) : endR (.ret w st) = .ok w st := rfl
@[simp] theorem w_endn (env : Ev) (st : Sto) : endR (.next env st) = .ok (.d .none) st := rfl
@[simp] theorem w_guard {α : Type} (x : α) : guard1 true x = some x := rfl
theorem ofString_inj (s t : String) : (Str.ofString s = Str.ofString t) = (s = t) := by
  refine propext ⟨fun h => ?_, fun h => by rw [h]⟩
  rw [Str.ofString_eq_toList, Str.ofString_eq_toList] at h
  have h1 := congrArg (fun z => z.cps.toList) h
  simp only at h1
  have h2 : s.toList = t.toList := by
    have : ∀ xs ys : List Char, xs.map Char.toNat = ys.map Char.toNat → xs = ys := by
      intro xs
      induction xs with
      | nil => intro ys e; cases ys with
        | nil => rfl
        | cons _ _ => cases e
      | cons x xs ih =>
        intro ys e
        cases ys with
        | nil => cases e
        | cons y ys =>
          simp only [List.map_cons, List.cons.injEq] at e
          rw [ih ys e.2, Char.toNat_inj.mp e.1]
    exact this _ _ h1
  exact String.toList_injective h2
@[simp] theorem w_inj (s t : String) : (Str.ofString s = Str.ofString t) ↔ (s = t) := by rw [ofString_inj]
theorem p_eq0 (x y : PyData) : prim .eq [x, y] = guard1 (okEq x y) (.bool (PyData.eqv x y)) := rfl
theorem p_ne0 (x y : PyData) : prim .ne [x, y] = guard1 (okEq x y) (.bool (!PyData.eqv x y)) := rfl
@[simp] theorem p_eqs (a b : Str) : prim .eq [.str a, .str b] = some (.bool (decide (a = b))) := by
  rw [p_eq0]
  have e : PyData.eqv (.str a) (.str b) = decide (a = b) := by
    show (a == b) = _
    rw [Bool.eq_iff_iff]
    simp
  rw [e]
  rfl
@[simp] theorem p_nes (a b : Str) : prim .ne [.str a, .str b] = some (.bool (!decide (a = b))) := by
  rw [p_ne0]
  have e : PyData.eqv (.str a) (.str b) = decide (a = b) := by
    show (a == b) = _
    rw [Bool.eq_iff_iff]
    simp
  rw [e]
  rfl
@[simp] theorem p_eqi (a b : Int) : prim .eq [.int a, .int b] = some (.bool (decide (a = b))) := by
  rw [p_eq0]
  have e : PyData.eqv (.int a) (.int b) = decide (a = b) := by
    show (a == b) = _
    rw [Bool.eq_iff_iff]
    simp
  rw [e]
  rfl
theorem p_cat (x y : Str) (h : x.length + y.length ≤ 16777216) : prim .add [.str x, .str y] = some (.str (x ++ y)) := by
  show guard1 (Nat.ble _ _) _ = _
  rw [Nat.ble_eq_true_of_le h]
  rfl
@[simp] theorem p_ixt (xs : List PyData) (i : Int) : prim .idx [.tuple xs, .int i] = atI xs i := rfl
@[simp] theorem p_ixl (xs : List PyData) (i : Int) : prim .idx [.list xs, .int i] = atI xs i := rfl
theorem atN {α : Type} (xs : List α) (n : Nat) : atI xs (n : Int) = xs[n]? := by
  unfold atI ixN
  rw [if_pos (by omega)]
  by_cases h : n < xs.length
  · rw [if_pos (by omega)]
    simp
  · rw [if_neg (by omega)]
    rw [List.getElem?_eq_none (by omega)]
    rfl
@[simp] theorem at0 {α : Type} (x0 : α) (xs : List α) : atI (x0 :: xs) 0 = some x0 := atN _ 0
@[simp] theorem at1 {α : Type} (x0 x1 : α) (xs : List α) : atI (x0 :: x1 :: xs) 1 = some x1 := atN _ 1
@[simp] theorem at2 {α : Type} (x0 x1 x2 : α) (xs : List α) : atI (x0 :: x1 :: x2 :: xs) 2 = some x2 := atN _ 2
@[simp] theorem at3 {α : Type} (x0 x1 x2 x3 : α) (xs : List α) : atI (x0 :: x1 :: x2 :: x3 :: xs) 3 = some x3 := atN _ 3
@[simp] theorem at4 {α : Type} (x0 x1 x2 x3 x4 : α) (xs : List α) : atI (x0 :: x1 :: x2 :: x3 :: x4 :: xs) 4 = some x4 := atN _ 4
@[simp] theorem at5 {α : Type} (x0 x1 x2 x3 x4 x5 : α) (xs : List α) : atI (x0 :: x1 :: x2 :: x3 :: x4 :: x5 :: xs) 5 = some x5 := atN _ 5
@[simp] theorem at6 {α : Type} (x0 x1 x2 x3 x4 x5 x6 : α) (xs : List α) : atI (x0 :: x1 :: x2 :: x3 :: x4 :: x5 :: x6 :: xs) 6 = some x6 := atN _ 6
@[simp] theorem at7 {α : Type} (x0 x1 x2 x3 x4 x5 x6 x7 : α) (xs : List α) : atI (x0 :: x1 :: x2 :: x3 :: x4 :: x5 :: x6 :: x7 :: xs) 7 = some x7 := atN _ 7
@[simp] theorem w_v0 (G : Ctx) (s : Sv) (env : Ev) (st : Sto) : evE G (.var 0) (some s :: env) st = .ok s st := rfl
@[simp] theorem w_v1 (G : Ctx) (a0 : Option Sv) (s : Sv) (env : Ev) (st : Sto) : evE G (.var 1) (a0 :: some s :: env) st = .ok s st := rfl
@[simp] theorem w_v2 (G : Ctx) (a0 a1 : Option Sv) (s : Sv) (env : Ev) (st : Sto) : evE G (.var 2) (a0 :: a1 :: some s :: env) st = .ok s st := rfl
@[simp] theorem w_v3 (G : Ctx) (a0 a1 a2 : Option Sv) (s : Sv) (env : Ev) (st : Sto) : evE G (.var 3) (a0 :: a1 :: a2 :: some s :: env) st = .ok s st := rfl
@[simp] theorem w_v4 (G : Ctx) (a0 a1 a2 a3 : Option Sv) (s : Sv) (env : Ev) (st : Sto) : evE G (.var 4) (a0 :: a1 :: a2 :: a3 :: some s :: env) st = .ok s st := rfl
@[simp] theorem w_v5 (G : Ctx) (a0 a1 a2 a3 a4 : Option Sv) (s : Sv) (env : Ev) (st : Sto) : evE G (.var 5) (a0 :: a1 :: a2 :: a3 :: a4 :: some s :: env) st = .ok s st := rfl
@[simp] theorem w_v6 (G : Ctx) (a0 a1 a2 a3 a4 a5 : Option Sv) (s : Sv) (env : Ev) (st : Sto) : evE G (.var 6) (a0 :: a1 :: a2 :: a3 :: a4 :: a5 :: some s :: env) st = .ok s st := rfl
@[simp] theorem w_v7 (G : Ctx) (a0 a1 a2 a3 a4 a5 a6 : Option Sv) (s : Sv) (env : Ev) (st : Sto) : evE G (.var 7) (a0 :: a1 :: a2 :: a3 :: a4 :: a5 :: a6 :: some s :: env) st = .ok s st := rfl
@[simp] theorem w_v8 (G : Ctx) (a0 a1 a2 a3 a4 a5 a6 a7 : Option Sv) (s : Sv) (env : Ev) (st : Sto) : evE G (.var 8) (a0 :: a1 :: a2 :: a3 :: a4 :: a5 :: a6 :: a7 :: some s :: env) st = .ok s st := rfl
@[simp] theorem w_v9 (G : Ctx) (a0 a1 a2 a3 a4 a5 a6 a7 a8 : Option Sv) (s : Sv) (env : Ev) (st : Sto) : evE G (.var 9) (a0 :: a1 :: a2 :: a3 :: a4 :: a5 :: a6 :: a7 :: a8 :: some s :: env) st = .ok s st := rfl
@[simp] theorem w_v10 (G : Ctx) (a0 a1 a2 a3 a4 a5 a6 a7 a8 a9 : Option Sv) (s : Sv) (env : Ev) (st : Sto) : evE G (.var 10) (a0 :: a1 :: a2 :: a3 :: a4 :: a5 :: a6 :: a7 :: a8 :: a9 :: some s :: env) st = .ok s st := rfl
@[simp] theorem w_v11 (G : Ctx) (a0 a1 a2 a3 a4 a5 a6 a7 a8 a9 a10 : Option Sv) (s : Sv) (env : Ev) (st : Sto) : evE G (.var 11) (a0 :: a1 :: a2 :: a3 :: a4 :: a5 :: a6 :: a7 :: a8 :: a9 :: a10 :: some s :: env) st = .ok s st := rfl
@[simp] theorem w_v12 (G : Ctx) (a0 a1 a2 a3 a4 a5 a6 a7 a8 a9 a10 a11 : Option Sv) (s : Sv) (env : Ev) (st : Sto) : evE G (.var 12) (a0 :: a1 :: a2 :: a3 :: a4 :: a5 :: a6 :: a7 :: a8 :: a9 :: a10 :: a11 :: some s :: env) st = .ok s st := rfl
@[simp] theorem w_v13 (G : Ctx) (a0 a1 a2 a3 a4 a5 a6 a7 a8 a9 a10 a11 a12 : Option Sv) (s : Sv) (env : Ev) (st : Sto) : evE G (.var 13) (a0 :: a1 :: a2 :: a3 :: a4 :: a5 :: a6 :: a7 :: a8 :: a9 :: a10 :: a11 :: a12 :: some s :: env) st = .ok s st := rfl
/-! more equations -/
def andR (G : Ctx) (b : CE) (env : Ev) (r : Rs Sv) : Rs Sv := r.bind fun s st1 => (match s with
    | .d (.bool true) => evE G b env st1
    | .d (.bool false) => .ok (.d (.bool false)) st1
    | _ => .bad)
def orR (G : Ctx) (b : CE) (env : Ev) (r : Rs Sv) : Rs Sv := r.bind fun s st1 => (match s with
    | .d (.bool true) => .ok (.d (.bool true)) st1
    | .d (.bool false) => evE G b env st1
    | _ => .bad)
def ifeR (G : Ctx) (a b : CE) (env : Ev) (r : Rs Sv) : Rs Sv := r.bind fun s st1 => (match s with
    | .d (.bool true) => evE G a env st1
    | .d (.bool false) => evE G b env st1
    | _ => .bad)
def notR (r : Rs Sv) : Rs Sv := r.bind fun s st1 => (match s with
    | .d (.bool b) => .ok (.d (.bool (!b))) st1
    | _ => .bad)
@[simp] theorem w_and (G : Ctx) (a b : CE) (env : Ev) (st : Sto) : evE G (.and_ a b) env st = andR G b env (evE G a env st) := rfl
@[simp] theorem w_or (G : Ctx) (a b : CE) (env : Ev) (st : Sto) : evE G (.or_ a b) env st = orR G b env (evE G a env st) := rfl
@[simp] theorem w_ife (G : Ctx) (c a b : CE) (env : Ev) (st : Sto) : evE G (.ife c a b) env st = ifeR G a b env (evE G c env st) := rfl
@[simp] theorem w_not (G : Ctx) (a : CE) (env : Ev) (st : Sto) : evE G (.not_ a) env st = notR (evE G a env st) := rfl
@[simp] theorem w_notk (b : Bool) (st : Sto) : notR (.ok (.d (.bool b)) st) = .ok (.d (.bool (!b))) st := rfl
@[simp] theorem w_andb (G : Ctx) (c : CE) (env : Ev) (b : Bool) (st : Sto) : andR G c env (.ok (.d (.bool b)) st) = if b = true then evE G c env st else .ok (.d (.bool false)) st := by cases b <;> rfl
@[simp] theorem w_orb (G : Ctx) (c : CE) (env : Ev) (b : Bool) (st : Sto) : orR G c env (.ok (.d (.bool b)) st) = if b = true then .ok (.d (.bool true)) st else evE G c env st := by cases b <;> rfl
@[simp] theorem w_ifeb (G : Ctx) (x y : CE) (env : Ev) (b : Bool) (st : Sto) : ifeR G x y env (.ok (.d (.bool b)) st) = if b = true then evE G x env st else evE G y env st := by cases b <;> rfl
@[simp] theorem w_onb (b : Bool) (env : Ev) (st : Sto) (k l : Sto → SRs) : onT (.ok (.d (.bool b)) st) env k l = if b = true then k st else l st := by cases b <;> rfl
def tupR (r : Rs (List Sv)) : Rs Sv := r.bind fun ss st1 => (match allD ss with
    | some xs => .ok (.d (.tuple xs)) st1
    | none => .bad)
@[simp] theorem w_tup (G : Ctx) (es : List CE) (env : Ev) (st : Sto) : evE G (.tup es) env st = tupR (evEs G es env st) := rfl
@[simp] theorem w_tupk (ss : List Sv) (st : Sto) : tupR (.ok ss st) = (match allD ss with
    | some xs => .ok (.d (.tuple xs)) st
    | none => .bad) := rfl
def lstR (r : Rs (List Sv)) : Rs Sv := r.bind fun ss st1 => (match allD ss with
    | some xs => .ok (.d (.list xs)) st1
    | none => .bad)
@[simp] theorem w_lstV (G : Ctx) (es : List CE) (env : Ev) (st : Sto) : evE G (.lstV es) env st = lstR (evEs G es env st) := rfl
@[simp] theorem w_lstk (ss : List Sv) (st : Sto) : lstR (.ok ss st) = (match allD ss with
    | some xs => .ok (.d (.list xs)) st
    | none => .bad) := rfl
@[simp] theorem w_lstR (G : Ctx) (es : List CE) (env : Ev) (st : Sto) : evE G (.lstR es) env st = (evEs G es env st).bind fun ss st1 => .ok (.r st1.length) (st1 ++ [.lst ss]) := rfl
@[simp] theorem w_sm (G : Ctx) (p : Prim) (o : CE) (es : List CE) (env : Ev) (st : Sto) : evE G (.sm p o es) env st = (evE G o env st).bind fun so st1 => (match so with
    | .d (.str x) => (evEs G es env st1).bind fun ss st2 => toRs st2 (bindO (views st2 ss) fun ds => prim p (.str x :: ds))
    | _ => .bad) := rfl
@[simp] theorem w_pop (G : Ctx) (o : CE) (env : Ev) (st : Sto) : evE G (.pop o) env st = (evE G o env st).bind fun so st1 => (match so with
    | .r n => (match st1[n]? with
      | some (.lst xs) => (match xs[xs.length - 1]? with
        | some s => .ok s (setC st1 n (.lst xs.dropLast))
        | none => .bad)
      | _ => .bad)
    | _ => .bad) := rfl
@[simp] theorem w_frz (G : Ctx) (e : CE) (env : Ev) (st : Sto) : evE G (.frz e) env st = (evE G e env st).bind fun s st1 => (match s with
    | .d x => .ok (.d x) st1
    | .r n => (match st1[n]? with
      | some (.lst xs) => (match allD xs with
        | some ys => .ok (.d (.list ys)) (setC st1 n (.frz ys))
        | none => .bad)
      | some (.frz ys) => .ok (.d (.list ys)) st1
      | _ => .bad)) := rfl
@[simp] theorem w_slc (G : Ctx) (a : CE) (lo hi : List CE) (env : Ev) (st : Sto) : evE G (.slc a lo hi) env st = (evE G a env st).bind fun sa st1 => (evEs G lo env st1).bind fun sl st2 => onPart (partOf sl) fun l => (evEs G hi env st2).bind fun sh st3 => onPart (partOf sh) fun h => toRs st3 (bindO (view st3 sa) fun x => sliceD x l h) := rfl
@[simp] theorem w_op0 : partOf [] = some none := rfl
@[simp] theorem w_op1 (i : Int) : partOf [.d (.int i)] = some (some i) := rfl
@[simp] theorem w_onp (l : Option Int) (k : Option Int → Rs Sv) : onPart (some l) k = k l := rfl
@[simp] theorem w_setc (st : Sto) (n : Nat) (c : Cell) : setC st n c = st.set n c := rfl
def appR2 (n : Nat) (env : Ev) (r : Rs Sv) : SRs := lift env r fun s st2 => (match st2[n]? with
        | some (.lst xs) => (match decide (xs.length < 1000000) with
          | true => .next env (setC st2 n (.lst (xs ++ [s])))
          | false => .bad)
        | _ => .bad)
def appR (G : Ctx) (e : CE) (env : Ev) (r : Rs Sv) : SRs := lift env r fun so st1 => (match so with
    | .r n => (match st1[n]? with
      | some (.lst _) => appR2 n env (evE G e env st1)
      | _ => .bad)
    | _ => .bad)
@[simp] theorem w_app (G : Ctx) (wf : Nat) (o e : CE) (env : Ev) (st : Sto) : evS G wf (.app o e) env st = appR G e env (evE G o env st) := rfl
@[simp] theorem w_appk (G : Ctx) (e : CE) (env : Ev) (n : Nat) (st : Sto) : appR G e env (.ok (.r n) st) = (match st[n]? with
      | some (.lst _) => appR2 n env (evE G e env st)
      | _ => .bad) := rfl
@[simp] theorem w_appk2 (n : Nat) (env : Ev) (s : Sv) (st : Sto) : appR2 n env (.ok s st) = (match st[n]? with
        | some (.lst xs) => (match decide (xs.length < 1000000) with
          | true => .next env (setC st n (.lst (xs ++ [s])))
          | false => .bad)
        | _ => .bad) := rfl
@[simp] theorem w_drop (G : Ctx) (wf : Nat) (e : CE) (env : Ev) (st : Sto) : evS G wf (.drop e) env st = lift env (evE G e env st) fun _ st1 => .next env st1 := rfl
@[simp] theorem w_brk (G : Ctx) (wf : Nat) (env : Ev) (st : Sto) : evS G wf .brk env st = .brk env st := rfl
@[simp] theorem w_cont (G : Ctx) (wf : Nat) (env : Ev) (st : Sto) : evS G wf .cont env st = .cont env st := rfl
@[simp] theorem w_ad0 : allD [] = some [] := rfl
@[simp] theorem w_adc (x : PyData) (r : List Sv) : allD (.d x :: r) = bindO (allD r) fun xs => some (x :: xs) := by
  show (match allD r with
    | some xs => some (x :: xs)
    | none => none) = _
  cases allD r <;> rfl
@[simp] theorem w_adm (ds : List PyData) : allD (ds.map .d) = some ds := allD_map ds
@[simp] theorem w_vd (st : Sto) (x : PyData) : view st (.d x) = some x := rfl
@[simp] theorem w_vr (st : Sto) (n : Nat) (r : List Sv) : views st (.r n :: r) = bindO (view st (.r n)) fun x => bindO (views st r) fun xs => some (x :: xs) := by
  show (match view st (.r n) with
    | some x => (match views st r with
      | some xs => some (x :: xs)
      | none => none)
    | none => none) = _
  cases view st (.r n) with
  | none => rfl
  | some x =>
    show (match views st r with
      | some xs => some (x :: xs)
      | none => none) = _
    cases views st r <;> rfl
theorem view_lst {st : Sto} {n : Nat} {ds : List PyData} (h : st[n]? = some (.lst (ds.map .d))) : view st (.r n) = some (.list ds) := by
  simp only [view]
  rw [h]
  simp only [allD_map]
@[simp] theorem w_vl0 (ds : List PyData) (st : Sto) : view (.lst (ds.map .d) :: st) (.r 0) = some (.list ds) := view_lst rfl
@[simp] theorem w_fr (G : Ctx) (wf : Nat) (t : CT) (it : CI) (b : List CS) (env : Ev) (st : Sto) : evS G wf (.fr t it b) env st = (match evI G it env st with
    | .ok xs st1 => loopF (fun x env st => evT G t (.d x) env st) (fun env st => evSs G wf b env st) xs env st1
    | .exc c p st1 => .exc c p env st1
    | .bad => .bad) := rfl
@[simp] theorem w_ilst (G : Ctx) (e : CE) (env : Ev) (st : Sto) : evI G (.lst e) env st = (evE G e env st).bind fun s st1 => (match s with
    | .d (.list xs) => .ok xs st1
    | _ => .bad) := rfl
@[simp] theorem w_istr (G : Ctx) (e : CE) (env : Ev) (st : Sto) : evI G (.str e) env st = (evE G e env st).bind fun s st1 => (match s with
    | .d (.str x) => .ok (signsD x) st1
    | _ => .bad) := rfl
@[simp] theorem w_chain (G : Ctx) (p q : Prim) (a b c : CE) (env : Ev) (st : Sto) : evE G (.chain p q a b c) env st = (evE G a env st).bind fun sa st1 => (evE G b env st1).bind fun sb st2 =>
      (match bindO (views st2 [sa, sb]) (prim p) with
      | some (.bool true) => (evE G c env st2).bind fun sc st3 => toRs st3 (bindO (views st3 [sb, sc]) (prim q))
      | some (.bool false) => .ok (.d (.bool false)) st2
      | _ => .bad) := rfl
@[simp] theorem w_isi (G : Ctx) (t : TyN) (a : CE) (env : Ev) (st : Sto) : evE G (.isi t a) env st = (evE G a env st).bind fun s st1 => toRs st1 (bindO (bindO (view st1 s) (isTy t)) fun b => some (.bool b)) := rfl
@[simp] theorem w_irng (G : Ctx) (es : List CE) (env : Ev) (st : Sto) : evI G (.range es) env st = (evEs G es env st).bind fun ss st1 => rangeOf ss st1 := rfl
theorem rng1 {n : Int} (h0 : -(2 ^ 62) ≤ n) (h1 : n < 2 ^ 62) (st : Sto) : rangeOf [.d (.int n)] st = .ok (rangeD 0 n.toNat) st := by
  show (match rngOk n with
    | true => (Rs.ok (rangeD 0 n.toNat) st : Rs (List PyData))
    | false => .bad) = _
  rw [show rngOk n = true from decide_eq_true ⟨h0, h1⟩]
theorem rng2 {a b : Int} (ha : -(2 ^ 62) ≤ a ∧ a < 2 ^ 62) (hb : -(2 ^ 62) ≤ b ∧ b < 2 ^ 62) (st : Sto) : rangeOf [.d (.int a), .d (.int b)] st = .ok (rangeD a (b - a).toNat) st := by
  show (match rngOk a && rngOk b with
    | true => (Rs.ok (rangeD a (b - a).toNat) st : Rs (List PyData))
    | false => .bad) = _
  rw [show rngOk a = true from decide_eq_true ha, show rngOk b = true from decide_eq_true hb]
  rfl
theorem rng_nat {a : Nat} (h : a ≤ 1000000) : -(2 ^ 62) ≤ (a : Int) ∧ (a : Int) < 2 ^ 62 := by
  have h1 : (a : Int) ≤ 1000000 := by omega
  have h0 : (0 : Int) ≤ a := by omega
  exact ⟨Int.le_trans (by decide) h0, Int.lt_of_le_of_lt h1 (by decide)⟩
theorem rng2n {a b : Nat} (ha : a ≤ 1000000) (hb : b ≤ 1000000) (st : Sto) : rangeOf [.d (.int (a : Int)), .d (.int (b : Int))] st = .ok (rangeD a (b - a)) st := by
  have q := rng2 (rng_nat ha) (rng_nat hb) st
  rw [show ((b : Int) - a).toNat = b - a by omega] at q
  exact q
theorem rng1n {a : Nat} (ha : a ≤ 1000000) (st : Sto) : rangeOf [.d (.int (a : Int))] st = .ok (rangeD 0 a) st := by
  have q := rng1 (rng_nat ha).1 (rng_nat ha).2 st
  rw [Int.toNat_natCast] at q
  exact q
/-- a loop over data that goes through -/
theorem loopF_run {bnd : PyData → Ev → Sto → Option (Ev × Sto)} {body : Ev → Sto → SRs} (Inv : Nat → Ev → Sto → Prop) : ∀ (xs : List PyData) (i0 : Nat) (env : Ev) (st : Sto), (∀ i x env st, xs[i]? = some x → Inv (i0 + i) env st → ∃ env1 st1, bnd x env st = some (env1, st1) ∧ ∃ env2 st2, (body env1 st1 = .next env2 st2 ∨ body env1 st1 = .cont env2 st2) ∧ Inv (i0 + i + 1) env2 st2) →
    Inv i0 env st → ∃ env' st', loopF bnd body xs env st = .next env' st' ∧ Inv (i0 + xs.length) env' st'
  | [], i0, env, st, _, h0 => ⟨env, st, rfl, h0⟩
  | x :: r, i0, env, st, h, h0 => by
    obtain ⟨env1, st1, e1, env2, st2, e2, h2⟩ := h 0 x env st rfl h0
    obtain ⟨env3, st3, e3, h3⟩ := loopF_run Inv r (i0 + 1) env2 st2 (fun i y env st hy hi => by
      have q := h (i + 1) y env st (by simpa using hy) (by rw [show i0 + (i + 1) = i0 + 1 + i by omega]; exact hi)
      rw [show i0 + (i + 1) + 1 = i0 + 1 + i + 1 by omega] at q
      exact q) h2
    refine ⟨env3, st3, ?_, by rw [List.length_cons, show i0 + (r.length + 1) = i0 + 1 + r.length by omega]; exact h3⟩
    show (match bnd x env st with
      | some (env1, st1) => afterB (body env1 st1) fun env2 st2 => loopF bnd body r env2 st2
      | none => .bad) = _
    rw [e1]
    show afterB (body env1 st1) _ = _
    rcases e2 with e2 | e2 <;> (rw [e2]; exact e3)
theorem fr_run {G : Ctx} {wf : Nat} {t : CT} {it : CI} {b : List CS} {env : Ev} {st st1 : Sto} {xs : List PyData} (hi : evI G it env st = .ok xs st1) (Inv : Nat → Ev → Sto → Prop) (h0 : Inv 0 env st1)
    (h : ∀ i x env st, xs[i]? = some x → Inv i env st → ∃ env1 st1, evT G t (.d x) env st = some (env1, st1) ∧ ∃ env2 st2, (evSs G wf b env1 st1 = .next env2 st2 ∨ evSs G wf b env1 st1 = .cont env2 st2) ∧ Inv (i + 1) env2 st2) :
    ∃ env' st', evS G wf (.fr t it b) env st = .next env' st' ∧ Inv xs.length env' st' := by
  rw [w_fr, hi]
  have q := loopF_run (bnd := fun x env st => evT G t (.d x) env st) (body := fun env st => evSs G wf b env st) Inv xs 0 env st1 (fun i x env st hx hI => by
    rw [Nat.zero_add] at hI ⊢
    exact h i x env st hx hI) h0
  rw [Nat.zero_add] at q
  exact q
/-! primitives -/
@[simp] theorem p_inti (i : Int) : prim .int [.int i] = some (.int i) := rfl
@[simp] theorem p_intb (b : Bool) : prim .int [.bool b] = some (.int (if b then 1 else 0)) := rfl
@[simp] theorem p_addi (i j : Int) : prim .add [.int i, .int j] = some (.int (i + j)) := rfl
@[simp] theorem p_subi (i j : Int) : prim .sub [.int i, .int j] = some (.int (i - j)) := rfl
@[simp] theorem p_lti (i j : Int) : prim .lt [.int i, .int j] = some (.bool (decide (i < j))) := rfl
@[simp] theorem p_lei (i j : Int) : prim .le [.int i, .int j] = some (.bool (decide (i ≤ j))) := rfl
@[simp] theorem p_gti (i j : Int) : prim .gt [.int i, .int j] = some (.bool (decide (j < i))) := rfl
@[simp] theorem p_gei (i j : Int) : prim .ge [.int i, .int j] = some (.bool (decide (j ≤ i))) := rfl
@[simp] theorem p_lenl (xs : List PyData) : prim .len [.list xs] = some (.int xs.length) := rfl
@[simp] theorem p_lent (xs : List PyData) : prim .len [.tuple xs] = some (.int xs.length) := rfl
@[simp] theorem p_lens (ns : List Int) : prim .len [scrD ns] = some (.int ns.length) := by
  show some (PyData.int ((ns.map PyData.int).length : Nat)) = _
  rw [List.length_map]
@[simp] theorem p_idxs (ns : List Int) (i : Int) : prim .idx [scrD ns, .int i] = atI (ns.map .int) i := rfl
theorem p_absi (i : Int) : prim .abs [.int i] = some (.int (i.natAbs : Int)) := by
  show some (PyData.int (if i < 0 then -i else i)) = _
  congr 2
  split <;> omega
theorem p_modi {i j : Int} (h : 0 < j) : prim .mod [.int i, .int j] = some (.int (i % j)) := by
  show guard1 (decide (0 < j)) _ = _
  rw [decide_eq_true h]
  rfl
theorem p_fdivi {i j : Int} (h : 0 < j) (h2 : j < 1073741824) : prim .fdiv [.int i, .int j] = some (.int (i / j)) := by
  show guard1 (decide (0 < j ∧ j < 1073741824)) _ = _
  rw [decide_eq_true ⟨h, h2⟩]
  rfl
theorem p_muli {i j : Int} (h : -(2 ^ 64) < j) (h2 : j < 2 ^ 64) : prim .mul [.int i, .int j] = some (.int (i * j)) := by
  show guard1 (intMul i j) _ = _
  have e : intMul i j = true := by
    unfold intMul
    rw [decide_eq_true (p := -(2 ^ 64) < j ∧ j < 2 ^ 64) ⟨h, h2⟩]
    simp
  rw [e]
  rfl
theorem p_muli1 {i j : Int} (h : -(2 ^ 64) < i) (h2 : i < 2 ^ 64) : prim .mul [.int i, .int j] = some (.int (i * j)) := by
  show guard1 (intMul i j) _ = _
  have e : intMul i j = true := by
    unfold intMul
    rw [decide_eq_true (p := -(2 ^ 64) < i ∧ i < 2 ^ 64) ⟨h, h2⟩]
    simp
  rw [e]
  rfl
theorem atI_get {α : Type} {xs : List α} {i : Int} (h0 : 0 ≤ i) (h : i < xs.length) : ∃ x, atI xs i = some x ∧ x ∈ xs ∧ xs[i.toNat]? = some x := by
  obtain ⟨n, rfl⟩ : ∃ n : Nat, i = n := ⟨i.toNat, by omega⟩
  rw [atN, List.getElem?_eq_getElem (by omega)]
  exact ⟨_, rfl, List.getElem_mem _, by simp⟩
/-- short texts of characters -/
def Gd (n : Nat) (x : Str) : Prop := PyData.strOk x = true ∧ x.length ≤ n
theorem Gd.app {a b : Nat} {x y : Str} (h : Gd a x) (k : Gd b y) : Gd (a + b) (x ++ y) := by
  refine ⟨?_, by rw [Str.length_append]; exact Nat.add_le_add h.2 k.2⟩
  have h1 := h.1
  have h2 := k.1
  unfold PyData.strOk at *
  rw [Str.cps_append, Array.all_append, h1, h2]
  rfl
theorem Gd.mono {a b : Nat} {x : Str} (h : Gd a x) (k : a ≤ b) : Gd b x := ⟨h.1, Nat.le_trans h.2 k⟩
theorem p_ixs {x : Str} {i : Int} (h : PyData.strOk x = true) (hl : x.length ≤ 16777216) (h0 : 0 ≤ i) (h1 : i < x.length) : ∃ c, prim .idx [.str x, .int i] = some (.str (one c)) ∧ Gd 1 (one c) := by
  obtain ⟨c, e, m, _⟩ := atI_get (xs := x.cps.toList) h0 (by simpa [Str.length] using h1)
  refine ⟨c, ?_, ?_, Nat.le_refl 1⟩
  · show bindO (guard1 (Nat.ble _ _) ()) _ = _
    rw [Nat.ble_eq_true_of_le hl]
    show bindO (atI x.cps.toList i) _ = _
    rw [e]
    rfl
  · unfold PyData.strOk at *
    rw [Array.all_eq_true] at h
    obtain ⟨n, hn, e2⟩ := List.mem_iff_getElem.mp m
    have q := h n (by simpa using hn)
    have e3 : x.cps[n]'(by simpa using hn) = c := by rw [← e2]; simp
    rw [e3] at q
    show (#[c] : Array Nat).all _ = true
    simpa using q
end PV

namespace PV
open PySem L2
/-! ## Kinds and terms, as data -/
inductive Kd where
  | int
  | bang (a : Kd)
  | pair (a b : Kd)
  | fn (a b : Kd)
def Kd.d : Kd → PyData
  | .int => .tuple [.str "int"]
  | .bang a => .tuple [.str "bang", a.d]
  | .pair a b => .tuple [.str "pair", a.d, b.d]
  | .fn a b => .tuple [.str "fun", a.d, b.d]
def Kd.isFn : Kd → Bool
  | .fn _ _ => true
  | _ => false
def par (b : Bool) (x : Str) : Str := if b = true then "(" ++ x ++ ")" else x
def Kd.tx : Kd → Str
  | .int => "Int"
  | .bang a => "!" ++ par a.isFn a.tx
  | .pair a b => "(" ++ a.tx ++ ", " ++ b.tx ++ ")"
  | .fn a b => par a.isFn a.tx ++ " -> " ++ b.tx
def Kd.dp : Kd → Nat
  | .int => 1
  | .bang a => a.dp + 1
  | .pair a b => max a.dp b.dp + 1
  | .fn a b => max a.dp b.dp + 1
inductive Tm where
  | var (x : Str)
  | num (i : Int)
  | lam (x : Str) (k : Kd) (a : Tm)
  | let_ (x : Str) (a b : Tm)
  | split (x y : Str) (a b : Tm)
  | pair (a b : Tm)
  | app (a b : Tm)
  | box (a : Tm)
  | op (s : Str) (a b : Tm)
def Tm.d : Tm → PyData
  | .var x => .tuple [.str "var", .str x]
  | .num i => .tuple [.str "num", .int i]
  | .lam x k a => .tuple [.str "lam", .str x, k.d, a.d]
  | .let_ x a b => .tuple [.str "let", .str x, a.d, b.d]
  | .split x y a b => .tuple [.str "split", .str x, .str y, a.d, b.d]
  | .pair a b => .tuple [.str "pair", a.d, b.d]
  | .app a b => .tuple [.str "app", a.d, b.d]
  | .box a => .tuple [.str "box", a.d]
  | .op s a b => .tuple [.str "op", .str s, a.d, b.d]
def Tm.dp : Tm → Nat
  | .var _ => 1
  | .num _ => 1
  | .lam _ _ a => a.dp + 1
  | .let_ _ a b => max a.dp b.dp + 1
  | .split _ _ a b => max a.dp b.dp + 1
  | .pair a b => max a.dp b.dp + 1
  | .app a b => max a.dp b.dp + 1
  | .box a => a.dp + 1
  | .op _ a b => max a.dp b.dp + 1
def Tm.sz : Tm → Nat
  | .var _ => 1
  | .num _ => 1
  | .lam _ _ a => a.sz + 1
  | .let_ _ a b => a.sz + b.sz + 1
  | .split _ _ a b => a.sz + b.sz + 1
  | .pair a b => a.sz + b.sz + 1
  | .app a b => a.sz + b.sz + 1
  | .box a => a.sz + 1
  | .op _ a b => a.sz + b.sz + 1
/-- the texts in it short, the kinds low, the numbers small -/
def Tm.fit : Tm → Prop
  | .var x => Gd 24 x
  | .num i => 0 ≤ i ∧ i < 1000000
  | .lam x k a => Gd 24 x ∧ k.dp ≤ 4 ∧ a.fit
  | .let_ x a b => Gd 24 x ∧ a.fit ∧ b.fit
  | .split x y a b => Gd 24 x ∧ Gd 24 y ∧ a.fit ∧ b.fit
  | .pair a b => a.fit ∧ b.fit
  | .app a b => a.fit ∧ b.fit
  | .box a => a.fit
  | .op s a b => Gd 24 s ∧ a.fit ∧ b.fit
@[simp] theorem lay_tup (xs : List PyData) : (PyData.tuple xs).canLay0 = PyData.canLayAll0 xs := by simp only [PyData.canLay0]
@[simp] theorem lay_lst (xs : List PyData) : (PyData.list xs).canLay0 = PyData.canLayAll0 xs := by simp only [PyData.canLay0]
@[simp] theorem lay_str (x : Str) : (PyData.str x).canLay0 = PyData.strOk x := by simp only [PyData.canLay0]
@[simp] theorem lay_int (i : Int) : (PyData.int i).canLay0 = true := by simp only [PyData.canLay0]
@[simp] theorem lay_nil : PyData.canLayAll0 [] = true := by simp only [PyData.canLayAll0]
@[simp] theorem lay_cons (x : PyData) (xs : List PyData) : PyData.canLayAll0 (x :: xs) = (x.canLay0 && PyData.canLayAll0 xs) := by simp only [PyData.canLayAll0]
@[simp] theorem dep_tup (xs : List PyData) : (PyData.tuple xs).depth = PyData.depthAll xs + 1 := by simp only [PyData.depth]
@[simp] theorem dep_lst (xs : List PyData) : (PyData.list xs).depth = PyData.depthAll xs + 1 := by simp only [PyData.depth]
@[simp] theorem dep_str (x : Str) : (PyData.str x).depth = 0 := by simp only [PyData.depth]
@[simp] theorem dep_int (x : Int) : (PyData.int x).depth = 0 := by simp only [PyData.depth]
@[simp] theorem dep_nil : PyData.depthAll [] = 0 := by simp only [PyData.depthAll]
@[simp] theorem dep_cons (x : PyData) (xs : List PyData) : PyData.depthAll (x :: xs) = max x.depth (PyData.depthAll xs) := by simp only [PyData.depthAll]
theorem ok_of_string (s : String) (h : PyData.strOk (Str.ofString s) = true := by decide +kernel) : PyData.strOk (Str.ofString s) = true := h
theorem Kd.lay : ∀ k : Kd, k.d.canLay0 = true
  | .int => by simp [Kd.d, ok_of_string "int"]
  | .bang a => by simp [Kd.d, ok_of_string "bang", a.lay]
  | .pair a b => by simp [Kd.d, ok_of_string "pair", a.lay, b.lay]
  | .fn a b => by simp [Kd.d, ok_of_string "fun", a.lay, b.lay]
theorem Kd.dep : ∀ k : Kd, k.d.depth = k.dp
  | .int => by simp [Kd.d, Kd.dp]
  | .bang a => by simp [Kd.d, Kd.dp, a.dep]
  | .pair a b => by simp [Kd.d, Kd.dp, a.dep, b.dep]
  | .fn a b => by simp [Kd.d, Kd.dp, a.dep, b.dep]
theorem Tm.lay : ∀ t : Tm, t.fit → t.d.canLay0 = true
  | .var x, h => by simp only [Tm.fit] at h; simp [Tm.d, ok_of_string "var", h.1]
  | .num i, h => by simp [Tm.d, ok_of_string "num"]
  | .lam x k a, h => by simp only [Tm.fit] at h; simp [Tm.d, ok_of_string "lam", h.1.1, k.lay, a.lay h.2.2]
  | .let_ x a b, h => by simp only [Tm.fit] at h; simp [Tm.d, ok_of_string "let", h.1.1, a.lay h.2.1, b.lay h.2.2]
  | .split x y a b, h => by simp only [Tm.fit] at h; simp [Tm.d, ok_of_string "split", h.1.1, h.2.1.1, a.lay h.2.2.1, b.lay h.2.2.2]
  | .pair a b, h => by simp only [Tm.fit] at h; simp [Tm.d, ok_of_string "pair", a.lay h.1, b.lay h.2]
  | .app a b, h => by simp only [Tm.fit] at h; simp [Tm.d, ok_of_string "app", a.lay h.1, b.lay h.2]
  | .box a, h => by simp only [Tm.fit] at h; simp [Tm.d, ok_of_string "box", a.lay h]
  | .op s a b, h => by simp only [Tm.fit] at h; simp [Tm.d, ok_of_string "op", h.1.1, a.lay h.2.1, b.lay h.2.2]
theorem Tm.dep : ∀ t : Tm, t.fit → t.d.depth ≤ t.dp + 4
  | .var x, h => by simp [Tm.d, Tm.dp]
  | .num i, h => by simp [Tm.d, Tm.dp]
  | .lam x k a, h => by simp only [Tm.fit] at h; have := a.dep h.2.2; have := h.2.1; simp [Tm.d, Tm.dp, k.dep]; omega
  | .let_ x a b, h => by simp only [Tm.fit] at h; have := a.dep h.2.1; have := b.dep h.2.2; simp [Tm.d, Tm.dp]; omega
  | .split x y a b, h => by simp only [Tm.fit] at h; have := a.dep h.2.2.1; have := b.dep h.2.2.2; simp [Tm.d, Tm.dp]; omega
  | .pair a b, h => by simp only [Tm.fit] at h; have := a.dep h.1; have := b.dep h.2; simp [Tm.d, Tm.dp]; omega
  | .app a b, h => by simp only [Tm.fit] at h; have := a.dep h.1; have := b.dep h.2; simp [Tm.d, Tm.dp]; omega
  | .box a, h => by simp only [Tm.fit] at h; have := a.dep h; simp [Tm.d, Tm.dp]; omega
  | .op s a b, h => by simp only [Tm.fit] at h; have := a.dep h.2.1; have := b.dep h.2.2; simp [Tm.d, Tm.dp]; omega
theorem lays_shaped {ds : List PyData} (h : ∀ d ∈ ds, d.canLay0 = true ∧ d.depth ≤ 63) : shD (.list ds) = true := by
  have e : PyData.canLayAll0 ds = true ∧ PyData.depthAll ds ≤ 63 := by
    induction ds with
    | nil => simp
    | cons d r ih =>
      obtain ⟨h1, h2⟩ := h d List.mem_cons_self
      obtain ⟨h3, h4⟩ := ih fun x m => h x (List.mem_cons_of_mem _ m)
      simp [h1, h3]
      omega
  unfold shD
  simp [e.1]
  omega
/-- == with the empty list -/
theorem p_eqnil {ds : List PyData} (h : ∀ d ∈ ds, d.canLay0 = true ∧ d.depth ≤ 63) : prim .eq [.list ds, .list []] = some (.bool ds.isEmpty) := by
  rw [p_eq0]
  have e1 : okEq (.list ds) (.list []) = true := by
    unfold okEq
    rw [lays_shaped h, lays_shaped (ds := []) (fun _ m => nomatch m)]
    simp
  have e2 : PyData.eqv (.list ds) (.list []) = ds.isEmpty := by
    cases ds <;> simp [PyData.eqv, PyData.eqvAll]
  rw [e1, e2]
  rfl
end PV
namespace PV
open PySem L2
theorem p_mulS {i j : Int} (h : -1000000 ≤ j) (h2 : j ≤ 1000000) : prim .mul [.int i, .int j] = some (.int (i * j)) := p_muli (Int.lt_of_lt_of_le (by decide) h) (Int.lt_of_le_of_lt h2 (by decide))
theorem beqX (a x : Str) : (a == x) = decide (x = a) := by
  by_cases h : x = a
  · subst h
    rw [decide_eq_true rfl]
    exact beq_self_eq_true _
  · rw [decide_eq_false h]
    exact beq_eq_false_iff_ne.mpr fun e => h e.symm
theorem snoc_or (ts : List α) : ts = [] ∨ ∃ r t, ts = r ++ [t] := by
  rcases List.eq_nil_or_concat ts with e | ⟨r, t, e⟩
  · exact .inl e
  · exact .inr ⟨r, t, by rw [e, List.concat_eq_append]⟩
theorem p_in3 (x a b c : Str) : prim .isin [.str x, .tuple [.str a, .str b, .str c]] = some (.bool (decide (x = a) || (decide (x = b) || decide (x = c)))) := by
  show guard1 true (PyData.bool (inD (.str x) [.str a, .str b, .str c])) = _
  have e : inD (.str x) [.str a, .str b, .str c] = (decide (x = a) || (decide (x = b) || decide (x = c))) := by
    show ((a == x) || ((b == x) || ((c == x) || false))) = _
    rw [beqX, beqX, beqX, Bool.or_false]
  rw [e]
  rfl
theorem p_notins (x : Str) (zs : List Str) : prim .notin [.str x, .list (zs.map PyData.str)] = some (.bool (!zs.contains x)) := by
  show guard1 (flat (PyData.str x) && (zs.map PyData.str).all flat) (PyData.bool (!inD (.str x) (zs.map .str))) = _
  have e1 : (zs.map PyData.str).all flat = true := by
    rw [List.all_map]
    exact List.all_eq_true.mpr fun _ _ => rfl
  have e2 : inD (.str x) (zs.map .str) = zs.contains x := by
    unfold inD
    rw [List.any_map]
    induction zs with
    | nil => rfl
    | cons z r ih =>
      rw [List.any_cons, List.contains_cons, ih (by
        rw [List.all_map]
        exact List.all_eq_true.mpr fun _ _ => rfl)]
      congr 1
      show (z == x) = (x == z)
      rw [beqX, beqX]
      by_cases h : x = z
      · rw [decide_eq_true h, decide_eq_true h.symm]
      · rw [decide_eq_false h, decide_eq_false fun e => h e.symm]
  rw [e1, e2]
  rfl
@[simp] theorem evCall_ref (c : List Sv → Sto → Rs Sv) (n : Nat) (r : List Sv) (st : Sto) : evCall c (.r n :: r) st = c (.r n :: r) st := rfl
theorem gd_str {s : String} {n : Nat} (h : (PyData.strOk (Str.ofString s) && Nat.ble (Str.ofString s).length n) = true := by decide +kernel) : Gd n (Str.ofString s) := by
  obtain ⟨h1, h2⟩ := Bool.and_eq_true_iff.mp h
  exact ⟨h1, Nat.le_of_ble_eq_true h2⟩
theorem gd_cut {s : Str} {n : Nat} (lo hi : Option Int) (h : Gd n s) : Gd n (cutS s lo hi) := by
  obtain ⟨h1, h2⟩ := h
  constructor
  · unfold PyData.strOk cutS at *
    rw [Array.all_eq_true_iff_forall_mem] at *
    intro x m
    refine h1 x ?_
    have m2 : x ∈ (s.cps.toList.drop (HT.sIx s.length 0 lo)).take (HT.sIx s.length s.length hi - HT.sIx s.length 0 lo) := by simpa using m
    exact Array.mem_toList_iff.mp (List.mem_of_mem_drop (List.mem_of_mem_take m2))
  · refine Nat.le_trans ?_ h2
    unfold cutS Str.length
    simp
    omega
theorem p_slS {s : Str} {n : Nat} (lo hi : Option Int) (h : Gd n s) (hn : n ≤ 16777216) : sliceD (.str s) lo hi = some (.str (cutS s lo hi)) := by
  show guard1 (lineOk s.length) _ = _
  rw [show lineOk s.length = true from Nat.ble_eq_true_of_le (Nat.le_trans h.2 hn)]
  rfl
def lastT (ts : List Tm) (o : Tm) : Tm := ts.getLastD o
theorem last_fit {P : Tm → Prop} {ts : List Tm} {o : Tm} (h : ∀ t ∈ ts, P t) (ho : P o) : P (lastT ts o) ∧ ∀ t ∈ ts.dropLast, P t := by
  refine ⟨?_, fun t m => h t (List.dropLast_subset _ m)⟩
  unfold lastT
  rcases snoc_or ts with rfl | ⟨r, t, rfl⟩
  · exact ho
  · rw [List.getLastD_concat]
    exact h t (List.mem_append_right _ List.mem_cons_self)
def sizes (ts : List Tm) : Nat := (ts.map Tm.sz).sum
theorem last_sz (ts : List Tm) (o : Tm) : sizes ts.dropLast + (lastT ts o).sz ≤ sizes ts + o.sz := by
  unfold lastT sizes
  rcases snoc_or ts with rfl | ⟨r, t, rfl⟩
  · simp
  · simp
/-- the stack after i numbers -/
structure Stk (i : Nat) (ts : List Tm) : Prop where
  fit : ∀ t ∈ ts, t.fit ∧ t.dp ≤ i + 1
  sz : sizes ts ≤ 3 * i
theorem Stk.ok {i : Nat} {ts : List Tm} (h : Stk i ts) (hi : i ≤ 40) : ∀ d ∈ ts.map Tm.d, d.canLay0 = true ∧ d.depth ≤ 63 := by
  intro d m
  obtain ⟨t, mt, rfl⟩ := List.mem_map.mp m
  obtain ⟨h1, h2⟩ := h.fit t mt
  have := t.dep h1
  exact ⟨t.lay h1, by omega⟩
theorem Stk.push {i : Nat} {r : List Tm} {t : Tm} (hr : ∀ x ∈ r, x.fit ∧ x.dp ≤ i + 1) (ht : t.fit) (hd : t.dp ≤ i + 2) (hs : sizes r + t.sz ≤ 3 * (i + 1)) : Stk (i + 1) (r ++ [t]) := by
  refine ⟨fun x m => ?_, by unfold sizes at *; simp; exact hs⟩
  rcases List.mem_append.mp m with m | m
  · have := hr x m
    exact ⟨this.1, by omega⟩
  · simp at m
    subst m
    exact ⟨ht, hd⟩
end PV
namespace PV
theorem sz_pos (t : Tm) : 1 ≤ t.sz := by cases t <;> simp only [Tm.sz] <;> omega
end PV
namespace PV
open PySem L2
/-! ## Texts of kinds and terms -/
def Tm.pl : Tm → Int
  | .lam _ _ _ => 0
  | .let_ _ _ _ => 0
  | .split _ _ _ _ => 0
  | .op s _ _ => if s = "*" then 2 else 1
  | .app _ _ => 3
  | _ => 4
def Tm.tx : Tm → Str
  | .var x => x
  | .num i => Str.ofString (toString i)
  | .lam x k a => "\\" ++ x ++ ":" ++ k.tx ++ ". " ++ a.tx
  | .let_ x a b => "let " ++ x ++ " = " ++ a.tx ++ " in " ++ b.tx
  | .split x y a b => "let (" ++ x ++ ", " ++ y ++ ") = " ++ a.tx ++ " in " ++ b.tx
  | .pair a b => "(" ++ a.tx ++ ", " ++ b.tx ++ ")"
  | .app a b => par (decide (a.pl < 3)) a.tx ++ " " ++ par (decide (b.pl < 4)) b.tx
  | .box a => "!" ++ par (decide (a.pl < 4)) a.tx
  | .op s a b => par (decide (a.pl < if s = "*" then 2 else 1)) a.tx ++ " " ++ s ++ " " ++ par (decide (b.pl < (if s = "*" then 2 else 1) + 1)) b.tx
theorem ln_str (s : String) : (Str.ofString s).length = s.length := by
  rw [Str.ofString_eq_toList]
  show ((s.toList.map Char.toNat).toArray).size = _
  rw [List.size_toArray, List.length_map, String.length_toList]
theorem ln_par (b : Bool) (x : Str) : (par b x).length ≤ x.length + 2 := by
  cases b with
  | false => show x.length ≤ _; omega
  | true =>
    show (Str.ofString "(" ++ x ++ Str.ofString ")").length ≤ _
    have h1 : (Str.ofString "(").length = 1 := by decide +kernel
    have h2 : (Str.ofString ")").length = 1 := by decide +kernel
    rw [Str.length_append, Str.length_append, h1, h2]
    omega
theorem ln_int {i : Int} (h0 : 0 ≤ i) (h : i < 1000000) : (Str.ofString (toString i)).length ≤ 20 := by
  obtain ⟨n, rfl⟩ : ∃ n : Nat, i = n := ⟨i.toNat, by omega⟩
  rw [ln_str]
  exact nat_repr_length_le (k := 20) (by decide) (by omega)
theorem ltr0 : (Str.ofString "(").length = 1 := by decide +kernel
theorem ltr1 : (Str.ofString ")").length = 1 := by decide +kernel
theorem ltr2 : (Str.ofString ", ").length = 2 := by decide +kernel
theorem ltr3 : (Str.ofString "!").length = 1 := by decide +kernel
theorem ltr4 : (Str.ofString " -> ").length = 4 := by decide +kernel
theorem ltr5 : (Str.ofString "Int").length = 3 := by decide +kernel
theorem ltr6 : (Str.ofString "\\").length = 1 := by decide +kernel
theorem ltr7 : (Str.ofString ":").length = 1 := by decide +kernel
theorem ltr8 : (Str.ofString ". ").length = 2 := by decide +kernel
theorem ltr9 : (Str.ofString "let ").length = 4 := by decide +kernel
theorem ltr10 : (Str.ofString " = ").length = 3 := by decide +kernel
theorem ltr11 : (Str.ofString " in ").length = 4 := by decide +kernel
theorem ltr12 : (Str.ofString "let (").length = 5 := by decide +kernel
theorem ltr13 : (Str.ofString ") = ").length = 4 := by decide +kernel
theorem ltr14 : (Str.ofString " ").length = 1 := by decide +kernel
theorem ltr15 : (Str.ofString "def ").length = 4 := by decide +kernel
theorem ltr16 : (Str.ofString " : ").length = 3 := by decide +kernel
theorem ltr17 : (Str.ofString ";\n").length = 2 := by decide +kernel
theorem Kd.ln : ∀ (k : Kd) (d : Nat), k.dp ≤ d → k.tx.length + 6 ≤ 10 * 2 ^ d
  | .int, d, h => by
    have : 1 ≤ d := h
    obtain ⟨e, rfl⟩ : ∃ e, d = e + 1 := ⟨d - 1, by omega⟩
    have : 0 < 2 ^ e := Nat.pow_pos (by decide)
    simp only [Kd.tx, ltr5, Nat.pow_succ]
    omega
  | .bang a, d, h => by
    simp only [Kd.dp] at h
    obtain ⟨e, rfl⟩ : ∃ e, d = e + 1 := ⟨d - 1, by omega⟩
    have := a.ln e (by omega)
    have := ln_par a.isFn a.tx
    simp only [Kd.tx, Str.length_append, ltr3, Nat.pow_succ]
    omega
  | .pair a b, d, h => by
    simp only [Kd.dp] at h
    obtain ⟨e, rfl⟩ : ∃ e, d = e + 1 := ⟨d - 1, by omega⟩
    have := a.ln e (by omega)
    have := b.ln e (by omega)
    simp only [Kd.tx, Str.length_append, ltr0, ltr1, ltr2, Nat.pow_succ]
    omega
  | .fn a b, d, h => by
    simp only [Kd.dp] at h
    obtain ⟨e, rfl⟩ : ∃ e, d = e + 1 := ⟨d - 1, by omega⟩
    have := a.ln e (by omega)
    have := b.ln e (by omega)
    have := ln_par a.isFn a.tx
    simp only [Kd.tx, Str.length_append, ltr4, Nat.pow_succ]
    omega
theorem Tm.ln : ∀ t : Tm, t.fit → t.tx.length ≤ 400 * t.sz
  | .var x, h => by have := h.2; simp only [Tm.tx, Tm.sz]; omega
  | .num i, h => by have := ln_int h.1 h.2; simp only [Tm.tx, Tm.sz]; omega
  | .lam x k a, h => by
    have := h.1.2
    have := a.ln h.2.2
    have := k.ln 4 h.2.1
    simp only [Tm.tx, Tm.sz, Str.length_append, ltr6, ltr7, ltr8]
    omega
  | .let_ x a b, h => by
    have := h.1.2
    have := a.ln h.2.1
    have := b.ln h.2.2
    simp only [Tm.tx, Tm.sz, Str.length_append, ltr9, ltr10, ltr11]
    omega
  | .split x y a b, h => by
    have := h.1.2
    have := h.2.1.2
    have := a.ln h.2.2.1
    have := b.ln h.2.2.2
    simp only [Tm.tx, Tm.sz, Str.length_append, ltr12, ltr13, ltr2, ltr11]
    omega
  | .pair a b, h => by
    have := a.ln h.1
    have := b.ln h.2
    simp only [Tm.tx, Tm.sz, Str.length_append, ltr0, ltr1, ltr2]
    omega
  | .app a b, h => by
    have := a.ln h.1
    have := b.ln h.2
    have := ln_par (decide (a.pl < 3)) a.tx
    have := ln_par (decide (b.pl < 4)) b.tx
    simp only [Tm.tx, Tm.sz, Str.length_append, ltr14]
    omega
  | .box a, h => by
    have := a.ln h
    have := ln_par (decide (a.pl < 4)) a.tx
    simp only [Tm.tx, Tm.sz, Str.length_append, ltr3]
    omega
  | .op s a b, h => by
    have := h.1.2
    have := a.ln h.2.1
    have := b.ln h.2.2
    have := ln_par (decide (a.pl < if s = "*" then 2 else 1)) a.tx
    have := ln_par (decide (b.pl < (if s = "*" then 2 else 1) + 1)) b.tx
    simp only [Tm.tx, Tm.sz, Str.length_append, ltr14]
    omega
theorem p_strI {i : Int} (h0 : 0 ≤ i) (h : i < 1000000) : prim .strI [.int i] = some (.str (toString i)) := by
  obtain ⟨n, rfl⟩ : ∃ n : Nat, i = n := ⟨i.toNat, by omega⟩
  show guard1 (decide ((n : Int).natAbs.log2 < 1920)) _ = _
  have e : (n : Int).natAbs.log2 < 1920 := by
    rw [Int.natAbs_natCast]
    by_cases hz : n = 0
    · subst hz; decide
    · exact Nat.lt_trans ((Nat.log2_lt hz).mpr (show n < 2 ^ 20 by omega)) (by decide)
  rw [decide_eq_true e]
  rfl
end PV
namespace PV
open PySem L2
theorem Kd.hd (a : Kd) : ∃ h, prim .idx [a.d, .int 0] = some (.str h) ∧ decide (h = Str.ofString "fun") = a.isFn := by
  cases a
  · exact ⟨_, rfl, by decide +kernel⟩
  · exact ⟨_, rfl, by show decide (Str.ofString "bang" = Str.ofString "fun") = false; decide +kernel⟩
  · exact ⟨_, rfl, by show decide (Str.ofString "pair" = Str.ofString "fun") = false; decide +kernel⟩
  · exact ⟨_, rfl, by show decide (Str.ofString "fun" = Str.ofString "fun") = true; decide +kernel⟩
end PV
namespace PV
open PySem L2
theorem ln_par2 (b : Bool) (x : Str) : x.length ≤ (par b x).length := by
  cases b with
  | false => exact Nat.le_refl _
  | true =>
    show _ ≤ (Str.ofString "(" ++ x ++ Str.ofString ")").length
    rw [Str.length_append, Str.length_append]
    omega
end PV
namespace PV
open PySem L2
@[simp] theorem w_tgt (G : Ctx) (is : List Nat) (xs : List PyData) (env : Ev) (st : Sto) : evT G (.tup is) (.d (.tuple xs)) env st = guard1 (decide (xs.length = is.length)) (bindNames is xs env, st) := rfl
@[simp] theorem w_bn0 (env : Ev) : bindNames [] [] env = env := rfl
@[simp] theorem w_bn1 (i : Nat) (is : List Nat) (x : PyData) (xs : List PyData) (env : Ev) : bindNames (i :: is) (x :: xs) env = bindNames is xs (env.set i (some (.d x))) := rfl
theorem strsOf_map (ys : List Str) : strsOf (ys.map .str) = some ys := by
  induction ys with
  | nil => rfl
  | cons y r ih =>
    show (match strsOf (r.map .str) with
      | some is => some (y :: is)
      | none => none) = _
    rw [ih]
theorem p_joinS {s : Str} {ys : List Str} (h : (ys.map (·.length)).sum + ys.length * s.length ≤ 16777216) : prim .join [.str s, .list (ys.map .str)] = some (.str (Txt.join s ys)) := by
  show bindO (strsOf (ys.map .str)) (fun ys => guard1 (lineOk ((ys.map (·.length)).sum + ys.length * s.length)) (PyData.str (Txt.join s ys))) = _
  rw [strsOf_map]
  show guard1 (lineOk ((ys.map (·.length)).sum + ys.length * s.length)) (PyData.str (Txt.join s ys)) = _
  rw [show lineOk ((ys.map (·.length)).sum + ys.length * s.length) = true from Nat.ble_eq_true_of_le h]
  rfl
theorem lcGo_map {α : Type} {f : PyData → Sto → Rs (Option PyData)} {st : Sto} (a b : α → PyData) : ∀ ps : List α, (∀ p ∈ ps, f (a p) st = .ok (some (b p)) st) → lcGo f (ps.map a) st = some (ps.map b, st)
  | [], _ => rfl
  | p :: r, h => by
    show (match f (a p) st with
      | .ok o st1 => (match lcGo f (r.map a) st1 with
        | some (ys, st2) => some (consO o ys, st2)
        | none => none)
      | _ => none) = _
    rw [h p List.mem_cons_self]
    show (match lcGo f (r.map a) st with
        | some (ys, st2) => some (consO (some (b p)) ys, st2)
        | none => none) = _
    rw [lcGo_map a b r fun q m => h q (List.mem_cons_of_mem _ m)]
    rfl
theorem lc_run {α : Type} {G : Ctx} {i : Nat} {it : CI} {elt : CE} {env : Ev} {st : Sto} (a b : α → PyData) (ps : List α) (hi : evI G it env st = .ok (ps.map a) st) (hl : ps.length ≤ 1000000) (h : ∀ p ∈ ps, evE G elt (env.set i (some (.d (a p)))) st = .ok (.d (b p)) st) :
    evE G (.lc i it [] elt) env st = .ok (.d (.list (ps.map b))) st := by
  show (evI G it env st).bind (fun xs st1 => lcEnd (Nat.ble xs.length 1000000) (lcGo (fun x st2 => condAll G [] (env.set i (some (.d x))) st2 fun st3 => someR (evE G elt (env.set i (some (.d x))) st3)) xs st1)) = _
  rw [hi]
  show lcEnd (Nat.ble (ps.map a).length 1000000) (lcGo (fun x st2 => condAll G [] (env.set i (some (.d x))) st2 fun st3 => someR (evE G elt (env.set i (some (.d x))) st3)) (ps.map a) st) = _
  rw [lcGo_map a b ps fun p m => by
    show someR (evE G elt (env.set i (some (.d (a p)))) st) = _
    rw [h p m]
    rfl]
  rw [List.length_map, Nat.ble_eq_true_of_le hl]
  rfl
/-- a definition -/
structure Dc where
  x : Str
  k : Kd
  t : Tm
def Dc.d (p : Dc) : PyData := .tuple [.str p.x, p.k.d, p.t.d]
def Dc.ln (p : Dc) : Str := "def " ++ p.x ++ " : " ++ p.k.tx ++ " = " ++ p.t.tx ++ ";\n"
structure Dc.ok (p : Dc) : Prop where
  x : Gd 24 p.x
  k : p.k.dp ≤ 4
  t : p.t.fit
  dp : p.t.dp ≤ 41
  sz : p.t.sz ≤ 130
theorem Dc.len {p : Dc} (h : p.ok) : p.ln.length ≤ 60000 := by
  have h1 := h.x.2
  have h2 := p.k.ln 4 h.k
  have h3 := p.t.ln h.t
  have h4 := h.sz
  unfold Dc.ln
  simp only [Str.length_append, ltr15, ltr16, ltr10, ltr17]
  omega
theorem lens_sum {ps : List Dc} (h : ∀ p ∈ ps, p.ok) (hl : ps.length ≤ 5) : ((ps.map Dc.ln).map (·.length)).sum + (ps.map Dc.ln).length * (Str.ofString "").length ≤ 16777216 := by
  have e : (Str.ofString "").length = 0 := by decide +kernel
  rw [e, Nat.mul_zero, Nat.add_zero]
  have : ((ps.map Dc.ln).map (·.length)).sum ≤ 60000 * ps.length := by
    clear hl
    induction ps with
    | nil => simp
    | cons p r ih =>
      have h1 := Dc.len (h p List.mem_cons_self)
      have h2 := ih fun q m => h q (List.mem_cons_of_mem _ m)
      rw [List.map_cons, List.map_cons, List.sum_cons, List.length_cons]
      omega
  omega
end PV
namespace PV
@[simp] theorem w_g0 {α : Type} (a : α) (l : List α) : (a :: l)[0]? = some a := rfl
@[simp] theorem w_g1 {α : Type} (a b : α) (l : List α) : (a :: b :: l)[1]? = some b := rfl
@[simp] theorem w_g2 {α : Type} (a b c : α) (l : List α) : (a :: b :: c :: l)[2]? = some c := rfl
end PV
namespace PV
open PySem L2
/-! ## while loops -/
theorem loopW_run {test : Ev → Sto → Rs Sv} {body : Ev → Sto → SRs} (Inv : Nat → Ev → Sto → Prop) (Post : Ev → Sto → Prop) (h : ∀ n env st, Inv n env st → (test env st = .ok (.d (.bool false)) st ∧ Post env st) ∨ (test env st = .ok (.d (.bool true)) st ∧ ∃ env2 st2, (body env st = .next env2 st2 ∨ body env st = .cont env2 st2) ∧ ∃ n', n' < n ∧ Inv n' env2 st2)) :
    ∀ (n wf : Nat) (env : Ev) (st : Sto), Inv n env st → n < wf → ∃ env' st', loopW test body wf env st = .next env' st' ∧ Post env' st' := by
  intro n
  induction n using Nat.strongRecOn with
  | _ n ih =>
    intro wf env st hI hw
    obtain ⟨wf, rfl⟩ : ∃ e, wf = e + 1 := ⟨wf - 1, by omega⟩
    rcases h n env st hI with ⟨h1, h2⟩ | ⟨h1, env2, st2, h2, n', hn, hI2⟩
    · refine ⟨env, st, ?_, h2⟩
      show onT (test env st) env (fun st1 => afterB (body env st1) fun env2 st2 => loopW test body wf env2 st2) (fun st1 => .next env st1) = _
      rw [h1]
      rfl
    · obtain ⟨env', st', e, hp⟩ := ih n' hn wf env2 st2 hI2 (by omega)
      refine ⟨env', st', ?_, hp⟩
      show onT (test env st) env (fun st1 => afterB (body env st1) fun env2 st2 => loopW test body wf env2 st2) (fun st1 => .next env st1) = _
      rw [h1]
      show afterB (body env st) _ = _
      rcases h2 with h2 | h2 <;> (rw [h2]; exact e)
theorem whl_run {G : Ctx} {wf : Nat} {c : CE} {b : List CS} (Inv : Nat → Ev → Sto → Prop) (Post : Ev → Sto → Prop) {n : Nat} {env : Ev} {st : Sto} (h0 : Inv n env st) (hw : n < wf)
    (h : ∀ n env st, Inv n env st → (evE G c env st = .ok (.d (.bool false)) st ∧ Post env st) ∨ (evE G c env st = .ok (.d (.bool true)) st ∧ ∃ env2 st2, (evSs G wf b env st = .next env2 st2 ∨ evSs G wf b env st = .cont env2 st2) ∧ ∃ n', n' < n ∧ Inv n' env2 st2)) :
    ∃ env' st', evS G wf (.whl c b) env st = .next env' st' ∧ Post env' st' :=
  loopW_run (test := fun env st => evE G c env st) (body := fun env st => evSs G wf b env st) Inv Post h n wf env st h0 hw
@[simp] theorem w_augk (G : Ctx) (wf i : Nat) (p : Prim) (e : CE) (env : Ev) (st : Sto) : evS G wf (.aug i p e) env st = (match env[i]? with
    | some (some (.d x)) => lift env (evE G e env st) fun s st1 => (match s with
      | .d y => (match prim p [x, y] with
        | some z => .next (env.set i (some (.d z))) st1
        | none => .bad)
      | _ => .bad)
    | _ => .bad) := rfl
@[simp] theorem p_iaddi (i j : Int) : prim .iadd [.int i, .int j] = some (.int (i + j)) := rfl
@[simp] theorem w_g3 {α : Type} (a b c d : α) (l : List α) : (a :: b :: c :: d :: l)[3]? = some d := rfl
@[simp] theorem w_g4 {α : Type} (a b c d e : α) (l : List α) : (a :: b :: c :: d :: e :: l)[4]? = some e := rfl
/-- a text by its characters -/
abbrev tS_ (cs : List Nat) : Str := ⟨cs.toArray⟩
theorem ln_tS (cs : List Nat) : (tS_ cs).length = cs.length := by unfold Str.length; simp
theorem p_lenS {cs : List Nat} (h : cs.length ≤ 16777216) : prim .len [.str (tS_ cs)] = some (.int cs.length) := by
  show guard1 (lineOk (tS_ cs).length) (PyData.int ((tS_ cs).length : Nat)) = _
  rw [ln_tS, show lineOk cs.length = true from Nat.ble_eq_true_of_le h]
  rfl
theorem p_ixS {cs : List Nat} {p c : Nat} (h : cs.length ≤ 16777216) (e : cs[p]? = some c) : prim .idx [.str (tS_ cs), .int (p : Int)] = some (.str (one c)) := by
  show bindO (guard1 (lineOk (tS_ cs).length) ()) (fun _ => bindO (atI (tS_ cs).cps.toList (p : Int)) fun c => some (PyData.str (one c))) = _
  rw [ln_tS, show lineOk cs.length = true from Nat.ble_eq_true_of_le h]
  show bindO (atI cs (p : Int)) (fun c => some (PyData.str (one c))) = _
  rw [atN, e]
  rfl
theorem p_inS (c : Nat) (y : Str) : prim .isin [.str (one c), .str y] = some (.bool (decide (c ∈ y.cps.toList))) := rfl
theorem p_cutS {cs : List Nat} {p q : Nat} (h : cs.length ≤ 16777216) (hp : p ≤ q) (hq : q ≤ cs.length) : sliceD (.str (tS_ cs)) (some (p : Int)) (some (q : Int)) = some (.str (tS_ ((cs.drop p).take (q - p)))) := by
  show guard1 (lineOk (tS_ cs).length) _ = _
  rw [ln_tS, show lineOk cs.length = true from Nat.ble_eq_true_of_le h]
  have e : cutS (tS_ cs) (some (p : Int)) (some (q : Int)) = tS_ ((cs.drop p).take (q - p)) := by
    unfold cutS
    rw [ln_tS, HT.sIx_nat, HT.sIx_nat, Nat.min_eq_left hq, Nat.min_eq_left (by omega : p ≤ cs.length)]
  rw [← e]
  rfl
end PV
namespace PV
open PySem L2
/-! ## Characters -/
def sLo : Str := "abcdefghijklmnopqrstuvwxyz"
def sUp : Str := "ABCDEFGHIJKLMNOPQRSTUVWXYZ"
def sDi : Str := "0123456789"
def sSi : Str := "\\:.=+*!();,"
/-- letters, capitals, digits -/
def wdB (c : Nat) : Bool := decide (c ∈ sLo.cps.toList) || (decide (c ∈ sUp.cps.toList) || decide (c ∈ sDi.cps.toList))
def hdOk : List Nat → Bool
  | [] => true
  | c :: _ => !wdB c
theorem at_mid {α : Type} {pre w post : List α} {j : Nat} (h : j < w.length) : (pre ++ (w ++ post))[pre.length + j]? = w[j]? := by
  rw [List.getElem?_append_right (by omega), show pre.length + j - pre.length = j by omega, List.getElem?_append_left h]
theorem at_end {α : Type} {pre w : List α} {c : α} {r : List α} : (pre ++ (w ++ c :: r))[pre.length + w.length]? = some c := by
  rw [List.getElem?_append_right (by omega), show pre.length + w.length - pre.length = w.length by omega, List.getElem?_append_right (Nat.le_refl _), Nat.sub_self]
  rfl
theorem p_in2 (x a b : Str) : prim .isin [.str x, .tuple [.str a, .str b]] = some (.bool (decide (x = a) || decide (x = b))) := by
  show guard1 true (PyData.bool (inD (.str x) [.str a, .str b])) = _
  have e : inD (.str x) [.str a, .str b] = (decide (x = a) || decide (x = b)) := by
    show ((a == x) || ((b == x) || false)) = _
    rw [beqX, beqX, Bool.or_false]
  rw [e]
  rfl
end PV
namespace PV
open PySem L2
/-! ## extend, two-fold comprehensions, membership -/
def extR2 (n : Nat) (env : Ev) (r : Rs Sv) : SRs := lift env r fun s st2 => (match s with
        | .d (.list ys) => (match st2[n]? with
          | some (.lst xs) => (match decide (xs.length + ys.length < 1000000) with
            | true => .next env (setC st2 n (.lst (xs ++ ys.map .d)))
            | false => .bad)
          | _ => .bad)
        | _ => .bad)
def extR (G : Ctx) (e : CE) (env : Ev) (r : Rs Sv) : SRs := lift env r fun so st1 => (match so with
    | .r n => (match st1[n]? with
      | some (.lst _) => extR2 n env (evE G e env st1)
      | _ => .bad)
    | _ => .bad)
@[simp] theorem w_ext (G : Ctx) (wf : Nat) (o e : CE) (env : Ev) (st : Sto) : evS G wf (.ext o e) env st = extR G e env (evE G o env st) := rfl
@[simp] theorem w_extk (G : Ctx) (e : CE) (env : Ev) (n : Nat) (st : Sto) : extR G e env (.ok (.r n) st) = (match st[n]? with
      | some (.lst _) => extR2 n env (evE G e env st)
      | _ => .bad) := rfl
@[simp] theorem w_extk2 (n : Nat) (env : Ev) (ys : List PyData) (st : Sto) : extR2 n env (.ok (.d (.list ys)) st) = (match st[n]? with
        | some (.lst xs) => (match decide (xs.length + ys.length < 1000000) with
          | true => .next env (setC st n (.lst (xs ++ ys.map .d)))
          | false => .bad)
        | _ => .bad) := rfl
theorem lcGo2_map {α β : Type} {f : PyData → Sto → Option (List PyData × Sto)} {st : Sto} (a : α → PyData) (b : β → PyData) (g : α → List β) : ∀ ps : List α, (∀ p ∈ ps, f (a p) st = some ((g p).map b, st)) → lcGo2 f (ps.map a) st = some ((ps.flatMap g).map b, st)
  | [], _ => rfl
  | p :: r, h => by
    show (match f (a p) st with
      | some (ys, st1) => (match lcGo2 f (r.map a) st1 with
        | some (zs, st2) => some (ys ++ zs, st2)
        | none => none)
      | none => none) = _
    rw [h p List.mem_cons_self]
    show (match lcGo2 f (r.map a) st with
        | some (zs, st2) => some ((g p).map b ++ zs, st2)
        | none => none) = _
    rw [lcGo2_map a b g r fun q m => h q (List.mem_cons_of_mem _ m)]
    simp
theorem lc2_run {α β : Type} {G : Ctx} {i j : Nat} {it it2 : CI} {cnd : List CE} {elt : CE} {env : Ev} {st : Sto} (a : α → PyData) (b : β → PyData) (g : α → List β) (ps : List α) (hi : evI G it env st = .ok (ps.map a) st) (hl : (ps.flatMap g).length ≤ 1000000)
    (h1 : ∀ p ∈ ps, evI G it2 ((env.set j none).set i (some (.d (a p)))) st = .ok ((g p).map b) st) (h2 : ∀ p ∈ ps, ∀ q ∈ g p, evE G elt (((env.set j none).set i (some (.d (a p)))).set j (some (.d (b q)))) st = .ok (.d (b q)) st) :
    evE G (.lc2 i it j it2 cnd elt) env st = .ok (.d (.list ((ps.flatMap g).map b))) st := by
  show (evI G it env st).bind (fun xs st1 => lcEnd2 (lcGo2 (fun x st2 => inner2 (evI G it2 ((env.set j none).set i (some (.d x))) st2) fun us st3 => lcGo (fun y st4 => someR (evE G elt (((env.set j none).set i (some (.d x))).set j (some (.d y))) st4)) us st3) xs st1)) = _
  rw [hi]
  show lcEnd2 (lcGo2 (fun x st2 => inner2 (evI G it2 ((env.set j none).set i (some (.d x))) st2) fun us st3 => lcGo (fun y st4 => someR (evE G elt (((env.set j none).set i (some (.d x))).set j (some (.d y))) st4)) us st3) (ps.map a) st) = _
  rw [lcGo2_map a b g ps fun p m => by
    show inner2 (evI G it2 ((env.set j none).set i (some (.d (a p)))) st) (fun us st3 => lcGo (fun y st4 => someR (evE G elt (((env.set j none).set i (some (.d (a p)))).set j (some (.d y))) st4)) us st3) = _
    rw [h1 p m]
    show lcGo (fun y st4 => someR (evE G elt (((env.set j none).set i (some (.d (a p)))).set j (some (.d y))) st4)) ((g p).map b) st = _
    rw [lcGo_map b b (g p) fun q mq => by
      show someR (evE G elt (((env.set j none).set i (some (.d (a p)))).set j (some (.d (b q)))) st) = _
      rw [h2 p m q mq]
      rfl]]
  show lcEnd (Nat.ble ((ps.flatMap g).map b).length 1000000) _ = _
  rw [List.length_map, Nat.ble_eq_true_of_le hl]
  rfl
theorem inD_strs (x : Str) (zs : List Str) : inD (.str x) (zs.map .str) = zs.contains x := by
  unfold inD
  rw [List.any_map]
  induction zs with
  | nil => rfl
  | cons z r ih =>
    rw [List.any_cons, List.contains_cons, ih]
    congr 1
    show (z == x) = (x == z)
    rw [beqX, beqX]
    by_cases h : x = z
    · rw [decide_eq_true h, decide_eq_true h.symm]
    · rw [decide_eq_false h, decide_eq_false fun e => h e.symm]
theorem flat_strs (zs : List Str) : (zs.map PyData.str).all flat = true := by
  rw [List.all_map]
  exact List.all_eq_true.mpr fun _ _ => rfl
theorem p_inl (x : Str) (zs : List Str) : prim .isin [.str x, .list (zs.map PyData.str)] = some (.bool (zs.contains x)) := by
  show guard1 (flat (PyData.str x) && (zs.map PyData.str).all flat) (PyData.bool (inD (.str x) (zs.map .str))) = _
  rw [flat_strs, inD_strs]
  rfl
theorem p_intu (x : Str) (zs : List Str) : prim .isin [.str x, .tuple (zs.map PyData.str)] = some (.bool (zs.contains x)) := by
  show guard1 (flat (PyData.str x) && (zs.map PyData.str).all flat) (PyData.bool (inD (.str x) (zs.map .str))) = _
  rw [flat_strs, inD_strs]
  rfl
theorem p_catl {xs ys : List PyData} (h : xs.length + ys.length ≤ 16777216) : prim .add [.list xs, .list ys] = some (.list (xs ++ ys)) := by
  show guard1 (lineOk (xs.length + ys.length)) _ = _
  rw [show lineOk (xs.length + ys.length) = true from Nat.ble_eq_true_of_le h]
  rfl
theorem p_catt {xs ys : List PyData} (h : xs.length + ys.length ≤ 16777216) : prim .add [.tuple xs, .tuple ys] = some (.tuple (xs ++ ys)) := by
  show guard1 (lineOk (xs.length + ys.length)) _ = _
  rw [show lineOk (xs.length + ys.length) = true from Nat.ble_eq_true_of_le h]
  rfl
@[simp] theorem lay_bool (b : Bool) : (PyData.bool b).canLay0 = true := by simp only [PyData.canLay0]
@[simp] theorem dep_bool (b : Bool) : (PyData.bool b).depth = 0 := by simp only [PyData.depth]
/-- == and != with itself -/
theorem p_self {d : PyData} (h : d.canLay0 = true) (k : d.depth ≤ 63) : prim .eq [d, d] = some (.bool true) ∧ prim .ne [d, d] = some (.bool false) := by
  have e := SeqAt.eqv_refl d h
  have sh : shD d = true := by
    unfold shD
    simp [h]
    omega
  have o : okEq d d = true := by unfold okEq; rw [sh]; simp
  rw [p_eq0, p_ne0, o, e]
  exact ⟨rfl, rfl⟩
theorem lays {ds : List PyData} (h : ∀ d ∈ ds, d.canLay0 = true ∧ d.depth ≤ 60) : (PyData.list ds).canLay0 = true ∧ (PyData.list ds).depth ≤ 61 := by
  induction ds with
  | nil => simp
  | cons d r ih =>
    obtain ⟨h1, h2⟩ := h d List.mem_cons_self
    obtain ⟨h3, h4⟩ := ih fun x m => h x (List.mem_cons_of_mem _ m)
    simp at h3 h4
    simp [h1, h3]
    omega
end PV
namespace PV
open PySem L2
/-- letters; letters and digits -/
def loB (c : Nat) : Bool := decide (c ∈ sLo.cps.toList)
def ldB (c : Nat) : Bool := loB c || decide (c ∈ sDi.cps.toList)
/-- the form of a name or of a word -/
def plL : List Nat → Bool
  | [] => false
  | c :: r => Nat.ble (r.length + 1) 8 && (loB c && (c :: r).all ldB)
theorem plL_cons (c : Nat) (r : List Nat) : plL (c :: r) = (Nat.ble (r.length + 1) 8 && (loB c && (c :: r).all ldB)) := rfl
def plB (x : Str) : Bool := plL x.cps.toList
def wordB (x : Str) : Bool := decide (x = Str.ofString "let") || (decide (x = Str.ofString "in") || decide (x = Str.ofString "def"))
theorem tS_eta (x : Str) : tS_ x.cps.toList = x := by cases x; rfl
theorem p_notinS (c : Nat) (y : Str) : prim .notin [.str (one c), .str y] = some (.bool (!decide (c ∈ y.cps.toList))) := rfl
theorem boolsOf_map (bs : List Bool) : boolsOf (bs.map .bool) = some bs := by
  induction bs with
  | nil => rfl
  | cons y r ih =>
    show (match boolsOf (r.map .bool) with
      | some is => some (y :: is)
      | none => none) = _
    rw [ih]
theorem p_allB (bs : List Bool) : prim .all [.list (bs.map .bool)] = some (.bool (bs.all id)) := by
  show bindO (boolsOf (bs.map .bool)) (fun bs => some (PyData.bool (bs.all id))) = _
  rw [boolsOf_map]
  rfl
theorem signs_tS (cs : List Nat) : signsD (tS_ cs) = cs.map fun c => .str (one c) := rfl
theorem p_notin3 (x a b c : Str) : prim .notin [.str x, .tuple [.str a, .str b, .str c]] = some (.bool (!(decide (x = a) || (decide (x = b) || decide (x = c))))) := by
  show guard1 true (PyData.bool (!inD (.str x) [.str a, .str b, .str c])) = _
  have e : inD (.str x) [.str a, .str b, .str c] = (decide (x = a) || (decide (x = b) || decide (x = c))) := by
    show ((a == x) || ((b == x) || ((c == x) || false))) = _
    rw [beqX, beqX, beqX, Bool.or_false]
  rw [e]
  rfl
/-- a name -/
structure Nm (x : Str) : Prop where
  gd : Gd 8 x
  pl : plB x = true
  nw : wordB x = false
/-- a name's beginning -/
structure Nb (n : Nat) (x : Str) : Prop where
  gd : Gd n x
  hd : ∃ c r, x.cps.toList = c :: r ∧ loB c = true ∧ ∀ d ∈ c :: r, ldB d = true
theorem app_cps (x y : Str) : (x ++ y).cps.toList = x.cps.toList ++ y.cps.toList := by
  show (x.cps ++ y.cps).toList = _
  rw [Array.toList_append]
theorem Nb.app {a b : Nat} {x y : Str} (h : Nb a x) (g : Gd b y) (k : ∀ d ∈ y.cps.toList, ldB d = true) : Nb (a + b) (x ++ y) := by
  obtain ⟨c, r, e, h1, h2⟩ := h.hd
  refine ⟨h.gd.app g, c, r ++ y.cps.toList, by rw [app_cps, e]; rfl, h1, fun d md => ?_⟩
  rcases List.mem_append.mp (show d ∈ (c :: r) ++ y.cps.toList from md) with m | m
  · exact h2 d m
  · exact k d m
theorem Nb.mono {a b : Nat} {x : Str} (h : Nb a x) (k : a ≤ b) : Nb b x := ⟨h.gd.mono k, h.hd⟩
theorem Nb.pl {x : Str} (h : Nb 8 x) : plB x = true := by
  obtain ⟨c, r, e, h1, h2⟩ := h.hd
  have hl : x.cps.toList.length ≤ 8 := by have := h.gd.2; unfold Str.length at this; simpa using this
  unfold plB
  rw [e] at hl ⊢
  rw [plL_cons, Nat.ble_eq_true_of_le (by simpa using hl), h1, List.all_eq_true.mpr h2]
  rfl
theorem p_ixm {x : Str} {i : Int} (h : PyData.strOk x = true) (hl : x.length ≤ 16777216) (h0 : 0 ≤ i) (h1 : i < x.length) : ∃ c, prim .idx [.str x, .int i] = some (.str (one c)) ∧ Gd 1 (one c) ∧ c ∈ x.cps.toList := by
  obtain ⟨c, e, m, _⟩ := atI_get (xs := x.cps.toList) h0 (by simpa [Str.length] using h1)
  obtain ⟨c', e', g'⟩ := p_ixs h hl h0 h1
  have e2 : prim .idx [.str x, .int i] = some (.str (one c)) := by
    show bindO (guard1 (Nat.ble _ _) ()) _ = _
    rw [Nat.ble_eq_true_of_le hl]
    show bindO (atI x.cps.toList i) _ = _
    rw [e]
    rfl
  rw [e2] at e'
  cases e'
  exact ⟨c, e2, g', m⟩
theorem wb_eq {x : Str} (h : wordB x = true) : x = Str.ofString "let" ∨ x = Str.ofString "in" ∨ x = Str.ofString "def" := by
  unfold wordB at h
  simpa using h
/-! the parts of a term -/
def Tm.ps : Tm → List Tm
  | .var _ => []
  | .num _ => []
  | .lam _ _ a => [a]
  | .let_ _ a b => [a, b]
  | .split _ _ a b => [a, b]
  | .pair a b => [a, b]
  | .app a b => [a, b]
  | .box a => [a]
  | .op _ a b => [a, b]
theorem ps_sz (t : Tm) : sizes t.ps + 1 = t.sz := by cases t <;> simp [Tm.ps, Tm.sz, sizes] <;> omega
theorem ps_dp (t : Tm) : ∀ p ∈ t.ps, p.dp + 1 ≤ t.dp := by cases t <;> simp [Tm.ps, Tm.dp] <;> omega
theorem len_sizes (ts : List Tm) : ts.length ≤ sizes ts := by
  unfold sizes
  induction ts with
  | nil => simp
  | cons u r ih =>
    have := sz_pos u
    simp
    omega
theorem sizes_app (a b : List Tm) : sizes (a ++ b) = sizes a + sizes b := by unfold sizes; simp
/-- the greatest depth -/
def mdp (ts : List Tm) : Nat := (ts.map Tm.dp).foldr max 0
theorem mdp_nil : mdp [] = 0 := rfl
theorem mdp_cons (t : Tm) (r : List Tm) : mdp (t :: r) = max t.dp (mdp r) := rfl
theorem mdp_app (a b : List Tm) : mdp (a ++ b) = max (mdp a) (mdp b) := by
  induction a with
  | nil => simp [mdp_nil]
  | cons t r ih => rw [List.cons_append, mdp_cons, mdp_cons, ih]; omega
theorem ps_mdp (t : Tm) : t.dp = mdp t.ps + 1 := by cases t <;> simp [Tm.ps, Tm.dp, mdp]
theorem mdp_next (ts : List Tm) (h : ts ≠ []) : mdp ts = mdp (ts.flatMap Tm.ps) + 1 := by
  induction ts with
  | nil => exact absurd rfl h
  | cons t r ih =>
    rw [List.flatMap_cons, mdp_cons, mdp_app, ps_mdp t]
    cases r with
    | nil => simp [mdp_nil]
    | cons u v => rw [ih (by simp)]; omega
theorem sizes_next (ts : List Tm) : sizes (ts.flatMap Tm.ps) ≤ sizes ts := by
  induction ts with
  | nil => simp
  | cons t r ih =>
    rw [List.flatMap_cons, sizes_app]
    have := ps_sz t
    have : sizes (t :: r) = t.sz + sizes r := by simp [sizes]
    omega
/-! free occurrences -/
def Tm.fr : Tm → List Str → List Str
  | .var x, bd => if bd.contains x = true then [] else [x]
  | .num _, _ => []
  | .lam x _ a, bd => a.fr (bd ++ [x])
  | .let_ x a b, bd => a.fr bd ++ b.fr (bd ++ [x])
  | .split x y a b, bd => a.fr bd ++ b.fr (bd ++ [x, y])
  | .pair a b, bd => a.fr bd ++ b.fr bd
  | .app a b, bd => a.fr bd ++ b.fr bd
  | .box a, bd => a.fr bd
  | .op _ a b, bd => a.fr bd ++ b.fr bd
theorem fr_len : ∀ (t : Tm) (bd : List Str), (t.fr bd).length ≤ t.sz
  | .var x, bd => by simp only [Tm.fr]; split <;> simp [Tm.sz]
  | .num _, bd => by simp [Tm.fr]
  | .lam x _ a, bd => by have := fr_len a (bd ++ [x]); simp only [Tm.fr, Tm.sz]; omega
  | .let_ x a b, bd => by have := fr_len a bd; have := fr_len b (bd ++ [x]); simp only [Tm.fr, Tm.sz, List.length_append]; omega
  | .split x y a b, bd => by have := fr_len a bd; have := fr_len b (bd ++ [x, y]); simp only [Tm.fr, Tm.sz, List.length_append]; omega
  | .pair a b, bd => by have := fr_len a bd; have := fr_len b bd; simp only [Tm.fr, Tm.sz, List.length_append]; omega
  | .app a b, bd => by have := fr_len a bd; have := fr_len b bd; simp only [Tm.fr, Tm.sz, List.length_append]; omega
  | .box a, bd => by have := fr_len a bd; simp only [Tm.fr, Tm.sz]; omega
  | .op _ a b, bd => by have := fr_len a bd; have := fr_len b bd; simp only [Tm.fr, Tm.sz, List.length_append]; omega
theorem fr_fit : ∀ (t : Tm) (bd : List Str), t.fit → ∀ z ∈ t.fr bd, Gd 24 z
  | .var x, bd, h, z, m => by
    simp only [Tm.fr] at m
    split at m
    · cases m
    · simp at m
      rw [m]
      exact h
  | .num _, bd, h, z, m => by simp [Tm.fr] at m
  | .lam x _ a, bd, h, z, m => fr_fit a _ h.2.2 z m
  | .let_ x a b, bd, h, z, m => by
    rcases List.mem_append.mp m with m | m
    · exact fr_fit a _ h.2.1 z m
    · exact fr_fit b _ h.2.2 z m
  | .split x y a b, bd, h, z, m => by
    rcases List.mem_append.mp m with m | m
    · exact fr_fit a _ h.2.2.1 z m
    · exact fr_fit b _ h.2.2.2 z m
  | .pair a b, bd, h, z, m => by
    rcases List.mem_append.mp m with m | m
    · exact fr_fit a _ h.1 z m
    · exact fr_fit b _ h.2 z m
  | .app a b, bd, h, z, m => by
    rcases List.mem_append.mp m with m | m
    · exact fr_fit a _ h.1 z m
    · exact fr_fit b _ h.2 z m
  | .box a, bd, h, z, m => fr_fit a _ h z m
  | .op _ a b, bd, h, z, m => by
    rcases List.mem_append.mp m with m | m
    · exact fr_fit a _ h.2.1 z m
    · exact fr_fit b _ h.2.2 z m
/-- the forms whose parts are searched one after the other -/
def Tm.flat : Tm → Bool
  | .num _ => true
  | .pair _ _ => true
  | .app _ _ => true
  | .box _ => true
  | .op _ _ _ => true
  | _ => false
theorem fr_flat (t : Tm) (bd : List Str) (h : t.flat = true) : t.fr bd = t.ps.flatMap fun p => p.fr bd := by cases t <;> first | (cases h; done) | simp [Tm.fr, Tm.ps]
theorem flat_take {ps : List Tm} {f : Tm → List Str} {i : Nat} {p : Tm} (h : ps[i]? = some p) : (ps.take (i + 1)).flatMap f = (ps.take i).flatMap f ++ f p := by
  rw [List.take_add_one, h]
  simp
theorem flat_le (ps : List Tm) (bd : List Str) : (ps.flatMap fun p => p.fr bd).length ≤ sizes ps := by
  induction ps with
  | nil => simp
  | cons p r ih =>
    have := fr_len p bd
    have : sizes (p :: r) = p.sz + sizes r := by simp [sizes]
    rw [List.flatMap_cons, List.length_append]
    omega
theorem sizes_take (ps : List Tm) (i : Nat) : sizes (ps.take i) ≤ sizes ps := by
  have h := sizes_app (ps.take i) (ps.drop i)
  rw [List.take_append_drop] at h
  omega
theorem part_sz {t p : Tm} (h : p ∈ t.ps) : p.sz + 1 ≤ t.sz := by
  have h1 := ps_sz t
  have : p.sz ≤ sizes t.ps := by
    unfold sizes
    have hm : p.sz ∈ t.ps.map Tm.sz := List.mem_map_of_mem h
    generalize t.ps.map Tm.sz = l at *
    induction l with
    | nil => cases hm
    | cons a r ih =>
      rw [List.sum_cons]
      rcases List.mem_cons.mp hm with e | m
      · omega
      · have := ih m
        omega
  omega
end PV
namespace PV
open PySem L2
/-- each once -/
def dd (xs : List Str) : List Str := xs.foldl (fun a x => if a.contains x = true then a else a ++ [x]) []
theorem dd_take {xs : List Str} {i : Nat} {x : Str} (h : xs[i]? = some x) : dd (xs.take (i + 1)) = if (dd (xs.take i)).contains x = true then dd (xs.take i) else dd (xs.take i) ++ [x] := by
  rw [List.take_add_one, h]
  unfold dd
  rw [Option.toList_some, List.foldl_append]
  rfl
theorem dd_sub (xs : List Str) : (dd xs).length ≤ xs.length ∧ ∀ z ∈ dd xs, z ∈ xs := by
  have key : ∀ (ys a : List Str), ((ys.foldl (fun a x => if a.contains x = true then a else a ++ [x]) a).length ≤ a.length + ys.length) ∧ ∀ z ∈ ys.foldl (fun a x => if a.contains x = true then a else a ++ [x]) a, z ∈ a ∨ z ∈ ys := by
    intro ys
    induction ys with
    | nil => intro a; exact ⟨Nat.le_refl _, fun z m => .inl m⟩
    | cons y r ih =>
      intro a
      rw [List.foldl_cons]
      by_cases q : a.contains y = true
      · rw [if_pos q]
        obtain ⟨h1, h2⟩ := ih a
        refine ⟨by rw [List.length_cons]; omega, fun z m => ?_⟩
        rcases h2 z m with k | k
        · exact .inl k
        · exact .inr (List.mem_cons_of_mem _ k)
      · rw [if_neg q]
        obtain ⟨h1, h2⟩ := ih (a ++ [y])
        refine ⟨by rw [List.length_append, List.length_singleton] at h1; rw [List.length_cons]; omega, fun z m => ?_⟩
        rcases h2 z m with k | k
        · rcases List.mem_append.mp k with k | k
          · exact .inl k
          · simp at k
            exact .inr (by rw [k]; exact List.mem_cons_self)
        · exact .inr (List.mem_cons_of_mem _ k)
  obtain ⟨h1, h2⟩ := key xs []
  refine ⟨by rw [List.length_nil, Nat.zero_add] at h1; exact h1, fun z m => ?_⟩
  rcases h2 z m with k | k
  · cases k
  · exact k
end PV
namespace PV
open PySem L2
theorem p_nei (a b : Int) : prim .ne [.int a, .int b] = some (.bool (!decide (a = b))) := by
  rw [p_ne0]
  have e : PyData.eqv (.int a) (.int b) = decide (a = b) := by
    by_cases h : a = b
    · subst h; simp [PyData.eqv]
    · simp [PyData.eqv, h]
  rw [e]
  rfl
end PV
namespace PV
open PySem L2
/-! ## Exceptions in the equations -/
@[simp] theorem w_endx (c : Nat) (p : List (Str × PyData)) (env : Ev) (st : Sto) : endR (.exc c p env st) = .exc c p st := rfl
@[simp] theorem w_lex (env : Ev) (c : Nat) (p : List (Str × PyData)) (st : Sto) (k : Sv → Sto → SRs) : lift env (.exc c p st) k = .exc c p env st := rfl
@[simp] theorem w_rse (G : Ctx) (wf : Nat) (c : Nat) (env : Ev) (st : Sto) : evS G wf (.rse c []) env st = .exc c [] env st := rfl
def Exs (P : Pg) (m f : Nat) (ds : List PyData) (c : Nat) : Prop := ∃ st, callN P m f (ds.map .d) [] = .exc c [] st
theorem evCall_exs {P : Pg} {m f c : Nat} {ds : List PyData} (h : Exs P m f ds c) (st : Sto) : evCall (callN P m f) (ds.map .d) st = .exc c [] st := by
  obtain ⟨st', e⟩ := h
  unfold evCall
  rw [allD_map]
  simp only [e]
theorem exs1 {P : Pg} {m f c : Nat} {a : PyData} (h : Exs P m f [a] c) (st : Sto) : evCall (callN P m f) [.d a] st = .exc c [] st := evCall_exs (ds := [a]) h st
theorem exs2 {P : Pg} {m f c : Nat} {a b : PyData} (h : Exs P m f [a, b] c) (st : Sto) : evCall (callN P m f) [.d a, .d b] st = .exc c [] st := evCall_exs (ds := [a, b]) h st
/-- a call that raises what holds a text -/
def Exf (P : Pg) (m f : Nat) (ds : List PyData) (c : Nat) (p : List (Str × PyData)) : Prop := ∃ st, callN P m f (ds.map .d) [] = .exc c p st
theorem evCall_exf {P : Pg} {m f c : Nat} {p : List (Str × PyData)} {ds : List PyData} (h : Exf P m f ds c p) (st : Sto) : evCall (callN P m f) (ds.map .d) st = .exc c p st := by
  obtain ⟨st', e⟩ := h
  unfold evCall
  rw [allD_map]
  simp only [e]
theorem exf1 {P : Pg} {m f c : Nat} {p : List (Str × PyData)} {a : PyData} (h : Exf P m f [a] c p) (st : Sto) : evCall (callN P m f) [.d a] st = .exc c p st := evCall_exf (ds := [a]) h st
def triR (G : Ctx) (i c : Nat) (h : List (List CE × CE)) (r : SRs) : SRs := match r with
    | .exc k p env1 st1 => catchH (G.sub k c) (decide (i < env1.length)) p (evH { G with exn := some k, pay := p } h (env1.set i none) st1) (.exc k p env1 st1)
    | r => r
@[simp] theorem w_tri (G : Ctx) (wf : Nat) (b : List CS) (i c : Nat) (h : List (List CE × CE)) (env : Ev) (st : Sto) : evS G wf (.tri b i c h) env st = triR G i c h (evSs G wf b env st) := rfl
@[simp] theorem w_trix (G : Ctx) (i c k : Nat) (p : List (Str × PyData)) (h : List (List CE × CE)) (env : Ev) (st : Sto) : triR G i c h (.exc k p env st) = catchH (G.sub k c) (decide (i < env.length)) p (evH { G with exn := some k, pay := p } h (env.set i none) st) (.exc k p env st) := rfl
theorem w_rsf (G : Ctx) (wf : Nat) (c : Nat) (f : Str) (e : CE) (env : Ev) (st : Sto) (h : G.deep = true) : evS G wf (.rsf c f e) env st = lift env (evE G e env st) fun s st1 => (match s with
    | .d (.str x) => .exc c [(f, .str x)] env st1
    | _ => .bad) := by
  show (match G.deep with
    | true => lift env (evE G e env st) fun s st1 => (match s with
      | .d (.str x) => .exc c [(f, .str x)] env st1
      | _ => .bad)
    | false => .bad) = _
  rw [h]
theorem deepN (P : Pg) (m : Nat) (h : 200 ≤ m) : (ctxN P m).deep = true := Nat.ble_eq_true_of_le h
@[simp] theorem w_trin (G : Ctx) (i c : Nat) (h : List (List CE × CE)) (env : Ev) (st : Sto) : triR G i c h (.next env st) = .next env st := rfl
@[simp] theorem w_trir (G : Ctx) (i c : Nat) (h : List (List CE × CE)) (w : Sv) (st : Sto) : triR G i c h (.ret w st) = .ret w st := rfl
@[simp] theorem w_dropk (G : Ctx) (wf : Nat) (e : CE) (env : Ev) (st : Sto) : evS G wf (.drop e) env st = lift env (evE G e env st) fun _ st1 => .next env st1 := rfl
/-! a while loop that raises -/
theorem loopW_exc {test : Ev → Sto → Rs Sv} {body : Ev → Sto → SRs} {c : Nat} (Inv : Nat → Ev → Sto → Prop) (h : ∀ n env st, Inv n env st → test env st = .ok (.d (.bool true)) st ∧ ((∃ env2 st2, body env st = .exc c [] env2 st2) ∨ ∃ env2 st2, (body env st = .next env2 st2 ∨ body env st = .cont env2 st2) ∧ ∃ n', n' < n ∧ Inv n' env2 st2)) :
    ∀ (n wf : Nat) (env : Ev) (st : Sto), Inv n env st → n < wf → ∃ env' st', loopW test body wf env st = .exc c [] env' st' := by
  intro n
  induction n using Nat.strongRecOn with
  | _ n ih =>
    intro wf env st hI hw
    obtain ⟨wf, rfl⟩ : ∃ e, wf = e + 1 := ⟨wf - 1, by omega⟩
    obtain ⟨h1, h2⟩ := h n env st hI
    have e0 : loopW test body (wf + 1) env st = afterB (body env st) fun env2 st2 => loopW test body wf env2 st2 := by
      show onT (test env st) env (fun st1 => afterB (body env st1) fun env2 st2 => loopW test body wf env2 st2) (fun st1 => .next env st1) = _
      rw [h1]
      rfl
    rw [e0]
    rcases h2 with ⟨env2, st2, e⟩ | ⟨env2, st2, e, n', hn, hI2⟩
    · rw [e]
      exact ⟨env2, st2, rfl⟩
    · obtain ⟨env', st', e3⟩ := ih n' hn wf env2 st2 hI2 (by omega)
      refine ⟨env', st', ?_⟩
      rcases e with e | e <;> (rw [e]; exact e3)
theorem whl_exc {G : Ctx} {wf c : Nat} {t : CE} {b : List CS} (Inv : Nat → Ev → Sto → Prop) {n : Nat} {env : Ev} {st : Sto} (h0 : Inv n env st) (hw : n < wf)
    (h : ∀ n env st, Inv n env st → evE G t env st = .ok (.d (.bool true)) st ∧ ((∃ env2 st2, evSs G wf b env st = .exc c [] env2 st2) ∨ ∃ env2 st2, (evSs G wf b env st = .next env2 st2 ∨ evSs G wf b env st = .cont env2 st2) ∧ ∃ n', n' < n ∧ Inv n' env2 st2)) :
    ∃ env' st', evS G wf (.whl t b) env st = .exc c [] env' st' :=
  loopW_exc (test := fun env st => evE G t env st) (body := fun env st => evSs G wf b env st) Inv h n wf env st h0 hw
/-! ## Tokens -/
def diB (c : Nat) : Bool := decide (c ∈ sDi.cps.toList)
/-- a number token -/
def nuL : List Nat → Bool
  | [] => false
  | c :: r => Nat.ble (r.length + 1) 9 && (!(Nat.ble 1 r.length && decide (c = 48)) && (c :: r).all diB)
theorem nuL_cons (c : Nat) (r : List Nat) : nuL (c :: r) = (Nat.ble (r.length + 1) 9 && (!(Nat.ble 1 r.length && decide (c = 48)) && (c :: r).all diB)) := rfl
def tokB (w : List Nat) : Bool := decide (w = [73, 110, 116]) || (nuL w || plL w)
inductive Tk : List Nat → List Nat → Prop
  | sing {c : Nat} {post : List Nat} : c ∈ sSi.cps.toList → Tk [c] post
  | arr {post : List Nat} : Tk [45, 62] post
  | min {post : List Nat} : post.head? ≠ some 62 → Tk [45] post
  | word {w post : List Nat} : w ≠ [] → (∀ c ∈ w, wdB c = true) → tokB w = true → hdOk post = true → Tk w post
/-- what is read of a text -/
inductive Rn : List Nat → List Nat → List (List Nat) → Prop
  | refl (a : List Nat) : Rn a a []
  | ws {c : Nat} {cs b : List Nat} {ts : List (List Nat)} : (c = 32 ∨ c = 10) → Rn cs b ts → Rn (c :: cs) b ts
  | tok {w post b : List Nat} {ts : List (List Nat)} : Tk w post → Rn post b ts → Rn (w ++ post) b (w :: ts)
theorem Rn.trans {a b c : List Nat} {ts us : List (List Nat)} (h : Rn a b ts) (k : Rn b c us) : Rn a c (ts ++ us) := by
  induction h with
  | refl a => exact k
  | ws hc _ ih => exact .ws hc (ih k)
  | tok ht _ ih => exact .tok ht (ih k)
/-- no token begins here -/
def badB : List Nat → Bool
  | [] => false
  | c :: r => !decide (c = 32) && (!decide (c = 10) && (!decide (c ∈ sSi.cps.toList) && (!decide (c = 45) && !tokB ((c :: r).takeWhile wdB))))
theorem si_nw : ∀ c ∈ sSi.cps.toList, wdB c = false := by decide +kernel
theorem nwd {c : Nat} (h : wdB c = true) : c ∉ sSi.cps.toList ∧ c ≠ 45 ∧ c ≠ 32 ∧ c ≠ 10 ∧ c ≠ 62 := by
  refine ⟨fun m => ?_, ?_, ?_, ?_, ?_⟩
  · rw [si_nw c m] at h; cases h
  all_goals
    rintro rfl
    revert h
    decide +kernel
theorem one_inj {a b : Nat} (h : one a = one b) : a = b := by
  have := congrArg (fun x : Str => x.cps.toList) h
  simpa [one] using this
theorem tS_inj {a b : List Nat} (h : tS_ a = tS_ b) : a = b := by
  have := congrArg (fun x : Str => x.cps.toList) h
  simpa using this
theorem tk_head {w post : List Nat} (h : Tk w post) : ∃ c r, w = c :: r ∧ c ≠ 32 ∧ c ≠ 10 := by
  cases h with
  | sing hc =>
    refine ⟨_, _, rfl, ?_, ?_⟩
    · rintro rfl
      revert hc
      decide +kernel
    · rintro rfl
      revert hc
      decide +kernel
  | arr => exact ⟨_, _, rfl, by decide, by decide⟩
  | min _ => exact ⟨_, _, rfl, by decide, by decide⟩
  | word h1 h2 h3 h4 =>
    cases w with
    | nil => exact absurd rfl h1
    | cons c r =>
      have q := nwd (h2 c List.mem_cons_self)
      exact ⟨c, r, rfl, q.2.2.1, q.2.2.2.1⟩
theorem p_cutS2 {cs : List Nat} {p q : Nat} (h : cs.length ≤ 16777216) (hp : p ≤ cs.length) : sliceD (.str (tS_ cs)) (some (p : Int)) (some (q : Int)) = some (.str (tS_ ((cs.drop p).take (q - p)))) := by
  show guard1 (lineOk (tS_ cs).length) _ = _
  rw [ln_tS, show lineOk cs.length = true from Nat.ble_eq_true_of_le h]
  have e : cutS (tS_ cs) (some (p : Int)) (some (q : Int)) = tS_ ((cs.drop p).take (q - p)) := by
    unfold cutS
    rw [ln_tS, HT.sIx_nat, HT.sIx_nat, Nat.min_eq_left hp]
    by_cases hq : q ≤ cs.length
    · rw [Nat.min_eq_left hq]
    · rw [Nat.min_eq_right (by omega)]
      show tS_ ((cs.drop p).take (cs.length - p)) = _
      rw [List.take_of_length_le (by rw [List.length_drop]; omega), List.take_of_length_le (by rw [List.length_drop]; omega)]
  rw [← e]
  rfl
theorem tw_app {w post : List Nat} (h : hdOk post = true) : (w ++ post).takeWhile wdB = w.takeWhile wdB := by
  induction w with
  | nil =>
    cases post with
    | nil => rfl
    | cons c r =>
      have h' : (!wdB c) = true := h
      have : wdB c = false := by simpa using h'
      rw [List.nil_append, List.takeWhile_cons, this]
      rfl
  | cons c r ih =>
    rw [List.cons_append, List.takeWhile_cons, List.takeWhile_cons, ih]
theorem badB_app {w post : List Nat} (h : hdOk post = true) (hw : w ≠ []) : badB (w ++ post) = badB w := by
  cases w with
  | nil => exact absurd rfl hw
  | cons c r =>
    have q := tw_app (w := c :: r) h
    show (!decide (c = 32) && (!decide (c = 10) && (!decide (c ∈ sSi.cps.toList) && (!decide (c = 45) && !tokB ((c :: r ++ post).takeWhile wdB))))) = _
    rw [q]
    rfl
theorem tw_split (cs : List Nat) : cs = cs.takeWhile wdB ++ cs.dropWhile wdB ∧ (∀ c ∈ cs.takeWhile wdB, wdB c = true) ∧ hdOk (cs.dropWhile wdB) = true := by
  refine ⟨(List.takeWhile_append_dropWhile).symm, fun c m => ?_, ?_⟩
  · induction cs with
    | nil => cases m
    | cons d r ih =>
      rw [List.takeWhile_cons] at m
      cases q : wdB d with
      | false => rw [q] at m; cases m
      | true =>
        rw [q] at m
        rcases List.mem_cons.mp m with e | m
        · rw [e]; exact q
        · exact ih m
  · induction cs with
    | nil => rfl
    | cons d r ih =>
      rw [List.dropWhile_cons]
      cases q : wdB d with
      | true => exact ih
      | false =>
        show (!wdB d) = true
        rw [q]
        rfl
end PV

/-! ## The law’s program in the small language -/
namespace K09
open PySem L2 PV
def top (i : Nat) : Stmt := PySem.Challenge.pw_sharenet_k09_linking.main.body.getD i (.Pass ⟨0, 0, 0, 0⟩)
def subs : Stmt → List Stmt
  | .ClassDef (body := b) .. => b
  | _ => []
def sub (i j : Nat) : Stmt := (subs (top i)).getD j (.Pass ⟨0, 0, 0, 0⟩)
def c_UnknownName___init__ : List CS := [.ini "name"]
abbrev i_UnknownName___init__ : Nat := 0
def p_UnknownName___init__ : DefP := ⟨["self", "name"], 2, c_UnknownName___init__⟩
def c_parts_of : List CS := [.ite (.op .isin [(.op .idx [(.var 0), (.lit (.int 0))]), (.tup [(.lit (.str "var")), (.lit (.str "num"))])]) [.ret (.lstV [])] [], .ite (.op .isin [(.op .idx [(.var 0), (.lit (.int 0))]), (.tup [(.lit (.str "app")), (.lit (.str "pair"))])]) [.ret (.lstV [(.op .idx [(.var 0), (.lit (.int 1))]), (.op .idx [(.var 0), (.lit (.int 2))])])] [], .ite (.op .eq [(.op .idx [(.var 0), (.lit (.int 0))]), (.lit (.str "box"))]) [.ret (.lstV [(.op .idx [(.var 0), (.lit (.int 1))])])] [], .ite (.op .eq [(.op .idx [(.var 0), (.lit (.int 0))]), (.lit (.str "lam"))]) [.ret (.lstV [(.op .idx [(.var 0), (.lit (.int 3))])])] [], .ite (.op .eq [(.op .idx [(.var 0), (.lit (.int 0))]), (.lit (.str "split"))]) [.ret (.lstV [(.op .idx [(.var 0), (.lit (.int 3))]), (.op .idx [(.var 0), (.lit (.int 4))])])] [], .ret (.lstV [(.op .idx [(.var 0), (.lit (.int 2))]), (.op .idx [(.var 0), (.lit (.int 3))])])]
abbrev i_parts_of : Nat := 1
def p_parts_of : DefP := ⟨["term"], 1, c_parts_of⟩
def c_free_occurrences_L1 : CS := .fr (.name 3) (.lst (.call 1 [(.var 0)])) [.ext (.var 2) (.call 2 [(.var 3), (.var 1)])]
def c_free_occurrences : List CS := [.ite (.op .eq [(.op .idx [(.var 0), (.lit (.int 0))]), (.lit (.str "var"))]) [.ret (.ife (.op .isin [(.op .idx [(.var 0), (.lit (.int 1))]), (.var 1)]) (.lstV []) (.lstV [(.op .idx [(.var 0), (.lit (.int 1))])]))] [], .ite (.op .eq [(.op .idx [(.var 0), (.lit (.int 0))]), (.lit (.str "lam"))]) [.ret (.call 2 [(.op .idx [(.var 0), (.lit (.int 3))]), (.op .add [(.var 1), (.tup [(.op .idx [(.var 0), (.lit (.int 1))])])])])] [], .ite (.op .eq [(.op .idx [(.var 0), (.lit (.int 0))]), (.lit (.str "let"))]) [.ret (.op .add [(.call 2 [(.op .idx [(.var 0), (.lit (.int 2))]), (.var 1)]), (.call 2 [(.op .idx [(.var 0), (.lit (.int 3))]), (.op .add [(.var 1), (.tup [(.op .idx [(.var 0), (.lit (.int 1))])])])])])] [], .ite (.op .eq [(.op .idx [(.var 0), (.lit (.int 0))]), (.lit (.str "split"))]) [.ret (.op .add [(.call 2 [(.op .idx [(.var 0), (.lit (.int 3))]), (.var 1)]), (.call 2 [(.op .idx [(.var 0), (.lit (.int 4))]), (.op .add [(.var 1), (.tup [(.op .idx [(.var 0), (.lit (.int 1))]), (.op .idx [(.var 0), (.lit (.int 2))])])])])])] [], .set (.name 2) (.lstR []), c_free_occurrences_L1, .ret (.frz (.var 2))]
abbrev i_free_occurrences : Nat := 2
def p_free_occurrences : DefP := ⟨["term", "bound", "found", "part"], 2, c_free_occurrences⟩
def c_replaced : List CS := [.set (.name 3) (.op .idx [(.var 0), (.lit (.int 0))]), .ite (.op .eq [(.var 3), (.lit (.str "var"))]) [.ite (.op .isin [(.op .idx [(.var 0), (.lit (.int 1))]), (.var 2)]) [.ret (.var 0)] [], .ret (.dgetD (.var 1) (.op .idx [(.var 0), (.lit (.int 1))]) (.var 0))] [], .ite (.op .eq [(.var 3), (.lit (.str "num"))]) [.ret (.var 0)] [], .ite (.op .eq [(.var 3), (.lit (.str "op"))]) [.ret (.tup [(.lit (.str "op")), (.op .idx [(.var 0), (.lit (.int 1))]), (.call 3 [(.op .idx [(.var 0), (.lit (.int 2))]), (.var 1), (.var 2)]), (.call 3 [(.op .idx [(.var 0), (.lit (.int 3))]), (.var 1), (.var 2)])])] [], .ite (.op .isin [(.var 3), (.tup [(.lit (.str "app")), (.lit (.str "pair"))])]) [.ret (.tup [(.var 3), (.call 3 [(.op .idx [(.var 0), (.lit (.int 1))]), (.var 1), (.var 2)]), (.call 3 [(.op .idx [(.var 0), (.lit (.int 2))]), (.var 1), (.var 2)])])] [], .ite (.op .eq [(.var 3), (.lit (.str "box"))]) [.ret (.tup [(.lit (.str "box")), (.call 3 [(.op .idx [(.var 0), (.lit (.int 1))]), (.var 1), (.var 2)])])] [], .ite (.op .eq [(.var 3), (.lit (.str "split"))]) [.set (.name 5) (.op .add [(.var 2), (.tup [(.op .idx [(.var 0), (.lit (.int 1))]), (.op .idx [(.var 0), (.lit (.int 2))])])]), .ret (.tup [(.lit (.str "split")), (.op .idx [(.var 0), (.lit (.int 1))]), (.op .idx [(.var 0), (.lit (.int 2))]), (.call 3 [(.op .idx [(.var 0), (.lit (.int 3))]), (.var 1), (.var 2)]), (.call 3 [(.op .idx [(.var 0), (.lit (.int 4))]), (.var 1), (.var 5)])])] [], .set (.name 4) (.op .add [(.var 2), (.tup [(.op .idx [(.var 0), (.lit (.int 1))])])]), .ite (.op .eq [(.var 3), (.lit (.str "lam"))]) [.ret (.tup [(.lit (.str "lam")), (.op .idx [(.var 0), (.lit (.int 1))]), (.op .idx [(.var 0), (.lit (.int 2))]), (.call 3 [(.op .idx [(.var 0), (.lit (.int 3))]), (.var 1), (.var 4)])])] [], .ret (.tup [(.lit (.str "let")), (.op .idx [(.var 0), (.lit (.int 1))]), (.call 3 [(.op .idx [(.var 0), (.lit (.int 2))]), (.var 1), (.var 2)]), (.call 3 [(.op .idx [(.var 0), (.lit (.int 3))]), (.var 1), (.var 4)])])]
abbrev i_replaced : Nat := 3
def p_replaced : DefP := ⟨["term", "terms", "bound", "head", "inner", "both"], 3, c_replaced⟩
def c_linked_terms_L1 : CS := .fr (.name 5) (.lst (.call 2 [(.var 4), (.tup [])])) [.ite (.din true (.var 5) (.var 1)) [.rsf 0 "name" (.var 5)] []]
def c_linked_terms_L2 : CS := .fr (.tup [2, 3, 4]) (.lst (.var 0)) [c_linked_terms_L1, .dput (.var 1) (.var 2) (.call 3 [(.var 4), (.var 1), (.tup [])])]
def c_linked_terms : List CS := [.set (.name 1) .dnew, c_linked_terms_L2, .ret (.var 1)]
abbrev i_linked_terms : Nat := 4
def p_linked_terms : DefP := ⟨["program", "terms", "name", "_", "term", "free"], 1, c_linked_terms⟩
def c_linked_C1 : CE := .lc 2 (.lst (.var 0)) [] (.op .idx [(.var 2), (.lit (.int 0))])
def c_linked : List CS := [.ite (.op .notin [(.var 1), c_linked_C1]) [.rsf 0 "name" (.var 1)] [], .ret (.dget (.call 4 [(.var 0)]) (.var 1))]
abbrev i_linked : Nat := 5
def p_linked : DefP := ⟨["program", "name", "definition"], 2, c_linked⟩
def c__law_cell : List CS := [.ite (.op .lt [(.var 1), (.op .len [(.var 0)])]) [.ret (.op .idx [(.var 0), (.var 1)])] [], .ret (.lit (.int 0))]
abbrev i__law_cell : Nat := 6
def p__law_cell : DefP := ⟨["_law_script", "_law_k"], 2, c__law_cell⟩
def c__law_numbers_L1 : CS := .fr (.name 6) (.range [(.lit (.int 60))]) [.ite (.and_ (.op .gt [(.var 5), (.lit (.int 0))]) (.op .lt [(.op .len [(.var 3)]), (.var 2)])) [.app (.var 3) (.op .mod [(.op .int [(.var 5)]), (.lit (.int 4096))]), .set (.name 5) (.op .fdiv [(.var 5), (.lit (.int 4096))])] []]
def c__law_numbers_L2 : CS := .fr (.name 4) (.range [(.var 1), (.op .len [(.var 0)])]) [.set (.name 5) (.op .abs [(.op .idx [(.var 0), (.var 4)])]), .ite (.op .ge [(.var 5), (.lit (.int 1000000000000000000))]) [c__law_numbers_L1] [.ite (.op .lt [(.op .len [(.var 3)]), (.var 2)]) [.set (.name 7) (.op .mod [(.op .int [(.op .add [(.op .add [(.op .mul [(.var 5), (.lit (.int 48271))]), (.op .mul [(.var 4), (.lit (.int 69621))])]), (.lit (.int 12345))])]), (.lit (.int 2147483647))]), .set (.name 7) (.op .mod [(.op .int [(.op .add [(.op .mul [(.var 7), (.lit (.int 69621))]), (.op .fdiv [(.var 7), (.lit (.int 1009))])])]), (.lit (.int 1000003))]), .app (.var 3) (.op .mod [(.op .int [(.var 7)]), (.lit (.int 4096))])] []]]
def c__law_numbers : List CS := [.set (.name 3) (.lstR []), c__law_numbers_L2, .ret (.frz (.var 3))]
abbrev i__law_numbers : Nat := 7
def p__law_numbers : DefP := ⟨["_law_script", "_law_first", "_law_most", "_law_found", "_law_at", "_law_cell_here", "_law_k", "_law_mixed"], 3, c__law_numbers⟩
def c__law_any_kind : List CS := [.set (.name 2) (.op .mod [(.op .int [(.var 0)]), (.lit (.int 6))]), .ite (.or_ (.op .eq [(.var 1), (.lit (.int 0))]) (.op .lt [(.var 2), (.lit (.int 2))])) [.ret (.tup [(.lit (.str "int"))])] [], .ite (.op .eq [(.var 2), (.lit (.int 2))]) [.ret (.tup [(.lit (.str "bang")), (.call 8 [(.op .fdiv [(.var 0), (.lit (.int 6))]), (.op .sub [(.var 1), (.lit (.int 1))])])])] [], .set (.name 3) (.call 8 [(.op .fdiv [(.var 0), (.lit (.int 6))]), (.op .sub [(.var 1), (.lit (.int 1))])]), .set (.name 4) (.call 8 [(.op .fdiv [(.var 0), (.lit (.int 216))]), (.op .sub [(.var 1), (.lit (.int 1))])]), .ret (.tup [(.op .idx [(.lstV [(.lit (.str "fun")), (.lit (.str "fun")), (.lit (.str "pair"))]), (.op .sub [(.var 2), (.lit (.int 3))])]), (.var 3), (.var 4)])]
abbrev i__law_any_kind : Nat := 8
def p__law_any_kind : DefP := ⟨["_law_number", "_law_deep", "_law_pick", "_law_first", "_law_second"], 2, c__law_any_kind⟩
def c__law_pop : List CS := [.ite (.op .eq [(.var 0), (.lstV [])]) [.ret (.var 1)] [], .ret (.pop (.var 0))]
abbrev i__law_pop : Nat := 9
def p__law_pop : DefP := ⟨["_law_stack", "_law_other"], 2, c__law_pop⟩
def c__law_any_term_L1 : CS := .fr (.name 3) (.lst (.var 0)) [.set (.name 4) (.op .mod [(.op .int [(.var 3)]), (.lit (.int 10))]), .set (.name 5) (.op .fdiv [(.op .int [(.var 3)]), (.lit (.int 10))]), .set (.name 6) (.op .idx [(.var 1), (.op .mod [(.var 5), (.op .len [(.var 1)])])]), .set (.name 7) (.op .idx [(.var 1), (.op .mod [(.op .add [(.op .mod [(.var 5), (.op .len [(.var 1)])]), (.lit (.int 1))]), (.op .len [(.var 1)])])]), .set (.name 8) (.tup [(.lit (.str "var")), (.var 6)]), .ite (.op .lt [(.var 4), (.lit (.int 2))]) [.app (.var 2) (.var 8)] [.ite (.op .eq [(.var 4), (.lit (.int 2))]) [.app (.var 2) (.tup [(.lit (.str "num")), (.op .mul [(.op .mul [(.var 5), (.var 5)]), (.op .add [(.lit (.int 1)), (.op .mod [(.var 5), (.lit (.int 5))])])])])] [.ite (.op .eq [(.var 4), (.lit (.int 5))]) [.app (.var 2) (.tup [(.lit (.str "lam")), (.var 6), (.call 8 [(.var 5), (.lit (.int 3))]), (.call 9 [(.var 2), (.var 8)])])] [.ite (.op .eq [(.var 4), (.lit (.int 6))]) [.app (.var 2) (.tup [(.lit (.str "box")), (.call 9 [(.var 2), (.var 8)])])] [.set (.name 9) (.call 9 [(.var 2), (.var 8)]), .set (.name 10) (.call 9 [(.var 2), (.var 8)]), .ite (.op .eq [(.var 4), (.lit (.int 3))]) [.app (.var 2) (.tup [(.lit (.str "op")), (.op .idx [(.lit (.str "+-*")), (.op .mod [(.var 5), (.lit (.int 3))])]), (.var 10), (.var 9)])] [.ite (.op .eq [(.var 4), (.lit (.int 4))]) [.app (.var 2) (.tup [(.lit (.str "app")), (.var 10), (.var 9)])] [.ite (.op .eq [(.var 4), (.lit (.int 7))]) [.app (.var 2) (.tup [(.lit (.str "let")), (.var 6), (.var 10), (.var 9)])] [.ite (.op .eq [(.var 4), (.lit (.int 8))]) [.app (.var 2) (.tup [(.lit (.str "pair")), (.var 10), (.var 9)])] [.app (.var 2) (.tup [(.lit (.str "split")), (.var 6), (.var 7), (.var 10), (.var 9)])]]]]]]]]]
def c__law_any_term : List CS := [.set (.name 2) (.lstR []), c__law_any_term_L1, .ite (.op .eq [(.var 2), (.lstV [])]) [.ret (.tup [(.lit (.str "num")), (.lit (.int 0))])] [], .ret (.pop (.var 2))]
abbrev i__law_any_term : Nat := 10
def p__law_any_term : DefP := ⟨["_law_numbers_here", "_law_names_here", "_law_stack", "_law_number", "_law_pick", "_law_rest", "_law_name_here", "_law_second", "_law_leaf", "_law_right", "_law_left"], 2, c__law_any_term⟩
def c__law_parts : List CS := [.ite (.op .isin [(.op .idx [(.var 0), (.lit (.int 0))]), (.tup [(.lit (.str "var")), (.lit (.str "num"))])]) [.ret (.lstV [])] [], .ite (.op .isin [(.op .idx [(.var 0), (.lit (.int 0))]), (.tup [(.lit (.str "app")), (.lit (.str "pair"))])]) [.ret (.lstV [(.op .idx [(.var 0), (.lit (.int 1))]), (.op .idx [(.var 0), (.lit (.int 2))])])] [], .ite (.op .eq [(.op .idx [(.var 0), (.lit (.int 0))]), (.lit (.str "box"))]) [.ret (.lstV [(.op .idx [(.var 0), (.lit (.int 1))])])] [], .ite (.op .eq [(.op .idx [(.var 0), (.lit (.int 0))]), (.lit (.str "lam"))]) [.ret (.lstV [(.op .idx [(.var 0), (.lit (.int 3))])])] [], .ite (.op .eq [(.op .idx [(.var 0), (.lit (.int 0))]), (.lit (.str "split"))]) [.ret (.lstV [(.op .idx [(.var 0), (.lit (.int 3))]), (.op .idx [(.var 0), (.lit (.int 4))])])] [], .ret (.lstV [(.op .idx [(.var 0), (.lit (.int 2))]), (.op .idx [(.var 0), (.lit (.int 3))])])]
abbrev i__law_parts : Nat := 11
def p__law_parts : DefP := ⟨["_law_term"], 1, c__law_parts⟩
def c__law_free_L1 : CS := .fr (.name 3) (.lst (.call 11 [(.var 0)])) [.set (.name 2) (.op .add [(.var 2), (.call 12 [(.var 3), (.var 1)])])]
def c__law_free : List CS := [.ite (.op .eq [(.op .idx [(.var 0), (.lit (.int 0))]), (.lit (.str "var"))]) [.ret (.ife (.op .isin [(.op .idx [(.var 0), (.lit (.int 1))]), (.var 1)]) (.lstV []) (.lstV [(.op .idx [(.var 0), (.lit (.int 1))])]))] [], .ite (.op .eq [(.op .idx [(.var 0), (.lit (.int 0))]), (.lit (.str "lam"))]) [.ret (.call 12 [(.op .idx [(.var 0), (.lit (.int 3))]), (.op .add [(.var 1), (.lstV [(.op .idx [(.var 0), (.lit (.int 1))])])])])] [], .ite (.op .eq [(.op .idx [(.var 0), (.lit (.int 0))]), (.lit (.str "let"))]) [.ret (.op .add [(.call 12 [(.op .idx [(.var 0), (.lit (.int 2))]), (.var 1)]), (.call 12 [(.op .idx [(.var 0), (.lit (.int 3))]), (.op .add [(.var 1), (.lstV [(.op .idx [(.var 0), (.lit (.int 1))])])])])])] [], .ite (.op .eq [(.op .idx [(.var 0), (.lit (.int 0))]), (.lit (.str "split"))]) [.ret (.op .add [(.call 12 [(.op .idx [(.var 0), (.lit (.int 3))]), (.var 1)]), (.call 12 [(.op .idx [(.var 0), (.lit (.int 4))]), (.op .add [(.var 1), (.lstV [(.op .idx [(.var 0), (.lit (.int 1))]), (.op .idx [(.var 0), (.lit (.int 2))])])])])])] [], .set (.name 2) (.lstV []), c__law_free_L1, .ret (.var 2)]
abbrev i__law_free : Nat := 12
def p__law_free : DefP := ⟨["_law_term", "_law_bound", "_law_found", "_law_part"], 2, c__law_free⟩
def c__law_put : List CS := [.set (.name 3) (.op .idx [(.var 0), (.lit (.int 0))]), .ite (.op .eq [(.var 3), (.lit (.str "var"))]) [.ite (.or_ (.op .isin [(.op .idx [(.var 0), (.lit (.int 1))]), (.var 2)]) (.din true (.op .idx [(.var 0), (.lit (.int 1))]) (.var 1))) [.ret (.var 0)] [], .ret (.dget (.var 1) (.op .idx [(.var 0), (.lit (.int 1))]))] [], .ite (.op .eq [(.var 3), (.lit (.str "num"))]) [.ret (.var 0)] [], .ite (.op .isin [(.var 3), (.tup [(.lit (.str "app")), (.lit (.str "pair"))])]) [.ret (.tup [(.var 3), (.call 13 [(.op .idx [(.var 0), (.lit (.int 1))]), (.var 1), (.var 2)]), (.call 13 [(.op .idx [(.var 0), (.lit (.int 2))]), (.var 1), (.var 2)])])] [], .ite (.op .eq [(.var 3), (.lit (.str "op"))]) [.ret (.tup [(.var 3), (.op .idx [(.var 0), (.lit (.int 1))]), (.call 13 [(.op .idx [(.var 0), (.lit (.int 2))]), (.var 1), (.var 2)]), (.call 13 [(.op .idx [(.var 0), (.lit (.int 3))]), (.var 1), (.var 2)])])] [], .ite (.op .eq [(.var 3), (.lit (.str "box"))]) [.ret (.tup [(.var 3), (.call 13 [(.op .idx [(.var 0), (.lit (.int 1))]), (.var 1), (.var 2)])])] [], .ite (.op .eq [(.var 3), (.lit (.str "lam"))]) [.ret (.tup [(.var 3), (.op .idx [(.var 0), (.lit (.int 1))]), (.op .idx [(.var 0), (.lit (.int 2))]), (.call 13 [(.op .idx [(.var 0), (.lit (.int 3))]), (.var 1), (.op .add [(.var 2), (.lstV [(.op .idx [(.var 0), (.lit (.int 1))])])])])])] [], .ite (.op .eq [(.var 3), (.lit (.str "let"))]) [.ret (.tup [(.var 3), (.op .idx [(.var 0), (.lit (.int 1))]), (.call 13 [(.op .idx [(.var 0), (.lit (.int 2))]), (.var 1), (.var 2)]), (.call 13 [(.op .idx [(.var 0), (.lit (.int 3))]), (.var 1), (.op .add [(.var 2), (.lstV [(.op .idx [(.var 0), (.lit (.int 1))])])])])])] [], .ret (.tup [(.var 3), (.op .idx [(.var 0), (.lit (.int 1))]), (.op .idx [(.var 0), (.lit (.int 2))]), (.call 13 [(.op .idx [(.var 0), (.lit (.int 3))]), (.var 1), (.var 2)]), (.call 13 [(.op .idx [(.var 0), (.lit (.int 4))]), (.var 1), (.op .add [(.var 2), (.lstV [(.op .idx [(.var 0), (.lit (.int 1))]), (.op .idx [(.var 0), (.lit (.int 2))])])])])])]
abbrev i__law_put : Nat := 13
def p__law_put : DefP := ⟨["_law_term", "_law_known", "_law_bound", "_law_head"], 3, c__law_put⟩
def c_law_L1 : CS := .fr (.name 14) (.lst (.op .sortS [(.call 12 [(.var 13), (.lstV [])])])) [.ite (.op .isin [(.var 14), (.tup [(.lit (.str "own")), (.lit (.str "self"))])]) [.set (.name 13) (.tup [(.lit (.str "lam")), (.var 14), (.tup [(.lit (.str "int"))]), (.var 13)])] []]
def c_law_L2 : CS := .fr (.name 5) (.range [(.op .len [(.var 2)])]) [.set (.name 12) (.op .add [(.slc (.var 2) [] [(.var 5)]), (.lstV [(.lit (.str "own"))])]), .ite (.op .eq [(.op .mod [(.op .fdiv [(.var 1), (.lit (.int 25))]), (.lit (.int 4))]), (.lit (.int 1))]) [.set (.name 12) (.op .add [(.var 2), (.lstV [(.lit (.str "own"))])])] [], .ite (.op .eq [(.op .len [(.var 12)]), (.lit (.int 1))]) [.set (.name 12) (.op .add [(.var 12), (.lstV [(.lit (.str "self"))])])] [], .set (.name 13) (.call 10 [(.slc (.var 3) [(.op .mul [(.lit (.int 8)), (.var 5)])] [(.op .add [(.op .mul [(.lit (.int 8)), (.var 5)]), (.lit (.int 8))])]), (.var 12)]), .ite (.op .ne [(.op .mod [(.op .fdiv [(.var 1), (.lit (.int 25))]), (.lit (.int 4))]), (.lit (.int 2))]) [c_law_L1] [], .app (.var 4) (.tup [(.op .idx [(.var 2), (.var 5)]), (.tup [(.lit (.str "int"))]), (.var 13)])]
def c_law_L3 : CS := .fr (.name 14) (.lst (.call 12 [(.op .idx [(.var 8), (.lit (.int 2))]), (.lstV [])])) [.ite (.and_ (.op .isN [(.var 7)]) (.din true (.var 14) (.var 6))) [.set (.name 7) (.var 14)] []]
def c_law_L4 : CS := .fr (.name 8) (.lst (.frz (.var 4))) [c_law_L3, .dput (.var 6) (.op .idx [(.var 8), (.lit (.int 0))]) (.call 13 [(.op .idx [(.var 8), (.lit (.int 2))]), (.var 6), (.lstV [])])]
def c_law_L5 : CS := .tri [.set (.name 15) (.call 5 [(.var 10), (.var 9)])] 11 1 [([(.not_ (.exIs 0))], (.lit (.bool false))), ([(.op .eq [(.var 9), (.lit (.str "own"))])], (.op .eq [(.exF "name"), (.lit (.str "own"))])), ([], (.op .eq [(.exF "name"), (.var 7)]))]
def c_law : List CS := [.set (.name 1) (.op .abs [(.call 6 [(.var 0), (.lit (.int 0))])]), .set (.name 2) (.slc (.lstV [(.lit (.str "one")), (.lit (.str "two")), (.lit (.str "three")), (.lit (.str "four")), (.lit (.str "five"))]) [] [(.op .add [(.lit (.int 1)), (.op .mod [(.var 1), (.lit (.int 5))])])]), .set (.name 3) (.call 7 [(.var 0), (.lit (.int 1)), (.lit (.int 40))]), .set (.name 4) (.lstR []), c_law_L2, .set (.name 6) .dnew, .set (.name 7) (.lit .none), c_law_L4, .set (.name 9) (.op .idx [(.op .add [(.var 2), (.lstV [(.lit (.str "own"))])]), (.op .mod [(.op .fdiv [(.var 1), (.lit (.int 5))]), (.op .add [(.op .len [(.var 2)]), (.lit (.int 1))])])]), .set (.name 10) (.op .toLst [(.var 4)]), c_law_L5, .ret (.and_ (.op .ne [(.var 9), (.lit (.str "own"))]) (.and_ (.op .isN [(.var 7)]) (.and_ (.op .eq [(.var 15), (.dget (.var 6) (.var 9))]) (.op .eq [(.var 10), (.var 4)]))))]
abbrev i_law : Nat := 14
def p_law : DefP := ⟨["_law_script", "_law_digit", "_law_names_here", "_law_numbers_here", "_law_program", "_law_k", "_law_known", "_law_unknown", "_law_one", "_law_wanted", "_law_handed", "e", "_law_menu", "_law_term", "_law_name_here", "_law_found"], 1, c_law⟩
def d_UnknownName___init__ : He.DefD := ⟨("UnknownName", some "__init__"), "__init__", "UnknownName.__init__", defArgs (sub 2 0), defBody (sub 2 0), defScope (sub 2 0), [], []⟩
def d_parts_of : He.DefD := ⟨("parts_of", none), "parts_of", "parts_of", defArgs (top 4), defBody (top 4), defScope (top 4), [], []⟩
def d_free_occurrences : He.DefD := ⟨("free_occurrences", none), "free_occurrences", "free_occurrences", defArgs (top 5), defBody (top 5), defScope (top 5), [], []⟩
def d_replaced : He.DefD := ⟨("replaced", none), "replaced", "replaced", defArgs (top 7), defBody (top 7), defScope (top 7), [], []⟩
def d_linked_terms : He.DefD := ⟨("linked_terms", none), "linked_terms", "linked_terms", defArgs (top 8), defBody (top 8), defScope (top 8), [], []⟩
def d_linked : He.DefD := ⟨("linked", none), "linked", "linked", defArgs (top 9), defBody (top 9), defScope (top 9), [], []⟩
def d__law_cell : He.DefD := ⟨("_law_cell", none), "_law_cell", "_law_cell", defArgs (top 12), defBody (top 12), defScope (top 12), [], []⟩
def d__law_numbers : He.DefD := ⟨("_law_numbers", none), "_law_numbers", "_law_numbers", defArgs (top 13), defBody (top 13), defScope (top 13), [], []⟩
def d__law_any_kind : He.DefD := ⟨("_law_any_kind", none), "_law_any_kind", "_law_any_kind", defArgs (top 15), defBody (top 15), defScope (top 15), [], []⟩
def d__law_pop : He.DefD := ⟨("_law_pop", none), "_law_pop", "_law_pop", defArgs (top 16), defBody (top 16), defScope (top 16), [], []⟩
def d__law_any_term : He.DefD := ⟨("_law_any_term", none), "_law_any_term", "_law_any_term", defArgs (top 17), defBody (top 17), defScope (top 17), [], []⟩
def d__law_parts : He.DefD := ⟨("_law_parts", none), "_law_parts", "_law_parts", defArgs (top 19), defBody (top 19), defScope (top 19), [], []⟩
def d__law_free : He.DefD := ⟨("_law_free", none), "_law_free", "_law_free", defArgs (top 20), defBody (top 20), defScope (top 20), [], []⟩
def d__law_put : He.DefD := ⟨("_law_put", none), "_law_put", "_law_put", defArgs (top 21), defBody (top 21), defScope (top 21), [], []⟩
def d_law : He.DefD := ⟨("law", none), "law", "law", defArgs (top 22), defBody (top 22), defScope (top 22), [], []⟩
def tabF : List (Str × Nat × Nat) := ("law", 14, 1) :: ("free_occurrences", 2, 2) :: ("parts_of", 1, 1) :: ("replaced", 3, 3) :: ("linked_terms", 4, 1) :: ("_law_any_kind", 8, 2) :: ("_law_pop", 9, 2) :: ("_law_free", 12, 2) :: ("_law_parts", 11, 1) :: ("_law_put", 13, 3) :: ("_law_cell", 6, 2) :: ("_law_numbers", 7, 3) :: ("_law_any_term", 10, 2) :: ("linked", 5, 2) :: []
def tab : Tab := ⟨[], tabF, [], [], [("SharenetError", 1)], ["len", "range", "abs", "int", "sorted", "list", "isinstance"], false, [("UnknownName", 0, 0, "name")]⟩
def pgm : Pg := ⟨[p_UnknownName___init__, p_parts_of, p_free_occurrences, p_replaced, p_linked_terms, p_linked, p__law_cell, p__law_numbers, p__law_any_kind, p__law_pop, p__law_any_term, p__law_parts, p__law_free, p__law_put, p_law], [], [], 1000000000, [(0, 1, true), (0, 0, true)], [(0, "name")]⟩
def spc : Spc := ⟨tab, pgm, [d_UnknownName___init__, d_parts_of, d_free_occurrences, d_replaced, d_linked_terms, d_linked, d__law_cell, d__law_numbers, d__law_any_kind, d__law_pop, d__law_any_term, d__law_parts, d__law_free, d__law_put, d_law], ["UnknownName", "SharenetError"], 60⟩
theorem spc_ok : spc.ok = true := by decide +kernel
theorem b_UnknownName___init__ : BindOk d_UnknownName___init__ := bindOk_of (ps := ["self", "name"]) (by kernel_rfl) fun _ _ _ _ _ _ us hl => match us, hl with
  | [_, _], _ => rfl
theorem b_parts_of : BindOk d_parts_of := bindOk_of (ps := ["term"]) (by kernel_rfl) fun _ _ _ _ _ _ us hl => match us, hl with
  | [_], _ => rfl
theorem b_free_occurrences : BindOk d_free_occurrences := bindOk_of (ps := ["term", "bound"]) (by kernel_rfl) fun _ _ _ _ _ _ us hl => match us, hl with
  | [_, _], _ => rfl
theorem b_replaced : BindOk d_replaced := bindOk_of (ps := ["term", "terms", "bound"]) (by kernel_rfl) fun _ _ _ _ _ _ us hl => match us, hl with
  | [_, _, _], _ => rfl
theorem b_linked_terms : BindOk d_linked_terms := bindOk_of (ps := ["program"]) (by kernel_rfl) fun _ _ _ _ _ _ us hl => match us, hl with
  | [_], _ => rfl
theorem b_linked : BindOk d_linked := bindOk_of (ps := ["program", "name"]) (by kernel_rfl) fun _ _ _ _ _ _ us hl => match us, hl with
  | [_, _], _ => rfl
theorem b__law_cell : BindOk d__law_cell := bindOk_of (ps := ["_law_script", "_law_k"]) (by kernel_rfl) fun _ _ _ _ _ _ us hl => match us, hl with
  | [_, _], _ => rfl
theorem b__law_numbers : BindOk d__law_numbers := bindOk_of (ps := ["_law_script", "_law_first", "_law_most"]) (by kernel_rfl) fun _ _ _ _ _ _ us hl => match us, hl with
  | [_, _, _], _ => rfl
theorem b__law_any_kind : BindOk d__law_any_kind := bindOk_of (ps := ["_law_number", "_law_deep"]) (by kernel_rfl) fun _ _ _ _ _ _ us hl => match us, hl with
  | [_, _], _ => rfl
theorem b__law_pop : BindOk d__law_pop := bindOk_of (ps := ["_law_stack", "_law_other"]) (by kernel_rfl) fun _ _ _ _ _ _ us hl => match us, hl with
  | [_, _], _ => rfl
theorem b__law_any_term : BindOk d__law_any_term := bindOk_of (ps := ["_law_numbers_here", "_law_names_here"]) (by kernel_rfl) fun _ _ _ _ _ _ us hl => match us, hl with
  | [_, _], _ => rfl
theorem b__law_parts : BindOk d__law_parts := bindOk_of (ps := ["_law_term"]) (by kernel_rfl) fun _ _ _ _ _ _ us hl => match us, hl with
  | [_], _ => rfl
theorem b__law_free : BindOk d__law_free := bindOk_of (ps := ["_law_term", "_law_bound"]) (by kernel_rfl) fun _ _ _ _ _ _ us hl => match us, hl with
  | [_, _], _ => rfl
theorem b__law_put : BindOk d__law_put := bindOk_of (ps := ["_law_term", "_law_known", "_law_bound"]) (by kernel_rfl) fun _ _ _ _ _ _ us hl => match us, hl with
  | [_, _, _], _ => rfl
theorem b_law : BindOk d_law := bindOk_of (ps := ["_law_script"]) (by kernel_rfl) fun _ _ _ _ _ _ us hl => match us, hl with
  | [_], _ => rfl
theorem binds : AllBind spc.ds := ⟨b_UnknownName___init__, b_parts_of, b_free_occurrences, b_replaced, b_linked_terms, b_linked, b__law_cell, b__law_numbers, b__law_any_kind, b__law_pop, b__law_any_term, b__law_parts, b__law_free, b__law_put, b_law, trivial⟩
def loose0 : List PySem.Str := ["SharenetError", "UnknownName", "parts_of", "free_occurrences", "replaced", "linked_terms", "linked", "_law_is_integer", "_law_cell", "_law_numbers", "_law_name", "_law_any_kind", "_law_pop", "_law_any_term", "_law_names", "_law_parts", "_law_free", "_law_put"]
def looseN : List PySem.Str := loose0
abbrev R : PySem.W.OpenRow := PySem.W.OpenLaw.row PySem.Challenge.rw_sharenet_k09_linking
abbrev hk : PySem.W.Hook := hookV 5 spc
def ob (s : PySem.W.SharedT) : He.AlD × Bool := obsVG 5 spc (HandSHeadRun.getT s)
theorem ob_eq (s : PySem.W.SharedT) : ob s = hk.obs s.abs := obsVG_eq (HandSHeadRun.getT_eq s)
theorem run (w : World) : HandSHeadRun.RunEq R (PySem.W.view R.prog [22]) hk ob 4000 looseN w := by
  intro os
  kernel_rfl
abbrev lawIx : Nat := 14
end K09
open PySem PySem.W PySem.Calls PyProof.Rows in
theorem holds_k09 (hw : PV.Wanted K09.spc K09.lawIx 600) : PySem.Challenge.rw_sharenet_k09_linking.Holds := by
  w_on; o_law
  refine HandSHeadRun.head_any (r := OpenLaw.row PySem.Challenge.rw_sharenet_k09_linking) (q := view (OpenLaw.row PySem.Challenge.rw_sharenet_k09_linking).prog [22]) (H := K09.hk) (ob := K09.ob) (M := 4000) (loose := K09.looseN) (d := HandSHeadRun.topDef (OpenLaw.row PySem.Challenge.rw_sharenet_k09_linking).prog 22) (kwd := []) K09.ob_eq
    (by kernel_rfl) (fun s => by kernel_rfl) K09.run (by kernel_rfl) (by kernel_rfl) (by kernel_rfl) (by rfl) (by first | assumption | decide +kernel) (by decide +kernel) ⟨rfl, rfl, rfl, rfl, rfl, by decide +kernel⟩ ?hw ?hc
  case hw => w_witness2
  case hc =>
    refine L2.walk_ofE (l := PySem.Challenge.rw_sharenet_k09_linking) (n := 63) (k := 231) (x := "_law_script") (CX := L2.CX0) rfl (by decide) (by kernel_rfl) ⟨rfl, by decide, by decide⟩ ?F (fun _ _ _ _ z => z)
    intro w mg fa h Y G hmg0
    obtain ⟨K, KX, c⟩ := Y
    have hmg : mg ("law" : PySem.Str) = some (.ref fa) := by
      have e : (HandSHeadRun.topDef (OpenLaw.row PySem.Challenge.rw_sharenet_k09_linking).prog 22).name = ("law" : PySem.Str) := by kernel_rfl
      rw [← e]
      exact hmg0
    obtain ⟨fd, hb, hF⟩ := PV.law_out (P := (PySem.Challenge.rw_sharenet_k09_linking).prog) (w := w) (S := K09.spc) (f := K09.lawIx) (m := 600) KX G K09.spc_ok K09.binds c (by decide +kernel) (by decide +kernel) (fun d e => by cases e; exact ⟨rfl, rfl⟩) (by decide +kernel) hmg (by decide +kernel) hw
    exact ⟨K, fd, PV.spLaw K, KX, hb, fun H a ns hl _ hS => ⟨a, ns, rfl, hl, hS, fun _ => rfl⟩, hF⟩

namespace K09
open PySem L2 PV
theorem a_cell (m : Nat) (ns : List Int) (k : Nat) : ∃ c, Ans pgm (m + 1) i__law_cell [scrD ns, .int k] (.int c) := by
  by_cases h : k < ns.length
  · refine ⟨ns[k], [], ?_⟩
    rw [call_eq (d := p__law_cell) [] rfl rfl]
    have h1 : (k : Int) < (ns.length : Int) := by omega
    simp -implicitDefEqProofs [p__law_cell, c__law_cell, startE, h1, atN, h]
  · refine ⟨0, [], ?_⟩
    rw [call_eq (d := p__law_cell) [] rfl rfl]
    have h1 : ¬ (k : Int) < (ns.length : Int) := by omega
    simp -implicitDefEqProofs [p__law_cell, c__law_cell, startE, h1]
/-- the numbers found so far -/
def NumL (most : Nat) (xs : List PyData) : Prop := xs.length ≤ most ∧ ∀ x ∈ xs, ∃ i : Int, x = .int i ∧ 0 ≤ i ∧ i < 4096
theorem NumL.add {most : Nat} {xs : List PyData} {i : Int} (h : NumL most xs) (h1 : xs.length < most) (h0 : 0 ≤ i) (h2 : i < 4096) : NumL most (xs ++ [.int i]) := by
  refine ⟨by simp; omega, fun x m => ?_⟩
  rcases List.mem_append.mp m with m | m
  · exact h.2 x m
  · simp at m
    exact ⟨i, m, h0, h2⟩
def NumI (ns : List Int) (first most : Nat) (env : Ev) (st : Sto) : Prop := ∃ (a b c d : Option Sv) (xs : List PyData), env = [some (.d (scrD ns)), some (.d (.int first)), some (.d (.int most)), some (.r 0), a, b, c, d] ∧ st = [.lst (xs.map .d)] ∧ NumL most xs
theorem l_num1 (m : Nat) (ns : List Int) (first most : Nat) (hm : most ≤ 1000) (env : Ev) (st : Sto) (h : NumI ns first most env st) (hc : ∃ c : Int, env[5]? = some (some (.d (.int c))) ∧ 0 ≤ c) : ∃ env' st', evS (ctxN pgm m) pgm.wf c__law_numbers_L1 env st = .next env' st' ∧ NumI ns first most env' st' := by
  have hr : evI (ctxN pgm m) (.range [(.lit (.int 60))]) env st = .ok (rangeD 0 60) st := by
    simp
    exact rng1 (by decide) (by decide) st
  obtain ⟨env', st', e, ⟨h1, _⟩⟩ := fr_run (t := .name 6) (wf := pgm.wf) (b := [.ite (.and_ (.op .gt [(.var 5), (.lit (.int 0))]) (.op .lt [(.op .len [(.var 3)]), (.var 2)])) [.app (.var 3) (.op .mod [(.op .int [(.var 5)]), (.lit (.int 4096))]), .set (.name 5) (.op .fdiv [(.var 5), (.lit (.int 4096))])] []]) hr (fun _ env st => NumI ns first most env st ∧ ∃ c : Int, env[5]? = some (some (.d (.int c))) ∧ 0 ≤ c) ⟨h, hc⟩ (by
    rintro i x env st _ ⟨⟨a, b, c, d, xs, rfl, rfl, hx⟩, c', hc1, hc0⟩
    simp at hc1
    subst hc1
    refine ⟨_, _, rfl, ?_⟩
    by_cases q : 0 < c' ∧ (xs.length : Int) < (most : Int)
    · refine ⟨[some (.d (scrD ns)), some (.d (.int first)), some (.d (.int most)), some (.r 0), a, some (.d (.int (c' / 4096))), some (.d x), d], [.lst ((xs ++ [PyData.int (c' % 4096)]).map .d)], .inl (by simp -implicitDefEqProofs [q.1, q.2, p_modi, p_fdivi, show xs.length < 1000000 by have := hx.1; omega]), ⟨a, _, _, d, _, rfl, rfl, hx.add (by omega) (by omega) (by omega)⟩, c' / 4096, rfl, by omega⟩
    · refine ⟨[some (.d (scrD ns)), some (.d (.int first)), some (.d (.int most)), some (.r 0), a, some (.d (.int c')), some (.d x), d], [.lst (xs.map .d)], .inl ?_, ⟨a, _, _, d, xs, rfl, rfl, hx⟩, c', rfl, hc0⟩
      by_cases q2 : 0 < c'
      · have q3 : ¬ (xs.length : Int) < (most : Int) := fun z => q ⟨q2, z⟩
        simp -implicitDefEqProofs [q2, q3]
      · simp -implicitDefEqProofs [q2])
  exact ⟨env', st', e, h1⟩
theorem l_num2b (B c1 c2 c3 m1 m2 m3 : Int) (h1 : -(2 ^ 64) < c1) (h2 : c1 < 2 ^ 64) (h3 : -(2 ^ 64) < c2) (h4 : c2 < 2 ^ 64) (h5 : 0 < m1) (h6 : 0 < m2) (h7 : 0 < m3) (h8 : m3 < 1073741824) (m : Nat) (ns : List Int) (first most : Nat) (hn : ns.length ≤ 63) (hf : first ≤ 63) (hm : most ≤ 1000) : ∃ env' st', evS (ctxN pgm m) pgm.wf (.fr (.name 4) (.range [(.var 1), (.op .len [(.var 0)])]) [.set (.name 5) (.op .abs [(.op .idx [(.var 0), (.var 4)])]), .ite (.op .ge [(.var 5), (.lit (.int B))]) [c__law_numbers_L1] [.ite (.op .lt [(.op .len [(.var 3)]), (.var 2)]) [.set (.name 7) (.op .mod [(.op .int [(.op .add [(.op .add [(.op .mul [(.var 5), (.lit (.int c1))]), (.op .mul [(.var 4), (.lit (.int c2))])]), (.lit (.int c3))])]), (.lit (.int m1))]), .set (.name 7) (.op .mod [(.op .int [(.op .add [(.op .mul [(.var 7), (.lit (.int c2))]), (.op .fdiv [(.var 7), (.lit (.int m3))])])]), (.lit (.int m2))]), .app (.var 3) (.op .mod [(.op .int [(.var 7)]), (.lit (.int 4096))])] []]]) [some (.d (scrD ns)), some (.d (.int first)), some (.d (.int most)), some (.r 0), none, none, none, none] [.lst []] = .next env' st' ∧ NumI ns first most env' st' := by
  have hr : evI (ctxN pgm m) (.range [(.var 1), (.op .len [(.var 0)])]) [some (.d (scrD ns)), some (.d (.int first)), some (.d (.int most)), some (.r 0), none, none, none, none] [.lst []] = .ok (rangeD first (ns.length - first)) [.lst []] := by
    simp -implicitDefEqProofs [rng2n (a := first) (b := ns.length) (by omega) (by omega)]
  have w := fr_run (t := .name 4) (wf := pgm.wf) (b := [.set (.name 5) (.op .abs [(.op .idx [(.var 0), (.var 4)])]), .ite (.op .ge [(.var 5), (.lit (.int B))]) [c__law_numbers_L1] [.ite (.op .lt [(.op .len [(.var 3)]), (.var 2)]) [.set (.name 7) (.op .mod [(.op .int [(.op .add [(.op .add [(.op .mul [(.var 5), (.lit (.int c1))]), (.op .mul [(.var 4), (.lit (.int c2))])]), (.lit (.int c3))])]), (.lit (.int m1))]), .set (.name 7) (.op .mod [(.op .int [(.op .add [(.op .mul [(.var 7), (.lit (.int c2))]), (.op .fdiv [(.var 7), (.lit (.int m3))])])]), (.lit (.int m2))]), .app (.var 3) (.op .mod [(.op .int [(.var 7)]), (.lit (.int 4096))])] []]]) hr (fun _ env st => NumI ns first most env st) ⟨none, none, none, none, [], rfl, rfl, Nat.zero_le _, fun _ m => nomatch m⟩ (by
    rintro i x env st hi ⟨a, b, c, d, xs, rfl, rfl, hx⟩
    obtain ⟨hi1, hi2⟩ := rangeD_get hi
    have hlt : first + i < ns.length := by omega
    subst hi2
    have hx1 : (first : Int) + (i : Int) = ((first + i : Nat) : Int) := by omega
    have hat : atI (ns.map PyData.int) (((first + i : Nat) : Int)) = some (.int ns[first + i]) := by
      rw [atN]
      simp -implicitDefEqProofs [hlt]
    rw [hx1]
    generalize hk : first + i = k at *
    generalize hy : ns[k] = y at *
    refine ⟨_, _, rfl, ?_⟩
    by_cases q : B ≤ (y.natAbs : Int)
    · obtain ⟨env', st', e, hI⟩ := l_num1 m ns first most hm [some (.d (scrD ns)), some (.d (.int first)), some (.d (.int most)), some (.r 0), some (.d (.int k)), some (.d (.int (y.natAbs : Int))), c, d] [.lst (xs.map .d)] ⟨_, _, _, _, xs, rfl, rfl, hx⟩ ⟨_, rfl, by omega⟩
      exact ⟨env', st', .inl (by simp -implicitDefEqProofs [hat, p_absi, q, e]), hI⟩
    · by_cases q2 : (xs.length : Int) < (most : Int)
      · obtain ⟨z, hz⟩ : ∃ z : Int, z = ((y.natAbs : Int) * c1 + (k : Int) * c2 + c3) % m1 := ⟨_, rfl⟩
        obtain ⟨u, hu⟩ : ∃ u : Int, u = (z * c2 + z / m3) % m2 := ⟨_, rfl⟩
        refine ⟨[some (.d (scrD ns)), some (.d (.int first)), some (.d (.int most)), some (.r 0), some (.d (.int k)), some (.d (.int (y.natAbs : Int))), c, some (.d (.int u))], [.lst ((xs ++ [PyData.int (u % 4096)]).map .d)], .inl (by simp -implicitDefEqProofs [hat, p_absi, q, q2, p_modi h5, p_modi h6, p_modi, p_fdivi h7 h8, p_muli h1 h2, p_muli h3 h4, ← hz, ← hu, show xs.length < 1000000 by have := hx.1; omega]), ⟨_, _, _, _, _, rfl, rfl, hx.add (by omega) (by omega) (by omega)⟩⟩
      · exact ⟨[some (.d (scrD ns)), some (.d (.int first)), some (.d (.int most)), some (.r 0), some (.d (.int k)), some (.d (.int (y.natAbs : Int))), c, d], [.lst (xs.map .d)], .inl (by simp -implicitDefEqProofs [hat, p_absi, q, q2]), ⟨_, _, _, _, xs, rfl, rfl, hx⟩⟩)
  obtain ⟨env', st', e, h1⟩ := w
  exact ⟨env', st', e, h1⟩
theorem l_num2 (m : Nat) (ns : List Int) (first most : Nat) (hn : ns.length ≤ 63) (hf : first ≤ 63) (hm : most ≤ 1000) : ∃ env' st', evS (ctxN pgm m) pgm.wf c__law_numbers_L2 [some (.d (scrD ns)), some (.d (.int first)), some (.d (.int most)), some (.r 0), none, none, none, none] [.lst []] = .next env' st' ∧ NumI ns first most env' st' := by
  rw [c__law_numbers_L2]
  exact l_num2b 1000000000000000000 48271 69621 12345 2147483647 1000003 1009 (by decide) (by decide) (by decide) (by decide) (by decide) (by decide) (by decide) (by decide) m ns first most hn hf hm
theorem a_numbers (m : Nat) (ns : List Int) (first most : Nat) (hn : ns.length ≤ 63) (hf : first ≤ 63) (hm : most ≤ 1000) : ∃ xs, Ans pgm (m + 1) i__law_numbers [scrD ns, .int first, .int most] (.list xs) ∧ NumL most xs := by
  obtain ⟨env', st', e, a, b, c, d, xs, rfl, rfl, hx⟩ := l_num2 m ns first most hn hf hm
  refine ⟨xs, ⟨[.frz xs], ?_⟩, hx⟩
  rw [call_eq (d := p__law_numbers) [] rfl rfl]
  simp -implicitDefEqProofs [p__law_numbers, c__law_numbers, startE, e]

theorem a_kind : ∀ (deep m : Nat) (n : Int), 0 ≤ n → ∃ k : Kd, Ans pgm (m + deep + 1) i__law_any_kind [.int n, .int deep] k.d ∧ k.dp ≤ deep + 1
  | 0, m, n, hn => ⟨.int, ⟨[], by
      rw [call_eq (d := p__law_any_kind) [] rfl rfl]
      simp -implicitDefEqProofs [p__law_any_kind, c__law_any_kind, startE, p_modi, Kd.d]⟩, Nat.le_refl 1⟩
  | d + 1, m, n, hn => by
    obtain ⟨k1, a1, b1⟩ := a_kind d m (n / 6) (by omega)
    obtain ⟨k2, a2, b2⟩ := a_kind d m (n / 216) (by omega)
    have h0 : ¬ ((d : Int) + 1 = 0) := by omega
    have e1 : (d : Int) + 1 - 1 = d := by omega
    rw [show m + (d + 1) + 1 = (m + d + 1) + 1 by omega]
    have hp : n % 6 = 0 ∨ n % 6 = 1 ∨ n % 6 = 2 ∨ n % 6 = 3 ∨ n % 6 = 4 ∨ n % 6 = 5 := by omega
    rcases hp with hp | hp | hp | hp | hp | hp
    · refine ⟨.int, ⟨[], ?_⟩, by simp [Kd.dp]⟩
      rw [call_eq (d := p__law_any_kind) [] rfl rfl]
      simp -implicitDefEqProofs [p__law_any_kind, c__law_any_kind, startE, p_modi, Kd.d, h0, hp]
    · refine ⟨.int, ⟨[], ?_⟩, by simp [Kd.dp]⟩
      rw [call_eq (d := p__law_any_kind) [] rfl rfl]
      simp -implicitDefEqProofs [p__law_any_kind, c__law_any_kind, startE, p_modi, Kd.d, h0, hp]
    · refine ⟨.bang k1, ⟨[], ?_⟩, by simp [Kd.dp]; omega⟩
      rw [call_eq (d := p__law_any_kind) [] rfl rfl]
      simp -implicitDefEqProofs [p__law_any_kind, c__law_any_kind, startE, p_modi, p_fdivi, Kd.d, h0, hp, e1, call2 a1]
    · refine ⟨.fn k1 k2, ⟨[], ?_⟩, by simp [Kd.dp]; omega⟩
      rw [call_eq (d := p__law_any_kind) [] rfl rfl]
      simp -implicitDefEqProofs [p__law_any_kind, c__law_any_kind, startE, p_modi, p_fdivi, Kd.d, h0, hp, e1, call2 a1, call2 a2]
    · refine ⟨.fn k1 k2, ⟨[], ?_⟩, by simp [Kd.dp]; omega⟩
      rw [call_eq (d := p__law_any_kind) [] rfl rfl]
      simp -implicitDefEqProofs [p__law_any_kind, c__law_any_kind, startE, p_modi, p_fdivi, Kd.d, h0, hp, e1, call2 a1, call2 a2]
    · refine ⟨.pair k1 k2, ⟨[], ?_⟩, by simp [Kd.dp]; omega⟩
      rw [call_eq (d := p__law_any_kind) [] rfl rfl]
      simp -implicitDefEqProofs [p__law_any_kind, c__law_any_kind, startE, p_modi, p_fdivi, Kd.d, h0, hp, e1, call2 a1, call2 a2]
theorem a_pop (m : Nat) (ts : List Tm) (o : Tm) (h : ∀ d ∈ ts.map Tm.d, d.canLay0 = true ∧ d.depth ≤ 63) : callN pgm (m + 1) i__law_pop [.r 0, .d o.d] [.lst ((ts.map Tm.d).map .d)] = .ok (.d (lastT ts o).d) [.lst ((ts.dropLast.map Tm.d).map .d)] := by
  rw [call_eq (d := p__law_pop) _ rfl rfl]
  have q := p_eqnil h
  have hv : view [.lst ((ts.map Tm.d).map .d)] (.r 0) = some (.list (ts.map Tm.d)) := view_lst rfl
  rcases snoc_or ts with rfl | ⟨r, t, rfl⟩
  · simp -implicitDefEqProofs only [List.map_nil] at q hv ⊢
    simp -implicitDefEqProofs [p__law_pop, c__law_pop, startE, hv, q, lastT]
  · have e1 : (((r ++ [t]).map Tm.d).map Sv.d)[(((r ++ [t]).map Tm.d).map Sv.d).length - 1]? = some (.d t.d) := by simp only [List.map_append, List.map_cons, List.map_nil, List.length_append, List.length_map, List.length_cons, List.length_nil]; simp
    have e2 : (((r ++ [t]).map Tm.d).map Sv.d).dropLast = (r.map Tm.d).map Sv.d := by simp only [List.map_append, List.map_cons, List.map_nil, List.dropLast_concat]
    have e3 : ((r ++ [t]).map Tm.d).isEmpty = false := by simp
    have e4 : lastT (r ++ [t]) o = t := by unfold lastT; rw [List.getLastD_concat]
    rw [e4, List.dropLast_concat]
    rw [e3] at q
    generalize (r ++ [t]).map Tm.d = ds at *
    generalize ds.map Sv.d = X at *
    simp -implicitDefEqProofs [p__law_pop, c__law_pop, startE, hv, q, e1, e2]

/-- the names that a term is made of -/
def NamesL (zs : List Str) : Prop := 2 ≤ zs.length ∧ ∀ z ∈ zs, Gd 24 z
theorem names_at {zs : List Str} (h : NamesL zs) (i : Int) : ∃ z, atI (zs.map PyData.str) (i % (zs.length : Int)) = some (.str z) ∧ Gd 24 z := by
  have hl := h.1
  obtain ⟨x, e, m, _⟩ := atI_get (xs := zs.map PyData.str) (i := i % (zs.length : Int)) (Int.emod_nonneg _ (by omega)) (by rw [List.length_map]; exact Int.emod_lt_of_pos _ (by omega))
  obtain ⟨z, mz, rfl⟩ := List.mem_map.mp m
  exact ⟨z, e, h.2 z mz⟩
theorem l_term (m : Nat) (zs : List Str) (hz : NamesL zs) (xs : List PyData) (hx : NumL 40 xs) : ∃ env' st', evS (ctxN pgm (m + 4)) pgm.wf c__law_any_term_L1 [some (.d (.list xs)), some (.d (.list (zs.map .str))), some (.r 0), none, none, none, none, none, none, none, none] [.lst []] = .next env' st' ∧
    ∃ (ts : List Tm) (a b c d e f g h : Option Sv), env' = [some (.d (.list xs)), some (.d (.list (zs.map .str))), some (.r 0), a, b, c, d, e, f, g, h] ∧ st' = [.lst ((ts.map Tm.d).map .d)] ∧ Stk xs.length ts := by
  rw [c__law_any_term_L1]
  have hr : evI (ctxN pgm (m + 4)) (.lst (.var 0)) [some (.d (.list xs)), some (.d (.list (zs.map .str))), some (.r 0), none, none, none, none, none, none, none, none] [.lst []] = .ok xs [.lst []] := by simp -implicitDefEqProofs
  refine fr_run hr (fun i env' st' => ∃ (ts : List Tm) (a b c d e f g h : Option Sv), env' = [some (.d (.list xs)), some (.d (.list (zs.map .str))), some (.r 0), a, b, c, d, e, f, g, h] ∧ st' = [.lst ((ts.map Tm.d).map .d)] ∧ Stk i ts) ⟨[], none, none, none, none, none, none, none, none, rfl, rfl, (fun _ h => nomatch h), Nat.le_refl 0⟩ ?_
  rintro i x env st hi ⟨ts, a, b, c, d, e, f, g, h, rfl, rfl, hs⟩
  obtain ⟨n, rfl, hn0, hn1⟩ := hx.2 x (List.mem_of_getElem? hi)
  have hi40 : i < 40 := by
    have := (List.getElem?_eq_some_iff.mp hi).1
    have := hx.1
    omega
  have hzl := hz.1
  obtain ⟨z1, ez1, gz1⟩ := names_at hz (n / 10)
  obtain ⟨z2, ez2, gz2⟩ := names_at hz (n / 10 + 1)
  refine ⟨_, _, rfl, ?_⟩
  have hlp : (0 : Int) < (zs.length : Int) := by omega
  obtain ⟨r, hr⟩ : ∃ r : Int, r = n / 10 := ⟨_, rfl⟩
  have hr0 : 0 ≤ r ∧ r ≤ 409 := by omega
  obtain ⟨p, hp⟩ : ∃ p : Int, p = n % 10 := ⟨_, rfl⟩
  have hp0 : 0 ≤ p ∧ p < 10 := by omega
  rw [← hr] at ez1 ez2
  -- the part that all ways share
  have leaf_fit : (Tm.var z1).fit ∧ (Tm.var z1).dp ≤ i + 1 := ⟨gz1, by simp [Tm.dp]⟩
  have hok := hs.ok (by omega)
  have pop1 := a_pop (m + 3) ts (.var z1) hok
  obtain ⟨f1, f2⟩ := last_fit (P := fun t => t.fit ∧ t.dp ≤ i + 1) hs.fit leaf_fit
  obtain ⟨f3, f4⟩ := last_fit (P := fun t => t.fit ∧ t.dp ≤ i + 1) f2 leaf_fit
  have sz1 := last_sz ts (.var z1)
  have sz2 := last_sz ts.dropLast (.var z1)
  have sv : (Tm.var z1).sz = 1 := rfl
  have hs3 := hs.sz
  have hok2 : ∀ d ∈ ts.dropLast.map Tm.d, d.canLay0 = true ∧ d.depth ≤ 63 := by
    intro d md
    obtain ⟨t, mt, rfl⟩ := List.mem_map.mp md
    exact hok _ (List.mem_map_of_mem (List.dropLast_subset _ mt))
  have pop2 := a_pop (m + 3) ts.dropLast (.var z1) hok2
  have hlen : ∀ us : List Tm, sizes us ≤ 3 * i → us.length < 1000000 := by
    intro us hu
    have : us.length ≤ sizes us := by
      unfold sizes
      clear hu
      induction us with
      | nil => simp
      | cons u r ih =>
        have : 1 ≤ u.sz := by cases u <;> simp [Tm.sz]
        simp
        omega
    omega
  have lst : ∀ (us : List Tm) (t : Tm), (us.map Tm.d).map Sv.d ++ [Sv.d t.d] = ((us ++ [t]).map Tm.d).map Sv.d := fun us t => by simp
  obtain ⟨k, ak, bk⟩ := a_kind 3 m r hr0.1
  have ak : Ans pgm (m + 4) i__law_any_kind [.int r, .int 3] k.d := ak
  have gS := gd_str (s := "+-*") (n := 3)
  have lS : (Str.ofString "+-*").length = 3 := by decide +kernel
  obtain ⟨o, ho, go⟩ := p_ixs (x := Str.ofString "+-*") (i := r % 3) gS.1 (by omega) (by omega) (by omega)
  have zp1 := sz_pos (lastT ts (.var z1))
  have zp2 := sz_pos (lastT ts.dropLast (.var z1))
  have hl0 := hlen ts (by omega)
  have hl1 := hlen ts.dropLast (by omega)
  have hl2 := hlen ts.dropLast.dropLast (by omega)
  have pop1 : callN pgm (m + 4) i__law_pop [.r 0, .d (.tuple [.str "var", .str z1])] [.lst ((ts.map Tm.d).map .d)] = .ok (.d (lastT ts (.var z1)).d) [.lst ((ts.dropLast.map Tm.d).map .d)] := pop1
  have pop2 : callN pgm (m + 4) i__law_pop [.r 0, .d (.tuple [.str "var", .str z1])] [.lst ((ts.dropLast.map Tm.d).map .d)] = .ok (.d (lastT ts.dropLast (.var z1)).d) [.lst ((ts.dropLast.dropLast.map Tm.d).map .d)] := pop2
  have L0 := lst ts
  have L1 := lst ts.dropLast
  have L2 := lst ts.dropLast.dropLast
  have n0 : ((ts.map Tm.d).map Sv.d).length < 1000000 := by rw [List.length_map, List.length_map]; exact hl0
  have n1 : ((ts.dropLast.map Tm.d).map Sv.d).length < 1000000 := by rw [List.length_map, List.length_map]; exact hl1
  have n2 : ((ts.dropLast.dropLast.map Tm.d).map Sv.d).length < 1000000 := by rw [List.length_map, List.length_map]; exact hl2
  generalize hT1 : lastT ts (.var z1) = t1 at *
  generalize hT2 : lastT ts.dropLast (.var z1) = t2 at *
  generalize hU1 : ts.dropLast = u1 at *
  generalize hU2 : u1.dropLast = u2 at *
  generalize hX0 : (ts.map Tm.d).map Sv.d = X0 at *
  generalize hX1 : (u1.map Tm.d).map Sv.d = X1 at *
  generalize hX2 : (u2.map Tm.d).map Sv.d = X2 at *
  have rr : r * r ≤ 409 * 409 := Int.mul_le_mul hr0.2 hr0.2 hr0.1 (by decide)
  have rr0 : 0 ≤ r * r := Int.mul_nonneg hr0.1 hr0.1
  have r5 : 1 + r % 5 ≤ 5 ∧ 0 ≤ 1 + r % 5 := by omega
  have rrr : r * r * (1 + r % 5) ≤ (409 * 409) * 5 := Int.mul_le_mul rr r5.1 r5.2 (by decide)
  have rrr0 : 0 ≤ r * r * (1 + r % 5) := Int.mul_nonneg rr0 r5.2
  have M1 : prim .mul [.int r, .int r] = some (.int (r * r)) := p_mulS (by omega) (by omega)
  have M2 : prim .mul [.int (r * r), .int (1 + r % 5)] = some (.int (r * r * (1 + r % 5))) := p_mulS (by omega) (by omega)
  have hp' : n % 10 = p := hp.symm
  have hr' : n / 10 = r := hr.symm
  clear hp hr hT1 hT2 hU1 hU2 hX0 hX1 hX2 hi hx
  have pm : ∀ i : Int, prim .mod [.int i, .int (zs.length : Int)] = some (.int (i % (zs.length : Int))) := fun i => p_modi hlp
  have pc : p = 0 ∨ p = 1 ∨ p = 2 ∨ p = 3 ∨ p = 4 ∨ p = 5 ∨ p = 6 ∨ p = 7 ∨ p = 8 ∨ p = 9 := by omega
  rcases pc with rfl | rfl | rfl | rfl | rfl | rfl | rfl | rfl | rfl | rfl
  · refine ⟨[some (.d (.list xs)), some (.d (.list (zs.map .str))), some (.r 0), some (.d (.int n)), some (.d (.int 0)), some (.d (.int r)), some (.d (.str z1)), some (.d (.str z2)), some (.d (.tuple [.str "var", .str z1])), g, h], [.lst (X0 ++ [Sv.d (Tm.d (.var z1))])], .inl (by simp -implicitDefEqProofs [hp', hr', pm, p_modi, p_fdivi, hlp, ez1, ez2, pop1, pop2, call2 ak, ho, M1, M2, n0, n1, n2] <;> rfl), ts ++ [.var z1], _, _, _, _, _, _, _, _, rfl, by rw [L0], ?_⟩
    have dp1 := f1.2
    have dp3 := f3.2
    exact Stk.push hs.fit (by simp only [Tm.fit]; exact gz1) (by simp only [Tm.dp]; omega) (by simp only [Tm.sz] at *; omega)
  · refine ⟨[some (.d (.list xs)), some (.d (.list (zs.map .str))), some (.r 0), some (.d (.int n)), some (.d (.int 1)), some (.d (.int r)), some (.d (.str z1)), some (.d (.str z2)), some (.d (.tuple [.str "var", .str z1])), g, h], [.lst (X0 ++ [Sv.d (Tm.d (.var z1))])], .inl (by simp -implicitDefEqProofs [hp', hr', pm, p_modi, p_fdivi, hlp, ez1, ez2, pop1, pop2, call2 ak, ho, M1, M2, n0, n1, n2] <;> rfl), ts ++ [.var z1], _, _, _, _, _, _, _, _, rfl, by rw [L0], ?_⟩
    have dp1 := f1.2
    have dp3 := f3.2
    exact Stk.push hs.fit (by simp only [Tm.fit]; exact gz1) (by simp only [Tm.dp]; omega) (by simp only [Tm.sz] at *; omega)
  · refine ⟨[some (.d (.list xs)), some (.d (.list (zs.map .str))), some (.r 0), some (.d (.int n)), some (.d (.int 2)), some (.d (.int r)), some (.d (.str z1)), some (.d (.str z2)), some (.d (.tuple [.str "var", .str z1])), g, h], [.lst (X0 ++ [Sv.d (Tm.d (.num (r * r * (1 + r % 5))))])], .inl (by simp -implicitDefEqProofs [hp', hr', pm, p_modi, p_fdivi, hlp, ez1, ez2, pop1, pop2, call2 ak, ho, M1, M2, n0, n1, n2] <;> rfl), ts ++ [.num (r * r * (1 + r % 5))], _, _, _, _, _, _, _, _, rfl, by rw [L0], ?_⟩
    have dp1 := f1.2
    have dp3 := f3.2
    exact Stk.push hs.fit (by simp only [Tm.fit]; exact ⟨rrr0, by omega⟩) (by simp only [Tm.dp]; omega) (by simp only [Tm.sz] at *; omega)
  · refine ⟨[some (.d (.list xs)), some (.d (.list (zs.map .str))), some (.r 0), some (.d (.int n)), some (.d (.int 3)), some (.d (.int r)), some (.d (.str z1)), some (.d (.str z2)), some (.d (.tuple [.str "var", .str z1])), some (.d t1.d), some (.d t2.d)], [.lst (X2 ++ [Sv.d (Tm.d (.op (one o) t2 t1))])], .inl (by simp -implicitDefEqProofs [hp', hr', pm, p_modi, p_fdivi, hlp, ez1, ez2, pop1, pop2, call2 ak, ho, M1, M2, n0, n1, n2] <;> rfl), u2 ++ [.op (one o) t2 t1], _, _, _, _, _, _, _, _, rfl, by rw [L2], ?_⟩
    have dp1 := f1.2
    have dp3 := f3.2
    exact Stk.push f4 (by simp only [Tm.fit]; exact ⟨go.mono (by omega), f3.1, f1.1⟩) (by simp only [Tm.dp]; omega) (by simp only [Tm.sz] at *; omega)
  · refine ⟨[some (.d (.list xs)), some (.d (.list (zs.map .str))), some (.r 0), some (.d (.int n)), some (.d (.int 4)), some (.d (.int r)), some (.d (.str z1)), some (.d (.str z2)), some (.d (.tuple [.str "var", .str z1])), some (.d t1.d), some (.d t2.d)], [.lst (X2 ++ [Sv.d (Tm.d (.app t2 t1))])], .inl (by simp -implicitDefEqProofs [hp', hr', pm, p_modi, p_fdivi, hlp, ez1, ez2, pop1, pop2, call2 ak, ho, M1, M2, n0, n1, n2] <;> rfl), u2 ++ [.app t2 t1], _, _, _, _, _, _, _, _, rfl, by rw [L2], ?_⟩
    have dp1 := f1.2
    have dp3 := f3.2
    exact Stk.push f4 (by simp only [Tm.fit]; exact ⟨f3.1, f1.1⟩) (by simp only [Tm.dp]; omega) (by simp only [Tm.sz] at *; omega)
  · refine ⟨[some (.d (.list xs)), some (.d (.list (zs.map .str))), some (.r 0), some (.d (.int n)), some (.d (.int 5)), some (.d (.int r)), some (.d (.str z1)), some (.d (.str z2)), some (.d (.tuple [.str "var", .str z1])), g, h], [.lst (X1 ++ [Sv.d (Tm.d (.lam z1 k t1))])], .inl (by simp -implicitDefEqProofs [hp', hr', pm, p_modi, p_fdivi, hlp, ez1, ez2, pop1, pop2, call2 ak, ho, M1, M2, n0, n1, n2] <;> rfl), u1 ++ [.lam z1 k t1], _, _, _, _, _, _, _, _, rfl, by rw [L1], ?_⟩
    have dp1 := f1.2
    have dp3 := f3.2
    exact Stk.push f2 (by simp only [Tm.fit]; exact ⟨gz1, by omega, f1.1⟩) (by simp only [Tm.dp]; omega) (by simp only [Tm.sz] at *; omega)
  · refine ⟨[some (.d (.list xs)), some (.d (.list (zs.map .str))), some (.r 0), some (.d (.int n)), some (.d (.int 6)), some (.d (.int r)), some (.d (.str z1)), some (.d (.str z2)), some (.d (.tuple [.str "var", .str z1])), g, h], [.lst (X1 ++ [Sv.d (Tm.d (.box t1))])], .inl (by simp -implicitDefEqProofs [hp', hr', pm, p_modi, p_fdivi, hlp, ez1, ez2, pop1, pop2, call2 ak, ho, M1, M2, n0, n1, n2] <;> rfl), u1 ++ [.box t1], _, _, _, _, _, _, _, _, rfl, by rw [L1], ?_⟩
    have dp1 := f1.2
    have dp3 := f3.2
    exact Stk.push f2 (by simp only [Tm.fit]; exact f1.1) (by simp only [Tm.dp]; omega) (by simp only [Tm.sz] at *; omega)
  · refine ⟨[some (.d (.list xs)), some (.d (.list (zs.map .str))), some (.r 0), some (.d (.int n)), some (.d (.int 7)), some (.d (.int r)), some (.d (.str z1)), some (.d (.str z2)), some (.d (.tuple [.str "var", .str z1])), some (.d t1.d), some (.d t2.d)], [.lst (X2 ++ [Sv.d (Tm.d (.let_ z1 t2 t1))])], .inl (by simp -implicitDefEqProofs [hp', hr', pm, p_modi, p_fdivi, hlp, ez1, ez2, pop1, pop2, call2 ak, ho, M1, M2, n0, n1, n2] <;> rfl), u2 ++ [.let_ z1 t2 t1], _, _, _, _, _, _, _, _, rfl, by rw [L2], ?_⟩
    have dp1 := f1.2
    have dp3 := f3.2
    exact Stk.push f4 (by simp only [Tm.fit]; exact ⟨gz1, f3.1, f1.1⟩) (by simp only [Tm.dp]; omega) (by simp only [Tm.sz] at *; omega)
  · refine ⟨[some (.d (.list xs)), some (.d (.list (zs.map .str))), some (.r 0), some (.d (.int n)), some (.d (.int 8)), some (.d (.int r)), some (.d (.str z1)), some (.d (.str z2)), some (.d (.tuple [.str "var", .str z1])), some (.d t1.d), some (.d t2.d)], [.lst (X2 ++ [Sv.d (Tm.d (.pair t2 t1))])], .inl (by simp -implicitDefEqProofs [hp', hr', pm, p_modi, p_fdivi, hlp, ez1, ez2, pop1, pop2, call2 ak, ho, M1, M2, n0, n1, n2] <;> rfl), u2 ++ [.pair t2 t1], _, _, _, _, _, _, _, _, rfl, by rw [L2], ?_⟩
    have dp1 := f1.2
    have dp3 := f3.2
    exact Stk.push f4 (by simp only [Tm.fit]; exact ⟨f3.1, f1.1⟩) (by simp only [Tm.dp]; omega) (by simp only [Tm.sz] at *; omega)
  · refine ⟨[some (.d (.list xs)), some (.d (.list (zs.map .str))), some (.r 0), some (.d (.int n)), some (.d (.int 9)), some (.d (.int r)), some (.d (.str z1)), some (.d (.str z2)), some (.d (.tuple [.str "var", .str z1])), some (.d t1.d), some (.d t2.d)], [.lst (X2 ++ [Sv.d (Tm.d (.split z1 z2 t2 t1))])], .inl (by simp -implicitDefEqProofs [hp', hr', pm, p_modi, p_fdivi, hlp, ez1, ez2, pop1, pop2, call2 ak, ho, M1, M2, n0, n1, n2] <;> rfl), u2 ++ [.split z1 z2 t2 t1], _, _, _, _, _, _, _, _, rfl, by rw [L2], ?_⟩
    have dp1 := f1.2
    have dp3 := f3.2
    exact Stk.push f4 (by simp only [Tm.fit]; exact ⟨gz1, gz2, f3.1, f1.1⟩) (by simp only [Tm.dp]; omega) (by simp only [Tm.sz] at *; omega)
theorem a_term (m : Nat) (zs : List Str) (hz : NamesL zs) (xs : List PyData) (hx : NumL 40 xs) : ∃ t : Tm, Ans pgm (m + 5) i__law_any_term [.list xs, .list (zs.map .str)] t.d ∧ t.fit ∧ t.dp ≤ xs.length + 1 ∧ t.sz ≤ 3 * xs.length + 1 := by
  obtain ⟨env', st', e, ts, a, b, c, d, e1, f, g, h, rfl, rfl, hs⟩ := l_term m zs hz xs hx
  have hl := hx.1
  have q := p_eqnil (hs.ok hl)
  have hv : view [.lst ((ts.map Tm.d).map .d)] (.r 0) = some (.list (ts.map Tm.d)) := view_lst rfl
  rcases snoc_or ts with rfl | ⟨r, t, rfl⟩
  · refine ⟨.num 0, ⟨[.lst []], ?_⟩, by simp [Tm.fit], by simp [Tm.dp], by simp [Tm.sz]⟩
    rw [call_eq (d := p__law_any_term) _ rfl rfl]
    simp -implicitDefEqProofs only [List.map_nil] at q hv e
    simp -implicitDefEqProofs [p__law_any_term, c__law_any_term, startE, e, hv, q, Tm.d]
  · have e1 : (((r ++ [t]).map Tm.d).map Sv.d)[(((r ++ [t]).map Tm.d).map Sv.d).length - 1]? = some (.d t.d) := by simp only [List.map_append, List.map_cons, List.map_nil, List.length_append, List.length_map, List.length_cons, List.length_nil]; simp
    have e3 : ((r ++ [t]).map Tm.d).isEmpty = false := by simp
    have ht := hs.fit t (List.mem_append_right _ List.mem_cons_self)
    have hz := hs.sz
    have hz2 : sizes (r ++ [t]) = sizes r + t.sz := by unfold sizes; simp
    refine ⟨t, ⟨[.lst ((((r ++ [t]).map Tm.d).map Sv.d).dropLast)], ?_⟩, ht.1, by omega, by omega⟩
    rw [e3] at q
    rw [call_eq (d := p__law_any_term) _ rfl rfl]
    generalize (r ++ [t]).map Tm.d = ds at *
    generalize ds.map Sv.d = X at *
    simp -implicitDefEqProofs [p__law_any_term, c__law_any_term, startE, e, hv, q, e1]

theorem a_parts (m : Nat) (t : Tm) : Ans pgm (m + 1) i_parts_of [t.d] (.list (t.ps.map Tm.d)) := by
  refine ⟨[], ?_⟩
  rw [call_eq (d := p_parts_of) [] rfl rfl]
  cases t <;> simp -implicitDefEqProofs [p_parts_of, c_parts_of, startE, Tm.d, Tm.ps, p_in2]
theorem a_lparts (m : Nat) (t : Tm) : Ans pgm (m + 1) i__law_parts [t.d] (.list (t.ps.map Tm.d)) := by
  refine ⟨[], ?_⟩
  rw [call_eq (d := p__law_parts) [] rfl rfl]
  cases t <;> simp -implicitDefEqProofs [p__law_parts, c__law_parts, startE, Tm.d, Tm.ps, p_in2]

theorem a_fo_flat (m : Nat) (t : Tm) (bd : List Str) (ht : t.sz ≤ 1000) (hf : t.flat = true) (ih : ∀ p ∈ t.ps, Ans pgm (m + 1) i_free_occurrences [p.d, .tuple (bd.map .str)] (.list ((p.fr bd).map .str))) : Ans pgm (m + 2) i_free_occurrences [t.d, .tuple (bd.map .str)] (.list ((t.fr bd).map .str)) := by
  have ap := a_parts m t
  have hp := ps_sz t
  rw [fr_flat t bd hf]
  have hr : ∀ a : Option Sv, evI (ctxN pgm (m + 1)) (.lst (.call i_parts_of [(.var 0)])) [some (.d t.d), some (.d (.tuple (bd.map .str))), some (.r 0), none] [.lst []] = .ok (t.ps.map Tm.d) [.lst []] := fun _ => by
    generalize t.d = td at *
    generalize t.ps.map Tm.d = Z at *
    simp -implicitDefEqProofs [call1 ap]
  have w := fr_run (t := .name 3) (wf := pgm.wf) (b := [.ext (.var 2) (.call i_free_occurrences [(.var 3), (.var 1)])]) (hr none) (fun i env st => ∃ a : Option Sv, env = [some (.d t.d), some (.d (.tuple (bd.map .str))), some (.r 0), a] ∧ st = [.lst ((((t.ps.take i).flatMap fun p => p.fr bd).map PyData.str).map .d)]) ⟨none, rfl, rfl⟩ (by
    rintro i x env st hi ⟨a, rfl, rfl⟩
    rw [List.getElem?_map] at hi
    cases q : t.ps[i]? with
    | none => rw [q] at hi; cases hi
    | some p =>
      rw [q] at hi
      cases hi
      have hm := List.mem_of_getElem? q
      have h1 := ih p hm
      have h2 := flat_take (f := fun p => p.fr bd) q
      have h3 := flat_le (t.ps.take i) bd
      have h4 := sizes_take t.ps i
      have h5 := fr_len p bd
      have h6 := part_sz hm
      have e4 : ((((t.ps.take i).flatMap fun p => p.fr bd).map PyData.str).map Sv.d).length + ((p.fr bd).map PyData.str).length < 1000000 := by simp only [List.length_map]; omega
      have e5 : (((t.ps.take i).flatMap fun p => p.fr bd).map PyData.str).map Sv.d ++ ((p.fr bd).map PyData.str).map Sv.d = (((t.ps.take (i + 1)).flatMap fun p => p.fr bd).map PyData.str).map Sv.d := by rw [h2]; simp
      refine ⟨_, _, rfl, [some (.d t.d), some (.d (.tuple (bd.map .str))), some (.r 0), some (.d p.d)], _, .inl ?_, _, rfl, rfl⟩
      rw [← e5]
      generalize (((t.ps.take i).flatMap fun p => p.fr bd).map PyData.str).map Sv.d = X at *
      generalize (p.fr bd).map PyData.str = Y at *
      generalize bd.map PyData.str = B at *
      generalize t.d = td at *
      generalize p.d = pd at *
      simp -implicitDefEqProofs [call2 h1, e4])
  obtain ⟨env', st', e, a, rfl, rfl⟩ := w
  have e : evS (ctxN pgm (m + 1)) pgm.wf c_free_occurrences_L1 _ _ = _ := e
  rw [show (t.ps.map Tm.d).length = t.ps.length from List.length_map _, List.take_length] at e
  have had : allD (((t.ps.flatMap fun p => p.fr bd).map PyData.str).map .d) = some ((t.ps.flatMap fun p => p.fr bd).map PyData.str) := allD_map _
  refine ⟨[.frz ((t.ps.flatMap fun p => p.fr bd).map PyData.str)], ?_⟩
  rw [call_eq (d := p_free_occurrences) _ rfl rfl]
  show endR (evSs (ctxN pgm (m + 1)) pgm.wf c_free_occurrences (startE 4 [.d t.d, .d (.tuple (bd.map .str))]) []) = _
  generalize (t.ps.flatMap fun p => p.fr bd).map PyData.str = Y at *
  generalize Y.map Sv.d = X at *
  generalize bd.map PyData.str = B at *
  cases t <;> first | (cases hf; done) | simp -implicitDefEqProofs [c_free_occurrences, startE, Tm.d] at e ⊢
  all_goals simp -implicitDefEqProofs [e, had]

theorem a_fo : ∀ (t : Tm), t.sz ≤ 1000 → ∀ (m : Nat) (bd : List Str), t.dp + 1 ≤ m → bd.length + 2 * t.dp ≤ 10000 → Ans pgm m i_free_occurrences [t.d, .tuple (bd.map .str)] (.list ((t.fr bd).map .str)) := by
  intro t
  induction t with
  | var x =>
    intro hs m bd hm hb
    obtain ⟨m, rfl⟩ : ∃ e, m = e + 1 := ⟨m - 1, by omega⟩
    have q := p_intu x bd
    refine ⟨[], ?_⟩
    rw [call_eq (d := p_free_occurrences) [] rfl rfl]
    show endR (evSs (ctxN pgm m) pgm.wf c_free_occurrences (startE 4 [.d (.tuple [.str "var", .str x]), .d (.tuple (bd.map .str))]) []) = _
    simp only [Tm.fr]
    generalize bd.map PyData.str = B at *
    cases hc : bd.contains x with
    | true => rw [hc] at q; simp -implicitDefEqProofs [c_free_occurrences, startE, q]
    | false => rw [hc] at q; simp -implicitDefEqProofs [c_free_occurrences, startE, q]
  | lam x k a ih =>
    intro hs m bd hm hb
    simp only [Tm.dp, Tm.sz] at hm hs hb
    obtain ⟨m, rfl⟩ : ∃ e, m = e + 1 := ⟨m - 1, by omega⟩
    have h1 := ih (by omega) m (bd ++ [x]) (by omega) (by simp; omega)
    have q := p_catt (xs := bd.map PyData.str) (ys := [.str x]) (by simp; omega)
    rw [show bd.map PyData.str ++ [PyData.str x] = (bd ++ [x]).map .str by simp] at q
    refine ⟨[], ?_⟩
    rw [call_eq (d := p_free_occurrences) [] rfl rfl]
    show endR (evSs (ctxN pgm m) pgm.wf c_free_occurrences (startE 4 [.d (.tuple [.str "lam", .str x, k.d, a.d]), .d (.tuple (bd.map .str))]) []) = _
    simp only [Tm.fr]
    generalize (bd ++ [x]).map PyData.str = B2 at *
    generalize bd.map PyData.str = B at *
    simp -implicitDefEqProofs [c_free_occurrences, startE, q, call2 h1]
  | let_ x a b iha ihb =>
    intro hs m bd hm hb
    simp only [Tm.dp, Tm.sz] at hm hs hb
    obtain ⟨m, rfl⟩ : ∃ e, m = e + 1 := ⟨m - 1, by omega⟩
    have h0 := iha (by omega) m bd (by omega) (by omega)
    have h1 := ihb (by omega) m (bd ++ [x]) (by omega) (by simp; omega)
    have l0 := fr_len a bd
    have l1 := fr_len b (bd ++ [x])
    have q := p_catt (xs := bd.map PyData.str) (ys := [.str x]) (by simp; omega)
    rw [show bd.map PyData.str ++ [PyData.str x] = (bd ++ [x]).map .str by simp] at q
    have q2 := p_catl (xs := (a.fr bd).map PyData.str) (ys := (b.fr (bd ++ [x])).map PyData.str) (by simp; omega)
    rw [← List.map_append] at q2
    refine ⟨[], ?_⟩
    rw [call_eq (d := p_free_occurrences) [] rfl rfl]
    show endR (evSs (ctxN pgm m) pgm.wf c_free_occurrences (startE 4 [.d (.tuple [.str "let", .str x, a.d, b.d]), .d (.tuple (bd.map .str))]) []) = _
    simp only [Tm.fr]
    generalize (a.fr bd ++ b.fr (bd ++ [x])).map PyData.str = Z at *
    generalize (a.fr bd).map PyData.str = Z1 at *
    generalize (b.fr (bd ++ [x])).map PyData.str = Z2 at *
    generalize (bd ++ [x]).map PyData.str = B2 at *
    generalize bd.map PyData.str = B at *
    simp -implicitDefEqProofs [c_free_occurrences, startE, q, call2 h0, call2 h1, q2]
  | split x y a b iha ihb =>
    intro hs m bd hm hb
    simp only [Tm.dp, Tm.sz] at hm hs hb
    obtain ⟨m, rfl⟩ : ∃ e, m = e + 1 := ⟨m - 1, by omega⟩
    have h0 := iha (by omega) m bd (by omega) (by omega)
    have h1 := ihb (by omega) m (bd ++ [x, y]) (by omega) (by simp; omega)
    have l0 := fr_len a bd
    have l1 := fr_len b (bd ++ [x, y])
    have q := p_catt (xs := bd.map PyData.str) (ys := [.str x, .str y]) (by simp; omega)
    rw [show bd.map PyData.str ++ [PyData.str x, PyData.str y] = (bd ++ [x, y]).map .str by simp] at q
    have q2 := p_catl (xs := (a.fr bd).map PyData.str) (ys := (b.fr (bd ++ [x, y])).map PyData.str) (by simp; omega)
    rw [← List.map_append] at q2
    refine ⟨[], ?_⟩
    rw [call_eq (d := p_free_occurrences) [] rfl rfl]
    show endR (evSs (ctxN pgm m) pgm.wf c_free_occurrences (startE 4 [.d (.tuple [.str "split", .str x, .str y, a.d, b.d]), .d (.tuple (bd.map .str))]) []) = _
    simp only [Tm.fr]
    generalize (a.fr bd ++ b.fr (bd ++ [x, y])).map PyData.str = Z at *
    generalize (a.fr bd).map PyData.str = Z1 at *
    generalize (b.fr (bd ++ [x, y])).map PyData.str = Z2 at *
    generalize (bd ++ [x, y]).map PyData.str = B2 at *
    generalize bd.map PyData.str = B at *
    simp -implicitDefEqProofs [c_free_occurrences, startE, q, call2 h0, call2 h1, q2]
  | num i =>
    intro hs m bd hm hb
    simp only [Tm.dp] at hm
    obtain ⟨m, rfl⟩ : ∃ e, m = e + 2 := ⟨m - 2, by omega⟩
    exact a_fo_flat m _ bd hs rfl fun p mp => nomatch mp
  | pair a b iha ihb =>
    intro hs m bd hm hb
    have hs' := hs
    simp only [Tm.dp, Tm.sz] at hm hs hb
    obtain ⟨m, rfl⟩ : ∃ e, m = e + 2 := ⟨m - 2, by omega⟩
    refine a_fo_flat m _ bd hs' rfl fun p mp => ?_
    simp [Tm.ps] at mp
    rcases mp with rfl | rfl
    · exact iha (by omega) _ bd (by omega) (by omega)
    · exact ihb (by omega) _ bd (by omega) (by omega)
  | app a b iha ihb =>
    intro hs m bd hm hb
    have hs' := hs
    simp only [Tm.dp, Tm.sz] at hm hs hb
    obtain ⟨m, rfl⟩ : ∃ e, m = e + 2 := ⟨m - 2, by omega⟩
    refine a_fo_flat m _ bd hs' rfl fun p mp => ?_
    simp [Tm.ps] at mp
    rcases mp with rfl | rfl
    · exact iha (by omega) _ bd (by omega) (by omega)
    · exact ihb (by omega) _ bd (by omega) (by omega)
  | box a iha =>
    intro hs m bd hm hb
    have hs' := hs
    simp only [Tm.dp, Tm.sz] at hm hs hb
    obtain ⟨m, rfl⟩ : ∃ e, m = e + 2 := ⟨m - 2, by omega⟩
    refine a_fo_flat m _ bd hs' rfl fun p mp => ?_
    simp [Tm.ps] at mp
    subst mp
    exact iha (by omega) _ bd (by omega) (by omega)
  | op s a b iha ihb =>
    intro hs m bd hm hb
    have hs' := hs
    simp only [Tm.dp, Tm.sz] at hm hs hb
    obtain ⟨m, rfl⟩ : ∃ e, m = e + 2 := ⟨m - 2, by omega⟩
    refine a_fo_flat m _ bd hs' rfl fun p mp => ?_
    simp [Tm.ps] at mp
    rcases mp with rfl | rfl
    · exact iha (by omega) _ bd (by omega) (by omega)
    · exact ihb (by omega) _ bd (by omega) (by omega)

theorem a_lf_flat (m : Nat) (t : Tm) (bd : List Str) (ht : t.sz ≤ 1000) (hf : t.flat = true) (ih : ∀ p ∈ t.ps, Ans pgm (m + 1) i__law_free [p.d, .list (bd.map .str)] (.list ((p.fr bd).map .str))) : Ans pgm (m + 2) i__law_free [t.d, .list (bd.map .str)] (.list ((t.fr bd).map .str)) := by
  have ap := a_lparts m t
  have hp := ps_sz t
  rw [fr_flat t bd hf]
  have hr : evI (ctxN pgm (m + 1)) (.lst (.call i__law_parts [(.var 0)])) [some (.d t.d), some (.d (.list (bd.map .str))), some (.d (.list [])), none] [] = .ok (t.ps.map Tm.d) [] := by
    generalize t.d = td at *
    generalize t.ps.map Tm.d = Z at *
    simp -implicitDefEqProofs [call1 ap]
  have w := fr_run (t := .name 3) (wf := pgm.wf) (b := [.set (.name 2) (.op .add [(.var 2), (.call i__law_free [(.var 3), (.var 1)])])]) hr (fun i env st => ∃ a : Option Sv, env = [some (.d t.d), some (.d (.list (bd.map .str))), some (.d (.list (((t.ps.take i).flatMap fun p => p.fr bd).map PyData.str))), a] ∧ st = []) ⟨none, rfl, rfl⟩ (by
    rintro i x env st hi ⟨a, rfl, rfl⟩
    rw [List.getElem?_map] at hi
    cases q : t.ps[i]? with
    | none => rw [q] at hi; cases hi
    | some p =>
      rw [q] at hi
      cases hi
      have hm := List.mem_of_getElem? q
      have h1 := ih p hm
      have h2 := flat_take (f := fun p => p.fr bd) q
      have h3 := flat_le (t.ps.take i) bd
      have h4 := sizes_take t.ps i
      have h5 := fr_len p bd
      have h6 := part_sz hm
      have e4 := p_catl (xs := ((t.ps.take i).flatMap fun p => p.fr bd).map PyData.str) (ys := (p.fr bd).map PyData.str) (by simp only [List.length_map]; omega)
      have e5 : ((t.ps.take i).flatMap fun p => p.fr bd).map PyData.str ++ (p.fr bd).map PyData.str = ((t.ps.take (i + 1)).flatMap fun p => p.fr bd).map PyData.str := by rw [h2]; simp
      rw [e5] at e4
      refine ⟨_, _, rfl, [some (.d t.d), some (.d (.list (bd.map .str))), some (.d (.list (((t.ps.take (i + 1)).flatMap fun p => p.fr bd).map PyData.str))), some (.d p.d)], [], .inl ?_, _, rfl, rfl⟩
      generalize ((t.ps.take (i + 1)).flatMap fun p => p.fr bd).map PyData.str = X2 at *
      generalize ((t.ps.take i).flatMap fun p => p.fr bd).map PyData.str = X at *
      generalize (p.fr bd).map PyData.str = Y at *
      generalize bd.map PyData.str = B at *
      generalize t.d = td at *
      generalize p.d = pd at *
      simp -implicitDefEqProofs [call2 h1, e4])
  obtain ⟨env', st', e, a, rfl, rfl⟩ := w
  have e : evS (ctxN pgm (m + 1)) pgm.wf c__law_free_L1 _ _ = _ := e
  rw [show (t.ps.map Tm.d).length = t.ps.length from List.length_map _, List.take_length] at e
  refine ⟨[], ?_⟩
  rw [call_eq (d := p__law_free) _ rfl rfl]
  show endR (evSs (ctxN pgm (m + 1)) pgm.wf c__law_free (startE 4 [.d t.d, .d (.list (bd.map .str))]) []) = _
  generalize (t.ps.flatMap fun p => p.fr bd).map PyData.str = Y at *
  generalize bd.map PyData.str = B at *
  cases t <;> first | (cases hf; done) | simp -implicitDefEqProofs [c__law_free, startE, Tm.d] at e ⊢
  all_goals simp -implicitDefEqProofs [e]
theorem a_lf : ∀ (t : Tm), t.sz ≤ 1000 → ∀ (m : Nat) (bd : List Str), t.dp + 1 ≤ m → bd.length + 2 * t.dp ≤ 10000 → Ans pgm m i__law_free [t.d, .list (bd.map .str)] (.list ((t.fr bd).map .str)) := by
  intro t
  induction t with
  | var x =>
    intro hs m bd hm hb
    obtain ⟨m, rfl⟩ : ∃ e, m = e + 1 := ⟨m - 1, by omega⟩
    have q := p_inl x bd
    refine ⟨[], ?_⟩
    rw [call_eq (d := p__law_free) [] rfl rfl]
    show endR (evSs (ctxN pgm m) pgm.wf c__law_free (startE 4 [.d (.tuple [.str "var", .str x]), .d (.list (bd.map .str))]) []) = _
    simp only [Tm.fr]
    generalize bd.map PyData.str = B at *
    cases hc : bd.contains x with
    | true => rw [hc] at q; simp -implicitDefEqProofs [c__law_free, startE, q]
    | false => rw [hc] at q; simp -implicitDefEqProofs [c__law_free, startE, q]
  | lam x k a ih =>
    intro hs m bd hm hb
    simp only [Tm.dp, Tm.sz] at hm hs hb
    obtain ⟨m, rfl⟩ : ∃ e, m = e + 1 := ⟨m - 1, by omega⟩
    have h1 := ih (by omega) m (bd ++ [x]) (by omega) (by simp; omega)
    have q := p_catl (xs := bd.map PyData.str) (ys := [.str x]) (by simp; omega)
    rw [show bd.map PyData.str ++ [PyData.str x] = (bd ++ [x]).map .str by simp] at q
    refine ⟨[], ?_⟩
    rw [call_eq (d := p__law_free) [] rfl rfl]
    show endR (evSs (ctxN pgm m) pgm.wf c__law_free (startE 4 [.d (.tuple [.str "lam", .str x, k.d, a.d]), .d (.list (bd.map .str))]) []) = _
    simp only [Tm.fr]
    generalize (bd ++ [x]).map PyData.str = B2 at *
    generalize bd.map PyData.str = B at *
    simp -implicitDefEqProofs [c__law_free, startE, q, call2 h1]
  | let_ x a b iha ihb =>
    intro hs m bd hm hb
    simp only [Tm.dp, Tm.sz] at hm hs hb
    obtain ⟨m, rfl⟩ : ∃ e, m = e + 1 := ⟨m - 1, by omega⟩
    have h0 := iha (by omega) m bd (by omega) (by omega)
    have h1 := ihb (by omega) m (bd ++ [x]) (by omega) (by simp; omega)
    have l0 := fr_len a bd
    have l1 := fr_len b (bd ++ [x])
    have q := p_catl (xs := bd.map PyData.str) (ys := [.str x]) (by simp; omega)
    rw [show bd.map PyData.str ++ [PyData.str x] = (bd ++ [x]).map .str by simp] at q
    have q2 := p_catl (xs := (a.fr bd).map PyData.str) (ys := (b.fr (bd ++ [x])).map PyData.str) (by simp; omega)
    rw [← List.map_append] at q2
    refine ⟨[], ?_⟩
    rw [call_eq (d := p__law_free) [] rfl rfl]
    show endR (evSs (ctxN pgm m) pgm.wf c__law_free (startE 4 [.d (.tuple [.str "let", .str x, a.d, b.d]), .d (.list (bd.map .str))]) []) = _
    simp only [Tm.fr]
    generalize (a.fr bd ++ b.fr (bd ++ [x])).map PyData.str = Z at *
    generalize (a.fr bd).map PyData.str = Z1 at *
    generalize (b.fr (bd ++ [x])).map PyData.str = Z2 at *
    generalize (bd ++ [x]).map PyData.str = B2 at *
    generalize bd.map PyData.str = B at *
    simp -implicitDefEqProofs [c__law_free, startE, q, call2 h0, call2 h1, q2]
  | split x y a b iha ihb =>
    intro hs m bd hm hb
    simp only [Tm.dp, Tm.sz] at hm hs hb
    obtain ⟨m, rfl⟩ : ∃ e, m = e + 1 := ⟨m - 1, by omega⟩
    have h0 := iha (by omega) m bd (by omega) (by omega)
    have h1 := ihb (by omega) m (bd ++ [x, y]) (by omega) (by simp; omega)
    have l0 := fr_len a bd
    have l1 := fr_len b (bd ++ [x, y])
    have q := p_catl (xs := bd.map PyData.str) (ys := [.str x, .str y]) (by simp; omega)
    rw [show bd.map PyData.str ++ [PyData.str x, PyData.str y] = (bd ++ [x, y]).map .str by simp] at q
    have q2 := p_catl (xs := (a.fr bd).map PyData.str) (ys := (b.fr (bd ++ [x, y])).map PyData.str) (by simp; omega)
    rw [← List.map_append] at q2
    refine ⟨[], ?_⟩
    rw [call_eq (d := p__law_free) [] rfl rfl]
    show endR (evSs (ctxN pgm m) pgm.wf c__law_free (startE 4 [.d (.tuple [.str "split", .str x, .str y, a.d, b.d]), .d (.list (bd.map .str))]) []) = _
    simp only [Tm.fr]
    generalize (a.fr bd ++ b.fr (bd ++ [x, y])).map PyData.str = Z at *
    generalize (a.fr bd).map PyData.str = Z1 at *
    generalize (b.fr (bd ++ [x, y])).map PyData.str = Z2 at *
    generalize (bd ++ [x, y]).map PyData.str = B2 at *
    generalize bd.map PyData.str = B at *
    simp -implicitDefEqProofs [c__law_free, startE, q, call2 h0, call2 h1, q2]
  | num i =>
    intro hs m bd hm hb
    simp only [Tm.dp] at hm
    obtain ⟨m, rfl⟩ : ∃ e, m = e + 2 := ⟨m - 2, by omega⟩
    exact a_lf_flat m _ bd hs rfl fun p mp => nomatch mp
  | pair a b iha ihb =>
    intro hs m bd hm hb
    have hs' := hs
    simp only [Tm.dp, Tm.sz] at hm hs hb
    obtain ⟨m, rfl⟩ : ∃ e, m = e + 2 := ⟨m - 2, by omega⟩
    refine a_lf_flat m _ bd hs' rfl fun p mp => ?_
    simp [Tm.ps] at mp
    rcases mp with rfl | rfl
    · exact iha (by omega) _ bd (by omega) (by omega)
    · exact ihb (by omega) _ bd (by omega) (by omega)
  | app a b iha ihb =>
    intro hs m bd hm hb
    have hs' := hs
    simp only [Tm.dp, Tm.sz] at hm hs hb
    obtain ⟨m, rfl⟩ : ∃ e, m = e + 2 := ⟨m - 2, by omega⟩
    refine a_lf_flat m _ bd hs' rfl fun p mp => ?_
    simp [Tm.ps] at mp
    rcases mp with rfl | rfl
    · exact iha (by omega) _ bd (by omega) (by omega)
    · exact ihb (by omega) _ bd (by omega) (by omega)
  | box a iha =>
    intro hs m bd hm hb
    have hs' := hs
    simp only [Tm.dp, Tm.sz] at hm hs hb
    obtain ⟨m, rfl⟩ : ∃ e, m = e + 2 := ⟨m - 2, by omega⟩
    refine a_lf_flat m _ bd hs' rfl fun p mp => ?_
    simp [Tm.ps] at mp
    subst mp
    exact iha (by omega) _ bd (by omega) (by omega)
  | op s a b iha ihb =>
    intro hs m bd hm hb
    have hs' := hs
    simp only [Tm.dp, Tm.sz] at hm hs hb
    obtain ⟨m, rfl⟩ : ∃ e, m = e + 2 := ⟨m - 2, by omega⟩
    refine a_lf_flat m _ bd hs' rfl fun p mp => ?_
    simp [Tm.ps] at mp
    rcases mp with rfl | rfl
    · exact iha (by omega) _ bd (by omega) (by omega)
    · exact ihb (by omega) _ bd (by omega) (by omega)

/-! ## dicts in the equations -/
@[simp] theorem evCall_dref (c : List Sv → Sto → Rs Sv) (x : PyData) (n : Nat) (r : List Sv) (st : Sto) : evCall c (.d x :: .r n :: r) st = c (.d x :: .r n :: r) st := rfl
def dgetS (G : PV.Ctx) (i : CE) (env : Ev) (r : Rs Sv) : Rs Sv := r.bind fun so st1 => (evE G i env st1).bind fun si st2 => dgetR (onD st2 so) (strK si) st2
def dgetS2 (so : Sv) (r : Rs Sv) : Rs Sv := r.bind fun si st2 => dgetR (onD st2 so) (strK si) st2
@[simp] theorem w_dget (G : PV.Ctx) (o i : CE) (env : Ev) (st : Sto) : evE G (.dget o i) env st = dgetS G i env (evE G o env st) := rfl
@[simp] theorem w_dget1 (G : PV.Ctx) (i : CE) (env : Ev) (so : Sv) (st : Sto) : dgetS G i env (.ok so st) = dgetS2 so (evE G i env st) := rfl
@[simp] theorem w_dget2 (so si : Sv) (st : Sto) : dgetS2 so (.ok si st) = dgetR (onD st so) (strK si) st := rfl
def dinS (G : PV.Ctx) (neg : Bool) (o : CE) (env : Ev) (r : Rs Sv) : Rs Sv := r.bind fun si st1 => (evE G o env st1).bind fun so st2 => dinR neg (onD st2 so) (strK si) st2
def dinS2 (neg : Bool) (si : Sv) (r : Rs Sv) : Rs Sv := r.bind fun so st2 => dinR neg (onD st2 so) (strK si) st2
@[simp] theorem w_din (G : PV.Ctx) (neg : Bool) (i o : CE) (env : Ev) (st : Sto) : evE G (.din neg i o) env st = dinS G neg o env (evE G i env st) := rfl
@[simp] theorem w_din1 (G : PV.Ctx) (neg : Bool) (o : CE) (env : Ev) (si : Sv) (st : Sto) : dinS G neg o env (.ok si st) = dinS2 neg si (evE G o env st) := rfl
@[simp] theorem w_din2 (neg : Bool) (so si : Sv) (st : Sto) : dinS2 neg si (.ok so st) = dinR neg (onD st so) (strK si) st := rfl
def dgD1 (G : PV.Ctx) (i e : CE) (env : Ev) (r : Rs Sv) : Rs Sv := r.bind fun so st1 => dck (onD st1 so) ((evE G i env st1).bind fun si st2 => (evE G e env st2).bind fun se st3 => dgetDR (onD st3 so) (strK si) se st3)
def dgD2 (G : PV.Ctx) (so : Sv) (e : CE) (env : Ev) (r : Rs Sv) : Rs Sv := r.bind fun si st2 => (evE G e env st2).bind fun se st3 => dgetDR (onD st3 so) (strK si) se st3
def dgD3 (so si : Sv) (r : Rs Sv) : Rs Sv := r.bind fun se st3 => dgetDR (onD st3 so) (strK si) se st3
@[simp] theorem w_dgD (G : PV.Ctx) (o i e : CE) (env : Ev) (st : Sto) : evE G (.dgetD o i e) env st = dgD1 G i e env (evE G o env st) := rfl
@[simp] theorem w_dgD1 (G : PV.Ctx) (i e : CE) (env : Ev) (so : Sv) (st : Sto) : dgD1 G i e env (.ok so st) = dck (onD st so) (dgD2 G so e env (evE G i env st)) := rfl
@[simp] theorem w_dgD2 (G : PV.Ctx) (so si : Sv) (e : CE) (env : Ev) (st : Sto) : dgD2 G so e env (.ok si st) = dgD3 so si (evE G e env st) := rfl
@[simp] theorem w_dgD3 (so si se : Sv) (st : Sto) : dgD3 so si (.ok se st) = dgetDR (onD st so) (strK si) se st := rfl
@[simp] theorem w_strK (x : Str) : strK (.d (.str x)) = some x := rfl
@[simp] theorem w_dck (p : Nat × List (Str × PyData)) (r : Rs Sv) : dck (some p) r = r := rfl
@[simp] theorem w_dinR (neg : Bool) (p : Nat × List (Str × PyData)) (x : Str) (st : Sto) : dinR neg (some p) (some x) st = .ok (.d (.bool (neg != (lookD p.2 x).isSome))) st := rfl
theorem dget_s {p : Nat × List (Str × PyData)} {x : Str} {v : PyData} (h : lookD p.2 x = some v) (st : Sto) : dgetR (some p) (some x) st = .ok (.d v) st := by
  show (match lookD p.2 x with
    | some v => (Rs.ok (.d v) st : Rs Sv)
    | none => .bad) = _
  rw [h]
theorem dgetD_s {p : Nat × List (Str × PyData)} {x : Str} {v : PyData} (h : lookD p.2 x = some v) (s : Sv) (st : Sto) : dgetDR (some p) (some x) s st = .ok (.d v) st := by
  show (match lookD p.2 x with
    | some v => (Rs.ok (.d v) st : Rs Sv)
    | none => .ok s st) = _
  rw [h]
theorem dgetD_n {p : Nat × List (Str × PyData)} {x : Str} (h : lookD p.2 x = none) (s : Sv) (st : Sto) : dgetDR (some p) (some x) s st = .ok s st := by
  show (match lookD p.2 x with
    | some v => (Rs.ok (.d v) st : Rs Sv)
    | none => .ok s st) = _
  rw [h]
theorem onD_of {st : Sto} {n : Nat} {kvs : List (Str × PyData)} (h : st[n]? = some (.dct kvs)) : onD st (.r n) = some (n, kvs) := by
  show (match st[n]? with
    | some (.dct kvs) => some (n, kvs)
    | _ => none) = _
  rw [h]
/-! ## what a term is with others in the place of its free names -/
def lkT (g : List (Str × Tm)) (x : Str) : Option Tm := (g.find? fun kv => decide (kv.1 = x)).map (·.2)
def dD (g : List (Str × Tm)) : List (Str × PyData) := g.map fun kv => (kv.1, kv.2.d)
theorem look_dD (g : List (Str × Tm)) (x : Str) : lookD (dD g) x = (lkT g x).map Tm.d := by
  unfold lookD lkT dD
  induction g with
  | nil => rfl
  | cons p r ih =>
    rw [List.map_cons, List.find?_cons, List.find?_cons]
    cases h : decide (p.1 = x) with
    | true => rfl
    | false => exact ih
def sbT (g : List (Str × Tm)) : Tm → List Str → Tm
  | .var x, bd => if bd.contains x then .var x else (lkT g x).getD (.var x)
  | .num i, _ => .num i
  | .lam x k a, bd => .lam x k (sbT g a (bd ++ [x]))
  | .let_ x a b, bd => .let_ x (sbT g a bd) (sbT g b (bd ++ [x]))
  | .split x y a b, bd => .split x y (sbT g a bd) (sbT g b (bd ++ [x, y]))
  | .pair a b, bd => .pair (sbT g a bd) (sbT g b bd)
  | .app a b, bd => .app (sbT g a bd) (sbT g b bd)
  | .box a, bd => .box (sbT g a bd)
  | .op s a b, bd => .op s (sbT g a bd) (sbT g b bd)

theorem a_put (n : Nat) (g : List (Str × Tm)) (st : Sto) (hst : st[n]? = some (.dct (dD g))) : ∀ (t : Tm) (m : Nat) (bd : List Str), t.dp + 1 ≤ m → bd.length + 2 * t.dp ≤ 10000 → callN pgm m i__law_put [.d t.d, .r n, .d (.list (bd.map .str))] st = .ok (.d (sbT g t bd).d) st := by
  have hO := onD_of hst
  intro t
  induction t with
  | var x =>
    intro m bd hm hb
    obtain ⟨m, rfl⟩ : ∃ e, m = e + 1 := ⟨m - 1, by omega⟩
    have q := p_inl x bd
    have lk := look_dD g x
    have qi : prim .isin [.str (Str.ofString "var"), .tuple [.str (Str.ofString "app"), .str (Str.ofString "pair")]] = some (.bool false) := by kernel_rfl
    rw [call_eq (d := p__law_put) _ rfl rfl]
    show endR (evSs (ctxN pgm m) pgm.wf c__law_put (startE 4 [.d (.tuple [.str "var", .str x]), .r n, .d (.list (bd.map .str))]) st) = _
    simp only [sbT]
    generalize bd.map PyData.str = B at *
    cases hc : bd.contains x with
    | true => rw [hc] at q; simp -implicitDefEqProofs [c__law_put, startE, q, hO, Tm.d]
    | false =>
      rw [hc] at q
      cases hl : lkT g x with
      | none =>
        rw [hl] at lk
        have lk : lookD (n, dD g).2 x = none := lk
        simp -implicitDefEqProofs [c__law_put, startE, q, hO, lk, dgetD_n lk, Tm.d]
      | some t =>
        rw [hl] at lk
        have lk : lookD (n, dD g).2 x = some t.d := lk
        simp -implicitDefEqProofs [c__law_put, startE, q, hO, lk, dgetD_s lk, dget_s lk, Tm.d]
  | num i =>
    intro m bd hm hb
    obtain ⟨m, rfl⟩ : ∃ e, m = e + 1 := ⟨m - 1, by omega⟩
    have qi : prim .isin [.str (Str.ofString "num"), .tuple [.str (Str.ofString "app"), .str (Str.ofString "pair")]] = some (.bool false) := by kernel_rfl
    rw [call_eq (d := p__law_put) _ rfl rfl]
    show endR (evSs (ctxN pgm m) pgm.wf c__law_put (startE 4 [.d (.tuple [.str "num", .int i]), .r n, .d (.list (bd.map .str))]) st) = _
    simp only [sbT]
    generalize bd.map PyData.str = B at *
    simp -implicitDefEqProofs [c__law_put, startE, qi, Tm.d]
  | lam x k a ih =>
    intro m bd hm hb
    simp only [Tm.dp] at hm hb
    obtain ⟨m, rfl⟩ : ∃ e, m = e + 1 := ⟨m - 1, by omega⟩
    have h0 := ih m (bd ++ [x]) (by omega) (by simp; omega)
    have q := p_catl (xs := bd.map PyData.str) (ys := [.str x]) (by simp; omega)
    rw [show bd.map PyData.str ++ [PyData.str x] = (bd ++ [x]).map .str by simp] at q
    have qi : prim .isin [.str (Str.ofString "lam"), .tuple [.str (Str.ofString "app"), .str (Str.ofString "pair")]] = some (.bool false) := by kernel_rfl
    rw [call_eq (d := p__law_put) _ rfl rfl]
    show endR (evSs (ctxN pgm m) pgm.wf c__law_put (startE 4 [.d (.tuple [.str "lam", .str x, k.d, a.d]), .r n, .d (.list (bd.map .str))]) st) = _
    simp only [sbT]
    generalize sbT g a (bd ++ [x]) = S0 at *
    generalize a.d = D0 at *
    generalize (bd ++ [x]).map PyData.str = B2 at *
    generalize bd.map PyData.str = B at *
    simp -implicitDefEqProofs [c__law_put, startE, qi, h0, q, Tm.d]
  | let_ x a b iha ihb =>
    intro m bd hm hb
    simp only [Tm.dp] at hm hb
    obtain ⟨m, rfl⟩ : ∃ e, m = e + 1 := ⟨m - 1, by omega⟩
    have h0 := iha m bd (by omega) (by omega)
    have h1 := ihb m (bd ++ [x]) (by omega) (by simp; omega)
    have q := p_catl (xs := bd.map PyData.str) (ys := [.str x]) (by simp; omega)
    rw [show bd.map PyData.str ++ [PyData.str x] = (bd ++ [x]).map .str by simp] at q
    have qi : prim .isin [.str (Str.ofString "let"), .tuple [.str (Str.ofString "app"), .str (Str.ofString "pair")]] = some (.bool false) := by kernel_rfl
    rw [call_eq (d := p__law_put) _ rfl rfl]
    show endR (evSs (ctxN pgm m) pgm.wf c__law_put (startE 4 [.d (.tuple [.str "let", .str x, a.d, b.d]), .r n, .d (.list (bd.map .str))]) st) = _
    simp only [sbT]
    generalize sbT g a bd = S0 at *
    generalize a.d = D0 at *
    generalize sbT g b (bd ++ [x]) = S1 at *
    generalize b.d = D1 at *
    generalize (bd ++ [x]).map PyData.str = B2 at *
    generalize bd.map PyData.str = B at *
    simp -implicitDefEqProofs [c__law_put, startE, qi, h0, h1, q, Tm.d]
  | split x y a b iha ihb =>
    intro m bd hm hb
    simp only [Tm.dp] at hm hb
    obtain ⟨m, rfl⟩ : ∃ e, m = e + 1 := ⟨m - 1, by omega⟩
    have h0 := iha m bd (by omega) (by omega)
    have h1 := ihb m (bd ++ [x, y]) (by omega) (by simp; omega)
    have q := p_catl (xs := bd.map PyData.str) (ys := [.str x, .str y]) (by simp; omega)
    rw [show bd.map PyData.str ++ [PyData.str x, PyData.str y] = (bd ++ [x, y]).map .str by simp] at q
    have qi : prim .isin [.str (Str.ofString "split"), .tuple [.str (Str.ofString "app"), .str (Str.ofString "pair")]] = some (.bool false) := by kernel_rfl
    rw [call_eq (d := p__law_put) _ rfl rfl]
    show endR (evSs (ctxN pgm m) pgm.wf c__law_put (startE 4 [.d (.tuple [.str "split", .str x, .str y, a.d, b.d]), .r n, .d (.list (bd.map .str))]) st) = _
    simp only [sbT]
    generalize sbT g a bd = S0 at *
    generalize a.d = D0 at *
    generalize sbT g b (bd ++ [x, y]) = S1 at *
    generalize b.d = D1 at *
    generalize (bd ++ [x, y]).map PyData.str = B2 at *
    generalize bd.map PyData.str = B at *
    simp -implicitDefEqProofs [c__law_put, startE, qi, h0, h1, q, Tm.d]
  | pair a b iha ihb =>
    intro m bd hm hb
    simp only [Tm.dp] at hm hb
    obtain ⟨m, rfl⟩ : ∃ e, m = e + 1 := ⟨m - 1, by omega⟩
    have h0 := iha m bd (by omega) (by omega)
    have h1 := ihb m bd (by omega) (by omega)
    have qi : prim .isin [.str (Str.ofString "pair"), .tuple [.str (Str.ofString "app"), .str (Str.ofString "pair")]] = some (.bool true) := by kernel_rfl
    rw [call_eq (d := p__law_put) _ rfl rfl]
    show endR (evSs (ctxN pgm m) pgm.wf c__law_put (startE 4 [.d (.tuple [.str "pair", a.d, b.d]), .r n, .d (.list (bd.map .str))]) st) = _
    simp only [sbT]
    generalize sbT g a bd = S0 at *
    generalize a.d = D0 at *
    generalize sbT g b bd = S1 at *
    generalize b.d = D1 at *
    generalize bd.map PyData.str = B at *
    simp -implicitDefEqProofs [c__law_put, startE, qi, h0, h1, Tm.d]
  | app a b iha ihb =>
    intro m bd hm hb
    simp only [Tm.dp] at hm hb
    obtain ⟨m, rfl⟩ : ∃ e, m = e + 1 := ⟨m - 1, by omega⟩
    have h0 := iha m bd (by omega) (by omega)
    have h1 := ihb m bd (by omega) (by omega)
    have qi : prim .isin [.str (Str.ofString "app"), .tuple [.str (Str.ofString "app"), .str (Str.ofString "pair")]] = some (.bool true) := by kernel_rfl
    rw [call_eq (d := p__law_put) _ rfl rfl]
    show endR (evSs (ctxN pgm m) pgm.wf c__law_put (startE 4 [.d (.tuple [.str "app", a.d, b.d]), .r n, .d (.list (bd.map .str))]) st) = _
    simp only [sbT]
    generalize sbT g a bd = S0 at *
    generalize a.d = D0 at *
    generalize sbT g b bd = S1 at *
    generalize b.d = D1 at *
    generalize bd.map PyData.str = B at *
    simp -implicitDefEqProofs [c__law_put, startE, qi, h0, h1, Tm.d]
  | box a ih =>
    intro m bd hm hb
    simp only [Tm.dp] at hm hb
    obtain ⟨m, rfl⟩ : ∃ e, m = e + 1 := ⟨m - 1, by omega⟩
    have h0 := ih m bd (by omega) (by omega)
    have qi : prim .isin [.str (Str.ofString "box"), .tuple [.str (Str.ofString "app"), .str (Str.ofString "pair")]] = some (.bool false) := by kernel_rfl
    rw [call_eq (d := p__law_put) _ rfl rfl]
    show endR (evSs (ctxN pgm m) pgm.wf c__law_put (startE 4 [.d (.tuple [.str "box", a.d]), .r n, .d (.list (bd.map .str))]) st) = _
    simp only [sbT]
    generalize sbT g a bd = S0 at *
    generalize a.d = D0 at *
    generalize bd.map PyData.str = B at *
    simp -implicitDefEqProofs [c__law_put, startE, qi, h0, Tm.d]
  | op s a b iha ihb =>
    intro m bd hm hb
    simp only [Tm.dp] at hm hb
    obtain ⟨m, rfl⟩ : ∃ e, m = e + 1 := ⟨m - 1, by omega⟩
    have h0 := iha m bd (by omega) (by omega)
    have h1 := ihb m bd (by omega) (by omega)
    have qi : prim .isin [.str (Str.ofString "op"), .tuple [.str (Str.ofString "app"), .str (Str.ofString "pair")]] = some (.bool false) := by kernel_rfl
    rw [call_eq (d := p__law_put) _ rfl rfl]
    show endR (evSs (ctxN pgm m) pgm.wf c__law_put (startE 4 [.d (.tuple [.str "op", .str s, a.d, b.d]), .r n, .d (.list (bd.map .str))]) st) = _
    simp only [sbT]
    generalize sbT g a bd = S0 at *
    generalize a.d = D0 at *
    generalize sbT g b bd = S1 at *
    generalize b.d = D1 at *
    generalize bd.map PyData.str = B at *
    simp -implicitDefEqProofs [c__law_put, startE, qi, h0, h1, Tm.d]
theorem a_repl (n : Nat) (g : List (Str × Tm)) (st : Sto) (hst : st[n]? = some (.dct (dD g))) : ∀ (t : Tm) (m : Nat) (bd : List Str), t.dp + 1 ≤ m → bd.length + 2 * t.dp ≤ 10000 → callN pgm m i_replaced [.d t.d, .r n, .d (.tuple (bd.map .str))] st = .ok (.d (sbT g t bd).d) st := by
  have hO := onD_of hst
  intro t
  induction t with
  | var x =>
    intro m bd hm hb
    obtain ⟨m, rfl⟩ : ∃ e, m = e + 1 := ⟨m - 1, by omega⟩
    have q := p_intu x bd
    have lk := look_dD g x
    have qi : prim .isin [.str (Str.ofString "var"), .tuple [.str (Str.ofString "app"), .str (Str.ofString "pair")]] = some (.bool false) := by kernel_rfl
    rw [call_eq (d := p_replaced) _ rfl rfl]
    show endR (evSs (ctxN pgm m) pgm.wf c_replaced (startE 6 [.d (.tuple [.str "var", .str x]), .r n, .d (.tuple (bd.map .str))]) st) = _
    simp only [sbT]
    generalize bd.map PyData.str = B at *
    cases hc : bd.contains x with
    | true => rw [hc] at q; simp -implicitDefEqProofs [c_replaced, startE, q, hO, Tm.d]
    | false =>
      rw [hc] at q
      cases hl : lkT g x with
      | none =>
        rw [hl] at lk
        have lk : lookD (n, dD g).2 x = none := lk
        simp -implicitDefEqProofs [c_replaced, startE, q, hO, lk, dgetD_n lk, Tm.d]
      | some t =>
        rw [hl] at lk
        have lk : lookD (n, dD g).2 x = some t.d := lk
        simp -implicitDefEqProofs [c_replaced, startE, q, hO, lk, dgetD_s lk, dget_s lk, Tm.d]
  | num i =>
    intro m bd hm hb
    obtain ⟨m, rfl⟩ : ∃ e, m = e + 1 := ⟨m - 1, by omega⟩
    have qi : prim .isin [.str (Str.ofString "num"), .tuple [.str (Str.ofString "app"), .str (Str.ofString "pair")]] = some (.bool false) := by kernel_rfl
    rw [call_eq (d := p_replaced) _ rfl rfl]
    show endR (evSs (ctxN pgm m) pgm.wf c_replaced (startE 6 [.d (.tuple [.str "num", .int i]), .r n, .d (.tuple (bd.map .str))]) st) = _
    simp only [sbT]
    generalize bd.map PyData.str = B at *
    simp -implicitDefEqProofs [c_replaced, startE, qi, Tm.d]
  | lam x k a ih =>
    intro m bd hm hb
    simp only [Tm.dp] at hm hb
    obtain ⟨m, rfl⟩ : ∃ e, m = e + 1 := ⟨m - 1, by omega⟩
    have h0 := ih m (bd ++ [x]) (by omega) (by simp; omega)
    have q := p_catt (xs := bd.map PyData.str) (ys := [.str x]) (by simp; omega)
    rw [show bd.map PyData.str ++ [PyData.str x] = (bd ++ [x]).map .str by simp] at q
    have qi : prim .isin [.str (Str.ofString "lam"), .tuple [.str (Str.ofString "app"), .str (Str.ofString "pair")]] = some (.bool false) := by kernel_rfl
    rw [call_eq (d := p_replaced) _ rfl rfl]
    show endR (evSs (ctxN pgm m) pgm.wf c_replaced (startE 6 [.d (.tuple [.str "lam", .str x, k.d, a.d]), .r n, .d (.tuple (bd.map .str))]) st) = _
    simp only [sbT]
    generalize sbT g a (bd ++ [x]) = S0 at *
    generalize a.d = D0 at *
    generalize (bd ++ [x]).map PyData.str = B2 at *
    generalize bd.map PyData.str = B at *
    simp -implicitDefEqProofs [c_replaced, startE, qi, h0, q, Tm.d]
  | let_ x a b iha ihb =>
    intro m bd hm hb
    simp only [Tm.dp] at hm hb
    obtain ⟨m, rfl⟩ : ∃ e, m = e + 1 := ⟨m - 1, by omega⟩
    have h0 := iha m bd (by omega) (by omega)
    have h1 := ihb m (bd ++ [x]) (by omega) (by simp; omega)
    have q := p_catt (xs := bd.map PyData.str) (ys := [.str x]) (by simp; omega)
    rw [show bd.map PyData.str ++ [PyData.str x] = (bd ++ [x]).map .str by simp] at q
    have qi : prim .isin [.str (Str.ofString "let"), .tuple [.str (Str.ofString "app"), .str (Str.ofString "pair")]] = some (.bool false) := by kernel_rfl
    rw [call_eq (d := p_replaced) _ rfl rfl]
    show endR (evSs (ctxN pgm m) pgm.wf c_replaced (startE 6 [.d (.tuple [.str "let", .str x, a.d, b.d]), .r n, .d (.tuple (bd.map .str))]) st) = _
    simp only [sbT]
    generalize sbT g a bd = S0 at *
    generalize a.d = D0 at *
    generalize sbT g b (bd ++ [x]) = S1 at *
    generalize b.d = D1 at *
    generalize (bd ++ [x]).map PyData.str = B2 at *
    generalize bd.map PyData.str = B at *
    simp -implicitDefEqProofs [c_replaced, startE, qi, h0, h1, q, Tm.d]
  | split x y a b iha ihb =>
    intro m bd hm hb
    simp only [Tm.dp] at hm hb
    obtain ⟨m, rfl⟩ : ∃ e, m = e + 1 := ⟨m - 1, by omega⟩
    have h0 := iha m bd (by omega) (by omega)
    have h1 := ihb m (bd ++ [x, y]) (by omega) (by simp; omega)
    have q := p_catt (xs := bd.map PyData.str) (ys := [.str x, .str y]) (by simp; omega)
    rw [show bd.map PyData.str ++ [PyData.str x, PyData.str y] = (bd ++ [x, y]).map .str by simp] at q
    have qi : prim .isin [.str (Str.ofString "split"), .tuple [.str (Str.ofString "app"), .str (Str.ofString "pair")]] = some (.bool false) := by kernel_rfl
    rw [call_eq (d := p_replaced) _ rfl rfl]
    show endR (evSs (ctxN pgm m) pgm.wf c_replaced (startE 6 [.d (.tuple [.str "split", .str x, .str y, a.d, b.d]), .r n, .d (.tuple (bd.map .str))]) st) = _
    simp only [sbT]
    generalize sbT g a bd = S0 at *
    generalize a.d = D0 at *
    generalize sbT g b (bd ++ [x, y]) = S1 at *
    generalize b.d = D1 at *
    generalize (bd ++ [x, y]).map PyData.str = B2 at *
    generalize bd.map PyData.str = B at *
    simp -implicitDefEqProofs [c_replaced, startE, qi, h0, h1, q, Tm.d]
  | pair a b iha ihb =>
    intro m bd hm hb
    simp only [Tm.dp] at hm hb
    obtain ⟨m, rfl⟩ : ∃ e, m = e + 1 := ⟨m - 1, by omega⟩
    have h0 := iha m bd (by omega) (by omega)
    have h1 := ihb m bd (by omega) (by omega)
    have qi : prim .isin [.str (Str.ofString "pair"), .tuple [.str (Str.ofString "app"), .str (Str.ofString "pair")]] = some (.bool true) := by kernel_rfl
    rw [call_eq (d := p_replaced) _ rfl rfl]
    show endR (evSs (ctxN pgm m) pgm.wf c_replaced (startE 6 [.d (.tuple [.str "pair", a.d, b.d]), .r n, .d (.tuple (bd.map .str))]) st) = _
    simp only [sbT]
    generalize sbT g a bd = S0 at *
    generalize a.d = D0 at *
    generalize sbT g b bd = S1 at *
    generalize b.d = D1 at *
    generalize bd.map PyData.str = B at *
    simp -implicitDefEqProofs [c_replaced, startE, qi, h0, h1, Tm.d]
  | app a b iha ihb =>
    intro m bd hm hb
    simp only [Tm.dp] at hm hb
    obtain ⟨m, rfl⟩ : ∃ e, m = e + 1 := ⟨m - 1, by omega⟩
    have h0 := iha m bd (by omega) (by omega)
    have h1 := ihb m bd (by omega) (by omega)
    have qi : prim .isin [.str (Str.ofString "app"), .tuple [.str (Str.ofString "app"), .str (Str.ofString "pair")]] = some (.bool true) := by kernel_rfl
    rw [call_eq (d := p_replaced) _ rfl rfl]
    show endR (evSs (ctxN pgm m) pgm.wf c_replaced (startE 6 [.d (.tuple [.str "app", a.d, b.d]), .r n, .d (.tuple (bd.map .str))]) st) = _
    simp only [sbT]
    generalize sbT g a bd = S0 at *
    generalize a.d = D0 at *
    generalize sbT g b bd = S1 at *
    generalize b.d = D1 at *
    generalize bd.map PyData.str = B at *
    simp -implicitDefEqProofs [c_replaced, startE, qi, h0, h1, Tm.d]
  | box a ih =>
    intro m bd hm hb
    simp only [Tm.dp] at hm hb
    obtain ⟨m, rfl⟩ : ∃ e, m = e + 1 := ⟨m - 1, by omega⟩
    have h0 := ih m bd (by omega) (by omega)
    have qi : prim .isin [.str (Str.ofString "box"), .tuple [.str (Str.ofString "app"), .str (Str.ofString "pair")]] = some (.bool false) := by kernel_rfl
    rw [call_eq (d := p_replaced) _ rfl rfl]
    show endR (evSs (ctxN pgm m) pgm.wf c_replaced (startE 6 [.d (.tuple [.str "box", a.d]), .r n, .d (.tuple (bd.map .str))]) st) = _
    simp only [sbT]
    generalize sbT g a bd = S0 at *
    generalize a.d = D0 at *
    generalize bd.map PyData.str = B at *
    simp -implicitDefEqProofs [c_replaced, startE, qi, h0, Tm.d]
  | op s a b iha ihb =>
    intro m bd hm hb
    simp only [Tm.dp] at hm hb
    obtain ⟨m, rfl⟩ : ∃ e, m = e + 1 := ⟨m - 1, by omega⟩
    have h0 := iha m bd (by omega) (by omega)
    have h1 := ihb m bd (by omega) (by omega)
    have qi : prim .isin [.str (Str.ofString "op"), .tuple [.str (Str.ofString "app"), .str (Str.ofString "pair")]] = some (.bool false) := by kernel_rfl
    rw [call_eq (d := p_replaced) _ rfl rfl]
    show endR (evSs (ctxN pgm m) pgm.wf c_replaced (startE 6 [.d (.tuple [.str "op", .str s, a.d, b.d]), .r n, .d (.tuple (bd.map .str))]) st) = _
    simp only [sbT]
    generalize sbT g a bd = S0 at *
    generalize a.d = D0 at *
    generalize sbT g b bd = S1 at *
    generalize b.d = D1 at *
    generalize bd.map PyData.str = B at *
    simp -implicitDefEqProofs [c_replaced, startE, qi, h0, h1, Tm.d]

/-! ## linking -/
def FitG (M : Nat) (g : List (Str × Tm)) : Prop := ∀ p ∈ g, p.2.fit ∧ p.2.dp ≤ M
theorem lkT_mem {g : List (Str × Tm)} {x : Str} {t : Tm} (h : lkT g x = some t) : ∃ p ∈ g, p.2 = t := by
  unfold lkT at h
  obtain ⟨p, hp, e⟩ := Option.map_eq_some_iff.mp h
  exact ⟨p, List.mem_of_find?_eq_some hp, e⟩
theorem sb_fit {M : Nat} {g : List (Str × Tm)} (hg : FitG M g) : ∀ (t : Tm) (bd : List Str), t.fit → (sbT g t bd).fit ∧ (sbT g t bd).dp ≤ t.dp + M
  | .var x, bd, h => by
    simp only [sbT]
    split
    · exact ⟨h, by omega⟩
    · cases hl : lkT g x with
      | none => exact ⟨h, by show (Tm.var x).dp ≤ _; omega⟩
      | some t =>
        obtain ⟨p, mp, rfl⟩ := lkT_mem hl
        have := hg p mp
        exact ⟨this.1, by show p.2.dp ≤ _; have := this.2; omega⟩
  | .num i, bd, h => ⟨h, by simp only [sbT]; omega⟩
  | .lam x k a, bd, h => by
    simp only [Tm.fit] at h
    have i1 := sb_fit hg a (bd ++ [x]) h.2.2
    simp only [sbT, Tm.fit, Tm.dp]
    exact ⟨⟨h.1, h.2.1, i1.1⟩, by omega⟩
  | .let_ x a b, bd, h => by
    simp only [Tm.fit] at h
    have i1 := sb_fit hg a bd h.2.1
    have i2 := sb_fit hg b (bd ++ [x]) h.2.2
    simp only [sbT, Tm.fit, Tm.dp]
    exact ⟨⟨h.1, i1.1, i2.1⟩, by omega⟩
  | .split x y a b, bd, h => by
    simp only [Tm.fit] at h
    have i1 := sb_fit hg a bd h.2.2.1
    have i2 := sb_fit hg b (bd ++ [x, y]) h.2.2.2
    simp only [sbT, Tm.fit, Tm.dp]
    exact ⟨⟨h.1, h.2.1, i1.1, i2.1⟩, by omega⟩
  | .pair a b, bd, h => by
    simp only [Tm.fit] at h
    have i1 := sb_fit hg a bd h.1
    have i2 := sb_fit hg b bd h.2
    simp only [sbT, Tm.fit, Tm.dp]
    exact ⟨⟨i1.1, i2.1⟩, by omega⟩
  | .app a b, bd, h => by
    simp only [Tm.fit] at h
    have i1 := sb_fit hg a bd h.1
    have i2 := sb_fit hg b bd h.2
    simp only [sbT, Tm.fit, Tm.dp]
    exact ⟨⟨i1.1, i2.1⟩, by omega⟩
  | .box a, bd, h => by
    simp only [Tm.fit] at h
    have i1 := sb_fit hg a bd h
    simp only [sbT, Tm.fit, Tm.dp]
    exact ⟨i1.1, by omega⟩
  | .op s a b, bd, h => by
    simp only [Tm.fit] at h
    have i1 := sb_fit hg a bd h.2.1
    have i2 := sb_fit hg b bd h.2.2
    simp only [sbT, Tm.fit, Tm.dp]
    exact ⟨⟨h.1, i1.1, i2.1⟩, by omega⟩
/-- the first free name that is not known -/
def unk1 (g : List (Str × Tm)) (xs : List Str) : Option Str := xs.find? fun x => (lkT g x).isNone
def nxG (g : List (Str × Tm)) (d : Dc) : List (Str × Tm) := g ++ [(d.x, sbT g d.t [])]
def unk : List (Str × Tm) → List Dc → Option Str
  | _, [] => none
  | g, d :: ds => match unk1 g (d.t.fr []) with
    | some x => some x
    | none => unk (nxG g d) ds
def allG : List (Str × Tm) → List Dc → List (Str × Tm)
  | g, [] => g
  | g, d :: ds => allG (nxG g d) ds
theorem put_new (g : List (Str × Tm)) (x : Str) (t : Tm) (h : ∀ p ∈ g, p.1 ≠ x) : putD (dD g) x t.d = dD (g ++ [(x, t)]) := by
  unfold putD dD
  have e : ((g.map fun kv => (kv.1, kv.2.d)).any fun kv => decide (kv.1 = x)) = false := by
    rw [List.any_eq_false]
    intro p mp
    obtain ⟨q, mq, rfl⟩ := List.mem_map.mp mp
    simpa using h q mq
  rw [e, if_neg Bool.false_ne_true, List.map_append]
  rfl

def bIn : List CS := [.ite (.din true (.var 5) (.var 1)) [.rsf 0 "name" (.var 5)] []]
def bOut : List CS := [c_linked_terms_L1, .dput (.var 1) (.var 2) (.call 3 [(.var 4), (.var 1), (.tup [])])]
section
variable (m : Nat) (hm : 400 ≤ m) (P : PyData)
include hm
theorem lt_in (g : List (Str × Tm)) (a2 a3 a4 : Option Sv) : ∀ (xs : List Str) (a5 : Option Sv), match unk1 g xs with
    | some x => ∃ env, loopF (fun x env st => evT (ctxN pgm m) (.name 5) (.d x) env st) (fun env st => evSs (ctxN pgm m) pgm.wf bIn env st) (xs.map .str) [some (.d P), some (.r 0), a2, a3, a4, a5] [.dct (dD g)] = .exc 0 [("name", .str x)] env [.dct (dD g)]
    | none => ∃ a5', loopF (fun x env st => evT (ctxN pgm m) (.name 5) (.d x) env st) (fun env st => evSs (ctxN pgm m) pgm.wf bIn env st) (xs.map .str) [some (.d P), some (.r 0), a2, a3, a4, a5] [.dct (dD g)] = .next [some (.d P), some (.r 0), a2, a3, a4, a5'] [.dct (dD g)]
  | [], a5 => ⟨a5, rfl⟩
  | x :: xs, a5 => by
    have hdp := deepN pgm m (by omega)
    have hO := onD_of (st := [.dct (dD g)]) (n := 0) (kvs := dD g) rfl
    have lk := look_dD g x
    have e0 : loopF (fun x env st => evT (ctxN pgm m) (.name 5) (.d x) env st) (fun env st => evSs (ctxN pgm m) pgm.wf bIn env st) ((x :: xs).map .str) [some (.d P), some (.r 0), a2, a3, a4, a5] [.dct (dD g)] = afterB (evSs (ctxN pgm m) pgm.wf bIn [some (.d P), some (.r 0), a2, a3, a4, some (.d (.str x))] [.dct (dD g)]) fun env2 st2 => loopF (fun x env st => evT (ctxN pgm m) (.name 5) (.d x) env st) (fun env st => evSs (ctxN pgm m) pgm.wf bIn env st) (xs.map .str) env2 st2 := rfl
    have ih := lt_in g a2 a3 a4 xs (some (.d (.str x)))
    rw [e0]
    cases hl : lkT g x with
    | none =>
      rw [hl] at lk
      have lk : lookD (dD g) x = none := lk
      have eu : unk1 g (x :: xs) = some x := by unfold unk1; rw [List.find?_cons, hl]; rfl
      rw [eu]
      refine ⟨[some (.d P), some (.r 0), a2, a3, a4, some (.d (.str x))], ?_⟩
      have e1 : evSs (ctxN pgm m) pgm.wf bIn [some (.d P), some (.r 0), a2, a3, a4, some (.d (.str x))] [.dct (dD g)] = .exc 0 [("name", .str x)] [some (.d P), some (.r 0), a2, a3, a4, some (.d (.str x))] [.dct (dD g)] := by
        generalize dD g = kv at *
        simp -implicitDefEqProofs [bIn, hO, lk, w_rsf _ _ _ _ _ _ _ hdp, lift]
      rw [e1]
      rfl
    | some t =>
      rw [hl] at lk
      have lk : lookD (dD g) x = some t.d := lk
      have eu : unk1 g (x :: xs) = unk1 g xs := by unfold unk1; rw [List.find?_cons, hl]; rfl
      rw [eu]
      have e1 : evSs (ctxN pgm m) pgm.wf bIn [some (.d P), some (.r 0), a2, a3, a4, some (.d (.str x))] [.dct (dD g)] = .next [some (.d P), some (.r 0), a2, a3, a4, some (.d (.str x))] [.dct (dD g)] := by
        generalize dD g = kv at *
        generalize t.d = TD at *
        simp -implicitDefEqProofs [bIn, hO, lk]
      rw [e1]
      exact ih
theorem lt_out : ∀ (ds : List Dc) (g : List (Str × Tm)) (a2 a3 a4 a5 : Option Sv), (∀ d ∈ ds, d.t.sz ≤ 1000 ∧ d.t.dp ≤ 300) → (g.map (·.1) ++ ds.map (·.x)).Nodup → g.length + ds.length ≤ 1000 → match unk g ds with
    | some x => ∃ env st, loopF (fun x env st => evT (ctxN pgm m) (.tup [2, 3, 4]) (.d x) env st) (fun env st => evSs (ctxN pgm m) pgm.wf bOut env st) (ds.map Dc.d) [some (.d P), some (.r 0), a2, a3, a4, a5] [.dct (dD g)] = .exc 0 [("name", .str x)] env st
    | none => ∃ a2' a3' a4' a5', loopF (fun x env st => evT (ctxN pgm m) (.tup [2, 3, 4]) (.d x) env st) (fun env st => evSs (ctxN pgm m) pgm.wf bOut env st) (ds.map Dc.d) [some (.d P), some (.r 0), a2, a3, a4, a5] [.dct (dD g)] = .next [some (.d P), some (.r 0), a2', a3', a4', a5'] [.dct (dD (allG g ds))]
  | [], g, a2, a3, a4, a5, _, _, _ => ⟨a2, a3, a4, a5, rfl⟩
  | d :: ds, g, a2, a3, a4, a5, hs, hn, hl => by
    obtain ⟨s1, s2⟩ := hs d List.mem_cons_self
    have e0 : loopF (fun x env st => evT (ctxN pgm m) (.tup [2, 3, 4]) (.d x) env st) (fun env st => evSs (ctxN pgm m) pgm.wf bOut env st) ((d :: ds).map Dc.d) [some (.d P), some (.r 0), a2, a3, a4, a5] [.dct (dD g)] = afterB (evSs (ctxN pgm m) pgm.wf bOut [some (.d P), some (.r 0), some (.d (.str d.x)), some (.d d.k.d), some (.d d.t.d), a5] [.dct (dD g)]) fun env2 st2 => loopF (fun x env st => evT (ctxN pgm m) (.tup [2, 3, 4]) (.d x) env st) (fun env st => evSs (ctxN pgm m) pgm.wf bOut env st) (ds.map Dc.d) env2 st2 := rfl
    have fo := a_fo d.t s1 m [] (by omega) (by simp; omega)
    have rp := a_repl 0 g [.dct (dD g)] rfl d.t m [] (by omega) (by simp; omega)
    have inn := lt_in m hm P g (some (.d (.str d.x))) (some (.d d.k.d)) (some (.d d.t.d)) (d.t.fr []) a5
    have hI : evI (ctxN pgm m) (.lst (.call 2 [(.var 4), (.tup [])])) [some (.d P), some (.r 0), some (.d (.str d.x)), some (.d d.k.d), some (.d d.t.d), a5] [.dct (dD g)] = .ok ((d.t.fr []).map .str) [.dct (dD g)] := by
      have fo : Ans pgm m 2 [d.t.d, .tuple []] (.list ((d.t.fr []).map .str)) := fo
      generalize (d.t.fr []).map PyData.str = Z at *
      generalize d.t.d = TD at *
      generalize d.k.d = KD at *
      simp -implicitDefEqProofs [call2 fo]
    have eL : evS (ctxN pgm m) pgm.wf c_linked_terms_L1 [some (.d P), some (.r 0), some (.d (.str d.x)), some (.d d.k.d), some (.d d.t.d), a5] [.dct (dD g)] = loopF (fun x env st => evT (ctxN pgm m) (.name 5) (.d x) env st) (fun env st => evSs (ctxN pgm m) pgm.wf bIn env st) ((d.t.fr []).map .str) [some (.d P), some (.r 0), some (.d (.str d.x)), some (.d d.k.d), some (.d d.t.d), a5] [.dct (dD g)] := by
      show (match evI (ctxN pgm m) (.lst (.call 2 [(.var 4), (.tup [])])) [some (.d P), some (.r 0), some (.d (.str d.x)), some (.d d.k.d), some (.d d.t.d), a5] [.dct (dD g)] with
        | .ok xs st1 => loopF (fun x env st => evT (ctxN pgm m) (.name 5) (.d x) env st) (fun env st => evSs (ctxN pgm m) pgm.wf bIn env st) xs [some (.d P), some (.r 0), some (.d (.str d.x)), some (.d d.k.d), some (.d d.t.d), a5] st1
        | .exc c p st1 => .exc c p [some (.d P), some (.r 0), some (.d (.str d.x)), some (.d d.k.d), some (.d d.t.d), a5] st1
        | .bad => .bad) = _
      rw [hI]
    rw [e0]
    show match (match unk1 g (d.t.fr []) with
      | some x => some x
      | none => unk (nxG g d) ds) with
      | some x => _
      | none => _
    cases hu : unk1 g (d.t.fr []) with
    | some x =>
      rw [hu] at inn
      obtain ⟨env, e1⟩ := inn
      refine ⟨env, [.dct (dD g)], ?_⟩
      rw [bOut, ss_cons, eL, e1]
      rfl
    | none =>
      rw [hu] at inn
      obtain ⟨a5', e1⟩ := inn
      have hfr : ∀ p ∈ g, p.1 ≠ d.x := fun p mp e => by
        have h1 : p.1 ∈ g.map (·.1) := List.mem_map.mpr ⟨p, mp, rfl⟩
        exact (List.nodup_append.mp hn).2.2 p.1 h1 d.x (by rw [List.map_cons]; exact List.mem_cons_self) e
      have eP : putD (dD g) d.x (sbT g d.t []).d = dD (nxG g d) := put_new g d.x _ hfr
      have hlen : (dD g).length < 1000000 := by unfold dD; rw [List.length_map]; omega
      have eC : evE (ctxN pgm m) (.call 3 [(.var 4), (.var 1), (.tup [])]) [some (.d P), some (.r 0), some (.d (.str d.x)), some (.d d.k.d), some (.d d.t.d), a5'] [.dct (dD g)] = .ok (.d (sbT g d.t []).d) [.dct (dD g)] := by
        have rp : callN pgm m 3 [.d d.t.d, .r 0, .d (.tuple [])] [.dct (dD g)] = .ok (.d (sbT g d.t []).d) [.dct (dD g)] := rp
        generalize (sbT g d.t []).d = RD at *
        generalize d.t.d = TD at *
        generalize d.k.d = KD at *
        generalize dD g = kv at *
        simp -implicitDefEqProofs [rp]
      have eD : evS (ctxN pgm m) pgm.wf (.dput (.var 1) (.var 2) (.call 3 [(.var 4), (.var 1), (.tup [])])) [some (.d P), some (.r 0), some (.d (.str d.x)), some (.d d.k.d), some (.d d.t.d), a5'] [.dct (dD g)] = .next [some (.d P), some (.r 0), some (.d (.str d.x)), some (.d d.k.d), some (.d d.t.d), a5'] [.dct (dD (nxG g d))] := by
        show lift _ (evE (ctxN pgm m) (.call 3 [(.var 4), (.var 1), (.tup [])]) _ _) (fun s st1 => lift _ (evE (ctxN pgm m) (.var 1) _ st1) fun so st2 => lift _ (evE (ctxN pgm m) (.var 2) _ st2) fun si st3 => dputR _ s (onD st3 so) (strK si) st3) = _
        rw [eC]
        show (match decide ((dD g).length < 1000000) with
          | true => SRs.next _ (setC [.dct (dD g)] 0 (.dct (putD (dD g) d.x (sbT g d.t []).d)))
          | false => .bad) = _
        rw [decide_eq_true hlen, eP]
        rfl
      have ih := lt_out ds (nxG g d) (some (.d (.str d.x))) (some (.d d.k.d)) (some (.d d.t.d)) a5' (fun x mx => hs x (List.mem_cons_of_mem _ mx)) (by
        unfold nxG
        rw [List.map_append, List.append_assoc]
        exact hn) (by unfold nxG; rw [List.length_append, List.length_singleton]; rw [List.length_cons] at hl; omega)
      rw [bOut, ss_cons, eL, e1, q_next, ss_cons, eD]
      exact ih
end

theorem keys_all : ∀ (ds : List Dc) (g : List (Str × Tm)), (allG g ds).map (·.1) = g.map (·.1) ++ ds.map (·.x)
  | [], g => by show g.map (·.1) = _; simp
  | d :: ds, g => by
    show (allG (nxG g d) ds).map (·.1) = _
    rw [keys_all ds (nxG g d)]
    unfold nxG
    simp
theorem lkT_some {x : Str} : ∀ {g : List (Str × Tm)}, x ∈ g.map (·.1) → ∃ t, lkT g x = some t
  | [], h => nomatch h
  | p :: g, h => by
    by_cases e : p.1 = x
    · exact ⟨p.2, by unfold lkT; rw [List.find?_cons, decide_eq_true e]; rfl⟩
    · rw [List.map_cons] at h
      rcases List.mem_cons.mp h with h | h
      · exact absurd h.symm e
      · obtain ⟨t, ht⟩ := lkT_some h
        exact ⟨t, by unfold lkT at *; rw [List.find?_cons, decide_eq_false e]; exact ht⟩
theorem fit_all {N : Nat} : ∀ (ds : List Dc) (g : List (Str × Tm)) (M : Nat), FitG M g → (∀ d ∈ ds, d.t.fit ∧ d.t.dp ≤ N) → FitG (M + N * ds.length) (allG g ds)
  | [], g, M, h, _ => h
  | d :: ds, g, M, h, hd => by
    obtain ⟨f1, f2⟩ := hd d List.mem_cons_self
    have q := sb_fit h d.t [] f1
    have h2 : FitG (M + N) (nxG g d) := fun p mp => by
      unfold nxG at mp
      rcases List.mem_append.mp mp with mp | mp
      · exact ⟨(h p mp).1, by have := (h p mp).2; omega⟩
      · rw [List.mem_singleton.mp mp]
        exact ⟨q.1, by show (sbT g d.t []).dp ≤ _; have := q.2; omega⟩
    have ih := fit_all ds (nxG g d) (M + N) h2 fun x mx => hd x (List.mem_cons_of_mem _ mx)
    show FitG _ (allG (nxG g d) ds)
    rw [List.length_cons, Nat.mul_succ, show M + (N * ds.length + N) = M + N + N * ds.length by omega]
    exact ih
theorem evCall_dct {c : List Sv → Sto → Rs Sv} {P : PyData} {k : Nat} {st2 : Sto} {kvs : List (Str × PyData)} (h : c [.d P] [] = .ok (.r k) st2) (h2 : st2[k]? = some (.dct kvs)) (st : Sto) : evCall c [.d P] st = .ok (.r st.length) (st ++ [Cell.dct kvs]) := by
  have e : evCall c [.d P] st = (match c [.d P] [] with
    | .ok (.d x) _ => .ok (.d x) st
    | .ok (.r m) st2 => (match st2[m]? with
      | some (.lst xs) => (match allD xs with
        | some ys => .ok (.r st.length) (st ++ [Cell.lst (ys.map .d)])
        | none => .bad)
      | some (.dct kvs) => .ok (.r st.length) (st ++ [Cell.dct kvs])
      | _ => .bad)
    | .exc c p _ => .exc c p st
    | _ => .bad) := rfl
  rw [e, h]
  show (match st2[k]? with
      | some (.lst xs) => (match allD xs with
        | some ys => (Rs.ok (Sv.r st.length) (st ++ [Cell.lst (ys.map .d)]) : Rs Sv)
        | none => .bad)
      | some (.dct kvs) => .ok (.r st.length) (st ++ [Cell.dct kvs])
      | _ => .bad) = _
  rw [h2]
theorem p_notl (x : Str) (zs : List Str) : prim .notin [.str x, .list (zs.map PyData.str)] = some (.bool (!zs.contains x)) := by
  have h := p_inl x zs
  have h1 : guard1 (flat (.str x) && (zs.map PyData.str).all flat) (PyData.bool (inD (.str x) (zs.map PyData.str))) = some (.bool (zs.contains x)) := h
  show guard1 (flat (.str x) && (zs.map PyData.str).all flat) (PyData.bool (!inD (.str x) (zs.map PyData.str))) = _
  cases hg : (flat (.str x) && (zs.map PyData.str).all flat) with
  | false => rw [hg] at h1; cases h1
  | true =>
    rw [hg] at h1
    have e := PyData.bool.inj (Option.some.inj h1)
    rw [e]
    rfl
theorem a_lt (m : Nat) (hm : 400 ≤ m) (ps : List Dc) (hs : ∀ d ∈ ps, d.t.sz ≤ 1000 ∧ d.t.dp ≤ 300) (hn : (ps.map (·.x)).Nodup) (hl : ps.length ≤ 5) : match unk [] ps with
    | some u => Exf pgm (m + 1) i_linked_terms [.list (ps.map Dc.d)] 0 [("name", .str u)]
    | none => ∃ st, callN pgm (m + 1) i_linked_terms [.d (.list (ps.map Dc.d))] [] = .ok (.r 0) st ∧ st[0]? = some (.dct (dD (allG [] ps))) := by
  have lo := lt_out m hm (.list (ps.map Dc.d)) ps [] none none none none hs hn (by show 0 + ps.length ≤ 1000; omega)
  have e2 : evS (ctxN pgm m) pgm.wf c_linked_terms_L2 [some (.d (.list (ps.map Dc.d))), some (.r 0), none, none, none, none] [.dct []] = loopF (fun x env st => evT (ctxN pgm m) (.tup [2, 3, 4]) (.d x) env st) (fun env st => evSs (ctxN pgm m) pgm.wf bOut env st) (ps.map Dc.d) [some (.d (.list (ps.map Dc.d))), some (.r 0), none, none, none, none] [.dct (dD [])] := rfl
  cases hu : unk [] ps with
  | some u =>
    rw [hu] at lo
    obtain ⟨env, st, lo⟩ := lo
    rw [← e2] at lo
    refine ⟨st, ?_⟩
    rw [call_eq (d := p_linked_terms) _ rfl rfl]
    show endR (evSs (ctxN pgm m) pgm.wf c_linked_terms [some (.d (.list (ps.map Dc.d))), none, none, none, none, none] []) = _
    have ed : evS (ctxN pgm m) pgm.wf (.set (.name 1) .dnew) [some (.d (.list (ps.map Dc.d))), none, none, none, none, none] [] = .next [some (.d (.list (ps.map Dc.d))), some (.r 0), none, none, none, none] [.dct []] := rfl
    rw [c_linked_terms, ss_cons, ed, q_next, ss_cons, lo]
    rfl
  | none =>
    rw [hu] at lo
    obtain ⟨a2, a3, a4, a5, lo⟩ := lo
    rw [← e2] at lo
    refine ⟨[.dct (dD (allG [] ps))], ?_, rfl⟩
    rw [call_eq (d := p_linked_terms) _ rfl rfl]
    show endR (evSs (ctxN pgm m) pgm.wf c_linked_terms [some (.d (.list (ps.map Dc.d))), none, none, none, none, none] []) = _
    have ed : evS (ctxN pgm m) pgm.wf (.set (.name 1) .dnew) [some (.d (.list (ps.map Dc.d))), none, none, none, none, none] [] = .next [some (.d (.list (ps.map Dc.d))), some (.r 0), none, none, none, none] [.dct []] := rfl
    rw [c_linked_terms, ss_cons, ed, q_next, ss_cons, lo]
    rfl
theorem a_linked (m : Nat) (hm : 400 ≤ m) (ps : List Dc) (hs : ∀ d ∈ ps, d.t.sz ≤ 1000 ∧ d.t.dp ≤ 300) (hn : (ps.map (·.x)).Nodup) (hl : ps.length ≤ 5) (w : Str) : match (if (ps.map (·.x)).contains w then unk [] ps else some w) with
    | some u => Exf pgm (m + 2) i_linked [.list (ps.map Dc.d), .str w] 0 [("name", .str u)]
    | none => ∃ t, lkT (allG [] ps) w = some t ∧ Ans pgm (m + 2) i_linked [.list (ps.map Dc.d), .str w] t.d := by
  have hdp := deepN pgm (m + 1) (by omega)
  have hC : evE (ctxN pgm (m + 1)) c_linked_C1 [some (.d (.list (ps.map Dc.d))), some (.d (.str w)), none] [] = .ok (.d (.list ((ps.map (·.x)).map .str))) [] := by
    rw [c_linked_C1]
    have e : (ps.map (·.x)).map PyData.str = ps.map fun d => .str d.x := by rw [List.map_map]; rfl
    rw [e]
    refine lc_run Dc.d (fun p => .str p.x) ps (by simp -implicitDefEqProofs) (by omega) fun p mp => ?_
    generalize ps.map Dc.d = Y at *
    unfold Dc.d
    have a0 : atI [PyData.str p.x, p.k.d, p.t.d] 0 = some (.str p.x) := rfl
    generalize p.k.d = KD at *
    generalize p.t.d = TD at *
    simp -implicitDefEqProofs [a0]
  have pn := p_notl w (ps.map (·.x))
  have lt := a_lt m hm ps hs hn hl
  by_cases hc : (ps.map (·.x)).contains w = true
  · rw [if_pos hc]
    rw [hc] at pn
    have e0 : evS (ctxN pgm (m + 1)) pgm.wf (.ite (.op .notin [(.var 1), c_linked_C1]) [.rsf 0 "name" (.var 1)] []) [some (.d (.list (ps.map Dc.d))), some (.d (.str w)), none] [] = .next [some (.d (.list (ps.map Dc.d))), some (.d (.str w)), none] [] := by
      generalize (ps.map (·.x)).map PyData.str = NL at *
      generalize ps.map Dc.d = Y at *
      simp -implicitDefEqProofs [hC, pn]
    cases hu : unk [] ps with
    | some u =>
      rw [hu] at lt
      have q := exf1 lt
      refine ⟨[], ?_⟩
      rw [call_eq (d := p_linked) _ rfl rfl]
      show endR (evSs (ctxN pgm (m + 1)) pgm.wf c_linked [some (.d (.list (ps.map Dc.d))), some (.d (.str w)), none] []) = _
      rw [c_linked, ss_cons, e0, q_next, ss_cons]
      generalize ps.map Dc.d = Y at *
      have e1 : evE (ctxN pgm (m + 1)) (.call 4 [(.var 0)]) [some (.d (.list Y)), some (.d (.str w)), none] [] = .exc 0 [("name", .str u)] [] := by
        show evCall (callN pgm (m + 1) 4) [.d (.list Y)] [] = _
        exact q []
      show endR (seqS _ _ [] (lift _ (evE (ctxN pgm (m + 1)) (.dget (.call 4 [(.var 0)]) (.var 1)) _ _) _)) = _
      rw [w_dget, e1]
      rfl
    | none =>
      rw [hu] at lt
      obtain ⟨st2, l1, l2⟩ := lt
      have hw : w ∈ (allG [] ps).map (·.1) := by
        rw [keys_all]
        exact List.mem_append_right _ (List.contains_iff_mem.mp hc)
      obtain ⟨t, ht⟩ := lkT_some hw
      refine ⟨t, ht, [.dct (dD (allG [] ps))], ?_⟩
      have lk := look_dD (allG [] ps) w
      rw [ht] at lk
      have q := evCall_dct l1 l2 []
      show callN pgm (m + 2) i_linked [.d (.list (ps.map Dc.d)), .d (.str w)] [] = _
      rw [call_eq (d := p_linked) _ rfl rfl]
      show endR (evSs (ctxN pgm (m + 1)) pgm.wf c_linked [some (.d (.list (ps.map Dc.d))), some (.d (.str w)), none] []) = _
      rw [c_linked, ss_cons, e0, q_next, ss_cons]
      generalize ps.map Dc.d = Y at *
      generalize dD (allG [] ps) = kv at *
      have e1 : evE (ctxN pgm (m + 1)) (.call 4 [(.var 0)]) [some (.d (.list Y)), some (.d (.str w)), none] [] = .ok (.r 0) [.dct kv] := by
        show evCall (callN pgm (m + 1) 4) [.d (.list Y)] [] = _
        exact q
      have e2 : evE (ctxN pgm (m + 1)) (.dget (.call 4 [(.var 0)]) (.var 1)) [some (.d (.list Y)), some (.d (.str w)), none] [] = .ok (.d t.d) [.dct kv] := by
        rw [w_dget, e1]
        show dgetR (some (0, kv)) (some w) [.dct kv] = _
        exact dget_s lk _
      show endR (seqS _ _ [] (lift _ (evE (ctxN pgm (m + 1)) (.dget (.call 4 [(.var 0)]) (.var 1)) _ _) _)) = _
      rw [e2]
      rfl
  · rw [if_neg hc]
    rw [Bool.eq_false_iff.mpr hc] at pn
    refine ⟨[], ?_⟩
    rw [call_eq (d := p_linked) _ rfl rfl]
    show endR (evSs (ctxN pgm (m + 1)) pgm.wf c_linked [some (.d (.list (ps.map Dc.d))), some (.d (.str w)), none] []) = _
    generalize (ps.map (·.x)).map PyData.str = NL at *
    generalize ps.map Dc.d = Y at *
    simp -implicitDefEqProofs [c_linked, hC, pn, w_rsf _ _ _ _ _ _ _ hdp, lift]

/-! ## the law's loops -/
@[simp] theorem w_v14 (G : PV.Ctx) (a0 a1 a2 a3 a4 a5 a6 a7 a8 a9 a10 a11 a12 a13 : Option Sv) (s : Sv) (env : Ev) (st : Sto) : evE G (.var 14) (a0 :: a1 :: a2 :: a3 :: a4 :: a5 :: a6 :: a7 :: a8 :: a9 :: a10 :: a11 :: a12 :: a13 :: some s :: env) st = .ok s st := rfl
@[simp] theorem w_v15 (G : PV.Ctx) (a0 a1 a2 a3 a4 a5 a6 a7 a8 a9 a10 a11 a12 a13 a14 : Option Sv) (s : Sv) (env : Ev) (st : Sto) : evE G (.var 15) (a0 :: a1 :: a2 :: a3 :: a4 :: a5 :: a6 :: a7 :: a8 :: a9 :: a10 :: a11 :: a12 :: a13 :: a14 :: some s :: env) st = .ok s st := rfl
abbrev sOwn : Str := Str.ofString "own"
abbrev sSelf : Str := Str.ofString "self"
def wrp (t : Tm) (x : Str) : Tm := if ([sOwn, sSelf] : List Str).contains x = true then .lam x .int t else t
theorem own_gd : ∀ x ∈ ([sOwn, sSelf] : List Str), Gd 24 x := by
  intro x m
  have aux : ∀ s : Str, (PyData.strOk s && Nat.ble s.length 24) = true → Gd 24 s := fun s h => by
    obtain ⟨h1, h2⟩ := Bool.and_eq_true_iff.mp h
    exact ⟨h1, Nat.le_of_ble_eq_true h2⟩
  simp only [List.mem_cons, List.not_mem_nil, or_false] at m
  rcases m with rfl | rfl
  · exact aux _ (by decide +kernel)
  · exact aux _ (by decide +kernel)
theorem wrp_ok {t : Tm} (h : t.fit) (x : Str) : (wrp t x).fit ∧ (wrp t x).dp ≤ t.dp + 1 ∧ (wrp t x).sz ≤ t.sz + 1 := by
  unfold wrp
  split
  · rename_i hc
    have g := own_gd x (List.contains_iff_mem.mp hc)
    simp only [Tm.fit, Tm.dp, Tm.sz]
    exact ⟨⟨g, by show 1 ≤ 4; decide, h⟩, by omega, by omega⟩
  · exact ⟨h, by omega, by omega⟩
theorem wrps_ok : ∀ (xs : List Str) (t : Tm), t.fit → (xs.foldl wrp t).fit ∧ (xs.foldl wrp t).dp ≤ t.dp + xs.length ∧ (xs.foldl wrp t).sz ≤ t.sz + xs.length
  | [], t, h => ⟨h, Nat.le_refl _, Nat.le_refl _⟩
  | x :: xs, t, h => by
    have h1 := wrp_ok h x
    have h2 := wrps_ok xs (wrp t x) h1.1
    rw [List.foldl_cons, List.length_cons]
    exact ⟨h2.1, by omega, by omega⟩
def bW : List CS := [.ite (.op .isin [(.var 14), (.tup [(.lit (.str "own")), (.lit (.str "self"))])]) [.set (.name 13) (.tup [(.lit (.str "lam")), (.var 14), (.tup [(.lit (.str "int"))]), (.var 13)])] []]
section
variable (m : Nat) (SS : PyData) (D : Int) (NL NU : PyData) (kk mn : Option Sv) (st : Sto)
theorem l_wrap : ∀ (xs : List Str) (t : Tm) (a14 : Option Sv), ∃ a14', loopF (fun x env st => evT (ctxN pgm m) (.name 14) (.d x) env st) (fun env st => evSs (ctxN pgm m) pgm.wf bW env st) (xs.map .str) [some (.d SS), some (.d (.int D)), some (.d NL), some (.d NU), some (.r 0), kk, none, none, none, none, none, none, mn, some (.d t.d), a14, none] st = .next [some (.d SS), some (.d (.int D)), some (.d NL), some (.d NU), some (.r 0), kk, none, none, none, none, none, none, mn, some (.d (xs.foldl wrp t).d), a14', none] st
  | [], t, a14 => ⟨a14, rfl⟩
  | x :: xs, t, a14 => by
    obtain ⟨a14', ih⟩ := l_wrap xs (wrp t x) (some (.d (.str x)))
    refine ⟨a14', ?_⟩
    have e0 : loopF (fun x env st => evT (ctxN pgm m) (.name 14) (.d x) env st) (fun env st => evSs (ctxN pgm m) pgm.wf bW env st) ((x :: xs).map .str) [some (.d SS), some (.d (.int D)), some (.d NL), some (.d NU), some (.r 0), kk, none, none, none, none, none, none, mn, some (.d t.d), a14, none] st = afterB (evSs (ctxN pgm m) pgm.wf bW [some (.d SS), some (.d (.int D)), some (.d NL), some (.d NU), some (.r 0), kk, none, none, none, none, none, none, mn, some (.d t.d), some (.d (.str x)), none] st) fun env2 st2 => loopF (fun x env st => evT (ctxN pgm m) (.name 14) (.d x) env st) (fun env st => evSs (ctxN pgm m) pgm.wf bW env st) (xs.map .str) env2 st2 := rfl
    have q := p_intu x [sOwn, sSelf]
    have q : prim .isin [.str x, .tuple [.str sOwn, .str sSelf]] = some (.bool (([sOwn, sSelf] : List Str).contains x)) := q
    have e1 : evSs (ctxN pgm m) pgm.wf bW [some (.d SS), some (.d (.int D)), some (.d NL), some (.d NU), some (.r 0), kk, none, none, none, none, none, none, mn, some (.d t.d), some (.d (.str x)), none] st = .next [some (.d SS), some (.d (.int D)), some (.d NL), some (.d NU), some (.r 0), kk, none, none, none, none, none, none, mn, some (.d (wrp t x).d), some (.d (.str x)), none] st := by
      unfold wrp
      cases hc : ([sOwn, sSelf] : List Str).contains x with
      | true =>
        rw [hc] at q
        rw [if_pos rfl]
        show _ = SRs.next [_, _, _, _, _, _, _, _, _, _, _, _, _, some (.d (.tuple [.str "lam", .str x, .tuple [.str "int"], t.d])), _, _] _
        generalize t.d = TD at *
        simp -implicitDefEqProofs [bW, q]
      | false =>
        rw [hc] at q
        rw [if_neg Bool.false_ne_true]
        generalize t.d = TD at *
        simp -implicitDefEqProofs [bW, q]
    rw [e0, e1, List.foldl_cons]
    exact ih
end
def mn0 (NS : List Str) (D : Int) (k : Nat) : List Str := if D / 25 % 4 = 1 then NS ++ [sOwn] else NS.take k ++ [sOwn]
def mnu (NS : List Str) (D : Int) (k : Nat) : List Str := if (mn0 NS D k).length = 1 then mn0 NS D k ++ [sSelf] else mn0 NS D k
theorem mnu_ok {NS : List Str} (h : ∀ x ∈ NS, Gd 24 x) (D : Int) (k : Nat) : NamesL (mnu NS D k) := by
  have g := own_gd
  have h0 : ∀ x ∈ mn0 NS D k, Gd 24 x := fun x m => by
    unfold mn0 at m
    split at m
    · rcases List.mem_append.mp m with m | m
      · exact h x m
      · exact g x (by rw [List.mem_singleton.mp m]; exact List.mem_cons_self)
    · rcases List.mem_append.mp m with m | m
      · exact h x (List.mem_of_mem_take m)
      · exact g x (by rw [List.mem_singleton.mp m]; exact List.mem_cons_self)
  have l0 : 1 ≤ (mn0 NS D k).length := by
    unfold mn0
    split <;> (rw [List.length_append]; show 1 ≤ _ + 1; omega)
  unfold mnu
  split
  · rename_i e
    refine ⟨by rw [List.length_append, e]; exact Nat.le_refl 2, fun x m => ?_⟩
    rcases List.mem_append.mp m with m | m
    · exact h0 x m
    · exact g x (by rw [List.mem_singleton.mp m]; exact List.mem_cons_of_mem _ List.mem_cons_self)
  · exact ⟨by omega, h0⟩

theorem evSs_app (G : PV.Ctx) (wf : Nat) (b : List CS) : ∀ (a : List CS) (env : Ev) (st : Sto), evSs G wf (a ++ b) env st = seqS G wf b (evSs G wf a env st)
  | [], _, _ => rfl
  | s :: a, env, st => by
    rw [List.cons_append, ss_cons, ss_cons]
    cases h : evS G wf s env st with
    | next env1 st1 => exact evSs_app G wf b a env1 st1
    | _ => rfl

def bb0 : CS := .set (.name 12) (.op .add [(.slc (.var 2) [] [(.var 5)]), (.lstV [(.lit (.str "own"))])])
def bb1 : CS := .ite (.op .eq [(.op .mod [(.op .fdiv [(.var 1), (.lit (.int 25))]), (.lit (.int 4))]), (.lit (.int 1))]) [.set (.name 12) (.op .add [(.var 2), (.lstV [(.lit (.str "own"))])])] []
def bb2 : CS := .ite (.op .eq [(.op .len [(.var 12)]), (.lit (.int 1))]) [.set (.name 12) (.op .add [(.var 12), (.lstV [(.lit (.str "self"))])])] []
def bb3 : CS := .set (.name 13) (.call 10 [(.slc (.var 3) [(.op .mul [(.lit (.int 8)), (.var 5)])] [(.op .add [(.op .mul [(.lit (.int 8)), (.var 5)]), (.lit (.int 8))])]), (.var 12)])
def bb4 : CS := .ite (.op .ne [(.op .mod [(.op .fdiv [(.var 1), (.lit (.int 25))]), (.lit (.int 4))]), (.lit (.int 2))]) [c_law_L1] []
def bb5 : CS := .app (.var 4) (.tup [(.op .idx [(.var 2), (.var 5)]), (.tup [(.lit (.str "int"))]), (.var 13)])
def bbL : List CS := [bb0, bb1, bb2, bb3, bb4, bb5]
def bK : List CS := [.ite (.and_ (.op .isN [(.var 7)]) (.din true (.var 14) (.var 6))) [.set (.name 7) (.var 14)] []]
def bP : CS := .dput (.var 6) (.op .idx [(.var 8), (.lit (.int 0))]) (.call 13 [(.op .idx [(.var 8), (.lit (.int 2))]), (.var 6), (.lstV [])])
def bM : List CS := [c_law_L3, bP]
theorem num_cut {xs : List PyData} (h : NumL 40 xs) (k : Nat) : ∃ ys, sliceD (.list xs) (some (8 * (k : Int))) (some (8 * (k : Int) + 8)) = some (.list ys) ∧ NumL 8 ys := by
  refine ⟨_, rfl, ?_, fun x m => ?_⟩
  · unfold cutD
    rw [show (8 * (k : Int)) = ((8 * k : Nat) : Int) by omega, show (((8 * k : Nat) : Int) + 8) = ((8 * k + 8 : Nat) : Int) by omega, HT.sIx_nat, HT.sIx_nat, List.length_take]
    omega
  · unfold cutD at m
    exact h.2 x (List.mem_of_mem_drop (List.mem_of_mem_take m))
theorem NumL.mono {a b : Nat} {xs : List PyData} (h : NumL a xs) (k : a ≤ b) : NumL b xs := ⟨Nat.le_trans h.1 k, h.2⟩
theorem at_nat {ds : List PyData} {k : Nat} {x : PyData} (h : ds[k]? = some x) : atI ds (k : Int) = some x := by
  have hk := (List.getElem?_eq_some_iff.mp h).1
  obtain ⟨y, h1, _, h3⟩ := atI_get (xs := ds) (i := (k : Int)) (by omega) (by omega)
  rw [show ((k : Int)).toNat = k by omega, h] at h3
  rw [h1]
  exact h3.symm
/-- a definition that the law may make -/
structure Dl (d : Dc) : Prop where
  fit : d.t.fit
  dp : d.t.dp ≤ 60
  sz : d.t.sz ≤ 100
  kd : d.k.dp ≤ 4
section
variable (m : Nat) (SS : PyData) (D : Int) (NS : List Str) (hNS : ∀ x ∈ NS, Gd 24 x) (hn5 : NS.length ≤ 5) (xs : List PyData)
theorem s_menu (k : Nat) (tm nh mn0' : Option Sv) (st : Sto) (hn5 : NS.length ≤ 5) (hk : k < NS.length) : evSs (ctxN pgm (m + 100)) pgm.wf [bb0, bb1, bb2] [some (.d SS), some (.d (.int D)), some (.d (.list (NS.map .str))), some (.d (.list xs)), some (.r 0), some (.d (.int (k : Int))), none, none, none, none, none, none, mn0', tm, nh, none] st = .next [some (.d SS), some (.d (.int D)), some (.d (.list (NS.map .str))), some (.d (.list xs)), some (.r 0), some (.d (.int (k : Int))), none, none, none, none, none, none, some (.d (.list ((mnu NS D k).map .str))), tm, nh, none] st := by
  have sl : sliceD (.list (NS.map PyData.str)) none (some (k : Int)) = some (.list ((NS.take k).map PyData.str)) := by
    show some (PyData.list (cutD (NS.map PyData.str) none (some (k : Int)))) = _
    unfold cutD
    rw [HT.sIx_nat, HT.sIx_none, List.length_map, show min k NS.length = k by omega, List.drop_zero, Nat.sub_zero, List.map_take]
  have c0 := p_catl (xs := (NS.take k).map PyData.str) (ys := [.str sOwn]) (by simp; omega)
  rw [show (NS.take k).map PyData.str ++ [PyData.str sOwn] = (NS.take k ++ [sOwn]).map .str by simp] at c0
  have c1 := p_catl (xs := NS.map PyData.str) (ys := [.str sOwn]) (by simp; omega)
  rw [show NS.map PyData.str ++ [PyData.str sOwn] = (NS ++ [sOwn]).map .str by simp] at c1
  have l0 : (mn0 NS D k).length ≤ 6 := by
    unfold mn0
    split <;> (rw [List.length_append]; simp; omega)
  have c2 := p_catl (xs := (mn0 NS D k).map PyData.str) (ys := [.str sSelf]) (by simp; omega)
  rw [show (mn0 NS D k).map PyData.str ++ [PyData.str sSelf] = (mn0 NS D k ++ [sSelf]).map .str by simp] at c2
  have e25 := p_fdivi (i := D) (j := 25) (by decide) (by decide)
  have e4 := p_modi (i := D / 25) (j := 4) (by decide)
  have ln : prim .len [.list ((mn0 NS D k).map PyData.str)] = some (.int ((mn0 NS D k).length : Int)) := by
    rw [p_lenl, List.length_map]
  have A : evSs (ctxN pgm (m + 100)) pgm.wf [bb0, bb1] [some (.d SS), some (.d (.int D)), some (.d (.list (NS.map .str))), some (.d (.list xs)), some (.r 0), some (.d (.int (k : Int))), none, none, none, none, none, none, mn0', tm, nh, none] st = .next [some (.d SS), some (.d (.int D)), some (.d (.list (NS.map .str))), some (.d (.list xs)), some (.r 0), some (.d (.int (k : Int))), none, none, none, none, none, none, some (.d (.list ((mn0 NS D k).map .str))), tm, nh, none] st := by
    unfold mn0
    by_cases c : D / 25 % 4 = 1
    · rw [if_pos c]
      generalize (NS.take k ++ [sOwn]).map PyData.str = Z1 at *
      generalize (NS ++ [sOwn]).map PyData.str = Z2 at *
      generalize (NS.take k).map PyData.str = Z3 at *
      generalize NS.map PyData.str = Z4 at *
      simp -implicitDefEqProofs [bb0, bb1, sl, c0, c1, e25, e4, c]
    · rw [if_neg c]
      generalize (NS.take k ++ [sOwn]).map PyData.str = Z1 at *
      generalize (NS ++ [sOwn]).map PyData.str = Z2 at *
      generalize (NS.take k).map PyData.str = Z3 at *
      generalize NS.map PyData.str = Z4 at *
      simp -implicitDefEqProofs [bb0, bb1, sl, c0, c1, e25, e4, c]
  have B : evS (ctxN pgm (m + 100)) pgm.wf bb2 [some (.d SS), some (.d (.int D)), some (.d (.list (NS.map .str))), some (.d (.list xs)), some (.r 0), some (.d (.int (k : Int))), none, none, none, none, none, none, some (.d (.list ((mn0 NS D k).map .str))), tm, nh, none] st = .next [some (.d SS), some (.d (.int D)), some (.d (.list (NS.map .str))), some (.d (.list xs)), some (.r 0), some (.d (.int (k : Int))), none, none, none, none, none, none, some (.d (.list ((mnu NS D k).map .str))), tm, nh, none] st := by
    unfold mnu
    by_cases c : (mn0 NS D k).length = 1
    · rw [if_pos c]
      rw [c] at ln
      generalize (mn0 NS D k ++ [sSelf]).map PyData.str = Z1 at *
      generalize (mn0 NS D k).map PyData.str = Z2 at *
      generalize NS.map PyData.str = Z4 at *
      simp -implicitDefEqProofs [bb2, ln, c2]
    · rw [if_neg c]
      have c' : ¬ ((mn0 NS D k).length : Int) = 1 := by omega
      generalize (mn0 NS D k).length = LN at *
      generalize (mn0 NS D k).map PyData.str = Z2 at *
      generalize NS.map PyData.str = Z4 at *
      simp -implicitDefEqProofs [bb2, ln, c']
  rw [show ([bb0, bb1, bb2] : List CS) = [bb0, bb1] ++ [bb2] from rfl, evSs_app, A, q_next, ss_cons, B]
  rfl
theorem l_build (hNS : ∀ x ∈ NS, Gd 24 x) (hn5 : NS.length ≤ 5) (gx : NumL 40 xs) : ∃ env' st', evS (ctxN pgm (m + 100)) pgm.wf c_law_L2 [some (.d SS), some (.d (.int D)), some (.d (.list (NS.map .str))), some (.d (.list xs)), some (.r 0), none, none, none, none, none, none, none, none, none, none, none] [.lst []] = .next env' st' ∧ ∃ (ps : List Dc) (kk mn tm nh : Option Sv), env' = [some (.d SS), some (.d (.int D)), some (.d (.list (NS.map .str))), some (.d (.list xs)), some (.r 0), kk, none, none, none, none, none, none, mn, tm, nh, none] ∧ st' = [.lst ((ps.map Dc.d).map .d)] ∧ ps.map (·.x) = NS ∧ ∀ p ∈ ps, Dl p := by
  have hr : evI (ctxN pgm (m + 100)) (.range [(.op .len [(.var 2)])]) [some (.d SS), some (.d (.int D)), some (.d (.list (NS.map .str))), some (.d (.list xs)), some (.r 0), none, none, none, none, none, none, none, none, none, none, none] [.lst []] = .ok (rangeD 0 NS.length) [.lst []] := by
    have e : (NS.map PyData.str).length = NS.length := List.length_map _
    generalize hN : NS.map PyData.str = Ns at *
    simp -implicitDefEqProofs [e, rng1n (a := NS.length) (by omega)]
  have w := fr_run (t := .name 5) (wf := pgm.wf) (b := bbL) hr (fun i env' st' => ∃ (ps : List Dc) (kk mn tm nh : Option Sv), env' = [some (.d SS), some (.d (.int D)), some (.d (.list (NS.map .str))), some (.d (.list xs)), some (.r 0), kk, none, none, none, none, none, none, mn, tm, nh, none] ∧ st' = [.lst ((ps.map Dc.d).map .d)] ∧ ps.map (·.x) = NS.take i ∧ ∀ p ∈ ps, Dl p) ⟨[], none, none, none, none, rfl, rfl, rfl, fun _ h => nomatch h⟩ (by
    rintro k x env st hi ⟨ps, kk, mn, tm, nh, rfl, rfl, hx, hd⟩
    obtain ⟨hk, rfl⟩ := rangeD_get hi
    have e0 : (0 : Int) + (k : Int) = (k : Int) := by omega
    rw [e0]
    obtain ⟨z, hz⟩ : ∃ z, NS[k]? = some z := ⟨_, List.getElem?_eq_getElem hk⟩
    have gz := hNS z (List.mem_of_getElem? hz)
    have S1 := s_menu m SS D NS xs k tm nh mn [.lst ((ps.map Dc.d).map .d)] hn5 hk
    obtain ⟨ys, hy1, hy2⟩ := num_cut gx k
    have hyl := hy2.1
    obtain ⟨t, ht, ft, dt, sz⟩ := a_term (m + 95) _ (mnu_ok hNS D k) ys (hy2.mono (by decide))
    have ht : Ans pgm (m + 100) i__law_any_term [.list ys, .list ((mnu NS D k).map .str)] t.d := ht
    have f3 := p_muli1 (i := 8) (j := (k : Int)) (by decide) (by decide)
    have S3 : evS (ctxN pgm (m + 100)) pgm.wf bb3 [some (.d SS), some (.d (.int D)), some (.d (.list (NS.map .str))), some (.d (.list xs)), some (.r 0), some (.d (.int (k : Int))), none, none, none, none, none, none, some (.d (.list ((mnu NS D k).map .str))), tm, nh, none] [.lst ((ps.map Dc.d).map .d)] = .next [some (.d SS), some (.d (.int D)), some (.d (.list (NS.map .str))), some (.d (.list xs)), some (.r 0), some (.d (.int (k : Int))), none, none, none, none, none, none, some (.d (.list ((mnu NS D k).map .str))), some (.d t.d), nh, none] [.lst ((ps.map Dc.d).map .d)] := by
      generalize (ps.map Dc.d).map Sv.d = X at *
      generalize (mnu NS D k).map PyData.str = MN at *
      generalize NS.map PyData.str = Z4 at *
      generalize t.d = TD at *
      simp -implicitDefEqProofs [bb3, f3, hy1, call2 ht]
    have lf := a_lf t (by omega) (m + 100) [] (by omega) (by simp; omega)
    have lf : Ans pgm (m + 100) 12 [t.d, .list []] (.list ((t.fr []).map .str)) := lf
    have lfr := fr_len t []
    have so : prim .sortS [.list ((t.fr []).map PyData.str)] = some (.list ((sortStr (t.fr [])).map .str)) := by
      show bindO (strsOf ((t.fr []).map PyData.str)) (fun ys => guard1 (decide (ys.length < 64)) (PyData.list ((sortStr ys).map .str))) = _
      rw [strsOf_map]
      show guard1 (decide ((t.fr []).length < 64)) _ = _
      rw [decide_eq_true (by omega)]
      rfl
    have lso : (sortStr (t.fr [])).length = (t.fr []).length := (sort_perm _).length_eq
    have e25 := p_fdivi (i := D) (j := 25) (by decide) (by decide)
    have e4 := p_modi (i := D / 25) (j := 4) (by decide)
    have S4 : ∃ (u : Tm) (nh2 : Option Sv), (u.fit ∧ u.dp ≤ 60 ∧ u.sz ≤ 100) ∧ evS (ctxN pgm (m + 100)) pgm.wf bb4 [some (.d SS), some (.d (.int D)), some (.d (.list (NS.map .str))), some (.d (.list xs)), some (.r 0), some (.d (.int (k : Int))), none, none, none, none, none, none, some (.d (.list ((mnu NS D k).map .str))), some (.d t.d), nh, none] [.lst ((ps.map Dc.d).map .d)] = .next [some (.d SS), some (.d (.int D)), some (.d (.list (NS.map .str))), some (.d (.list xs)), some (.r 0), some (.d (.int (k : Int))), none, none, none, none, none, none, some (.d (.list ((mnu NS D k).map .str))), some (.d u.d), nh2, none] [.lst ((ps.map Dc.d).map .d)] := by
      by_cases c : D / 25 % 4 = 2
      · refine ⟨t, nh, ⟨ft, by omega, by omega⟩, ?_⟩
        generalize (ps.map Dc.d).map Sv.d = X at *
        generalize (mnu NS D k).map PyData.str = MN at *
        generalize NS.map PyData.str = Z4 at *
        generalize t.d = TD at *
        simp -implicitDefEqProofs [bb4, e25, e4, c, p_nei]
      · obtain ⟨a14, hw⟩ := l_wrap (m + 100) SS D (.list (NS.map .str)) (.list xs) (some (.d (.int (k : Int)))) (some (.d (.list ((mnu NS D k).map .str)))) [.lst ((ps.map Dc.d).map .d)] (sortStr (t.fr [])) t nh
        have wk := wrps_ok (sortStr (t.fr [])) t ft
        refine ⟨(sortStr (t.fr [])).foldl wrp t, a14, ⟨wk.1, by omega, by omega⟩, ?_⟩
        have hI : evI (ctxN pgm (m + 100)) (.lst (.op .sortS [(.call 12 [(.var 13), (.lstV [])])])) [some (.d SS), some (.d (.int D)), some (.d (.list (NS.map .str))), some (.d (.list xs)), some (.r 0), some (.d (.int (k : Int))), none, none, none, none, none, none, some (.d (.list ((mnu NS D k).map .str))), some (.d t.d), nh, none] [.lst ((ps.map Dc.d).map .d)] = .ok ((sortStr (t.fr [])).map .str) [.lst ((ps.map Dc.d).map .d)] := by
          generalize (sortStr (t.fr [])).map PyData.str = Z1 at *
          generalize (t.fr []).map PyData.str = Z2 at *
          generalize (ps.map Dc.d).map Sv.d = X at *
          generalize (mnu NS D k).map PyData.str = MN at *
          generalize NS.map PyData.str = Z4 at *
          generalize t.d = TD at *
          simp -implicitDefEqProofs [call2 lf, so]
        have eL : evS (ctxN pgm (m + 100)) pgm.wf c_law_L1 [some (.d SS), some (.d (.int D)), some (.d (.list (NS.map .str))), some (.d (.list xs)), some (.r 0), some (.d (.int (k : Int))), none, none, none, none, none, none, some (.d (.list ((mnu NS D k).map .str))), some (.d t.d), nh, none] [.lst ((ps.map Dc.d).map .d)] = .next [some (.d SS), some (.d (.int D)), some (.d (.list (NS.map .str))), some (.d (.list xs)), some (.r 0), some (.d (.int (k : Int))), none, none, none, none, none, none, some (.d (.list ((mnu NS D k).map .str))), some (.d ((sortStr (t.fr [])).foldl wrp t).d), a14, none] [.lst ((ps.map Dc.d).map .d)] := by
          show (match evI (ctxN pgm (m + 100)) (.lst (.op .sortS [(.call 12 [(.var 13), (.lstV [])])])) [some (.d SS), some (.d (.int D)), some (.d (.list (NS.map .str))), some (.d (.list xs)), some (.r 0), some (.d (.int (k : Int))), none, none, none, none, none, none, some (.d (.list ((mnu NS D k).map .str))), some (.d t.d), nh, none] [.lst ((ps.map Dc.d).map .d)] with
            | .ok zz st1 => loopF (fun x env st => evT (ctxN pgm (m + 100)) (.name 14) (.d x) env st) (fun env st => evSs (ctxN pgm (m + 100)) pgm.wf bW env st) zz [some (.d SS), some (.d (.int D)), some (.d (.list (NS.map .str))), some (.d (.list xs)), some (.r 0), some (.d (.int (k : Int))), none, none, none, none, none, none, some (.d (.list ((mnu NS D k).map .str))), some (.d t.d), nh, none] st1
            | .exc c p st1 => .exc c p [some (.d SS), some (.d (.int D)), some (.d (.list (NS.map .str))), some (.d (.list xs)), some (.r 0), some (.d (.int (k : Int))), none, none, none, none, none, none, some (.d (.list ((mnu NS D k).map .str))), some (.d t.d), nh, none] st1
            | .bad => .bad) = _
          rw [hI]
          exact hw
        have c' : ¬ D / 25 % 4 = 2 := c
        have hcnd : evE (ctxN pgm (m + 100)) (.op .ne [(.op .mod [(.op .fdiv [(.var 1), (.lit (.int 25))]), (.lit (.int 4))]), (.lit (.int 2))]) [some (.d SS), some (.d (.int D)), some (.d (.list (NS.map .str))), some (.d (.list xs)), some (.r 0), some (.d (.int (k : Int))), none, none, none, none, none, none, some (.d (.list ((mnu NS D k).map .str))), some (.d t.d), nh, none] [.lst ((ps.map Dc.d).map .d)] = .ok (.d (.bool true)) [.lst ((ps.map Dc.d).map .d)] := by
          generalize (ps.map Dc.d).map Sv.d = X at *
          generalize (mnu NS D k).map PyData.str = MN at *
          generalize NS.map PyData.str = Z4 at *
          generalize t.d = TD at *
          simp -implicitDefEqProofs [e25, e4, c', p_nei]
        show onT (evE (ctxN pgm (m + 100)) (.op .ne [(.op .mod [(.op .fdiv [(.var 1), (.lit (.int 25))]), (.lit (.int 4))]), (.lit (.int 2))]) [some (.d SS), some (.d (.int D)), some (.d (.list (NS.map .str))), some (.d (.list xs)), some (.r 0), some (.d (.int (k : Int))), none, none, none, none, none, none, some (.d (.list ((mnu NS D k).map .str))), some (.d t.d), nh, none] [.lst ((ps.map Dc.d).map .d)]) _ (fun st1 => evSs (ctxN pgm (m + 100)) pgm.wf [c_law_L1] [some (.d SS), some (.d (.int D)), some (.d (.list (NS.map .str))), some (.d (.list xs)), some (.r 0), some (.d (.int (k : Int))), none, none, none, none, none, none, some (.d (.list ((mnu NS D k).map .str))), some (.d t.d), nh, none] st1) _ = _
        rw [hcnd]
        show evSs (ctxN pgm (m + 100)) pgm.wf [c_law_L1] [some (.d SS), some (.d (.int D)), some (.d (.list (NS.map .str))), some (.d (.list xs)), some (.r 0), some (.d (.int (k : Int))), none, none, none, none, none, none, some (.d (.list ((mnu NS D k).map .str))), some (.d t.d), nh, none] _ = _
        rw [ss_cons, eL]
        rfl
    obtain ⟨u, nh2, ⟨u1, u2, u3⟩, S4⟩ := S4
    have hlen : ((ps.map Dc.d).map Sv.d).length < 1000000 := by
      have q := congrArg List.length hx
      rw [List.length_map, List.length_take] at q
      rw [List.length_map, List.length_map]
      omega
    have ix := at_nat (ds := NS.map PyData.str) (k := k) (x := .str z) (by rw [List.getElem?_map, hz]; rfl)
    have S5 : evS (ctxN pgm (m + 100)) pgm.wf bb5 [some (.d SS), some (.d (.int D)), some (.d (.list (NS.map .str))), some (.d (.list xs)), some (.r 0), some (.d (.int (k : Int))), none, none, none, none, none, none, some (.d (.list ((mnu NS D k).map .str))), some (.d u.d), nh2, none] [.lst ((ps.map Dc.d).map .d)] = .next [some (.d SS), some (.d (.int D)), some (.d (.list (NS.map .str))), some (.d (.list xs)), some (.r 0), some (.d (.int (k : Int))), none, none, none, none, none, none, some (.d (.list ((mnu NS D k).map .str))), some (.d u.d), nh2, none] [.lst (((ps ++ [(⟨z, .int, u⟩ : Dc)]).map Dc.d).map .d)] := by
      have push : ((ps ++ [(⟨z, .int, u⟩ : Dc)]).map Dc.d).map Sv.d = (ps.map Dc.d).map Sv.d ++ [.d (.tuple [.str z, .tuple [.str "int"], u.d])] := by simp [Dc.d, Kd.d]
      rw [push]
      generalize (ps.map Dc.d).map Sv.d = X at *
      generalize (mnu NS D k).map PyData.str = MN at *
      generalize NS.map PyData.str = Z4 at *
      generalize u.d = UD at *
      simp -implicitDefEqProofs [bb5, ix, hlen]
    refine ⟨_, _, rfl, [some (.d SS), some (.d (.int D)), some (.d (.list (NS.map .str))), some (.d (.list xs)), some (.r 0), some (.d (.int (k : Int))), none, none, none, none, none, none, some (.d (.list ((mnu NS D k).map .str))), some (.d u.d), nh2, none], [.lst (((ps ++ [(⟨z, .int, u⟩ : Dc)]).map Dc.d).map .d)], .inl ?_, ps ++ [⟨z, .int, u⟩], _, _, _, _, rfl, rfl, ?_, fun p mp => ?_⟩
    · show evSs (ctxN pgm (m + 100)) pgm.wf ([bb0, bb1, bb2] ++ [bb3, bb4, bb5]) [some (.d SS), some (.d (.int D)), some (.d (.list (NS.map .str))), some (.d (.list xs)), some (.r 0), some (.d (.int (k : Int))), none, none, none, none, none, none, mn, tm, nh, none] _ = _
      rw [evSs_app, S1, q_next, ss_cons, S3, q_next, ss_cons, S4, q_next, ss_cons, S5]
      rfl
    · rw [List.map_append, hx, List.take_add_one, hz]
      rfl
    · rcases List.mem_append.mp mp with mp | mp
      · exact hd p mp
      · rw [List.mem_singleton.mp mp]
        exact ⟨u1, u2, u3, by show 1 ≤ 4; decide⟩)
  obtain ⟨env', st', e, ps, kk, mn, tm, nh, e1, e2, e3, e4⟩ := w
  rw [rangeD_len, List.take_length] at e3
  exact ⟨env', st', e, ps, kk, mn, tm, nh, e1, e2, e3, e4⟩
end

def uD : Option Str → PyData
  | none => .none
  | some x => .str x
section
variable (SS NL NU : PyData) (D : Int) (P : List PyData) (kk mn tm : Option Sv)
theorem l_kin (g : List (Str × Tm)) (one : Option Sv) : ∀ (xs : List Str) (u : Option Str) (nh : Option Sv), ∃ nh', loopF (fun x env st => evT (ctxN pgm 600) (.name 14) (.d x) env st) (fun env st => evSs (ctxN pgm 600) pgm.wf bK env st) (xs.map .str) [some (.d SS), some (.d (.int D)), some (.d NL), some (.d NU), some (.r 0), kk, some (.r 1), some (.d (uD u)), one, none, none, none, mn, tm, nh, none] [.frz P, .dct (dD g)] = .next [some (.d SS), some (.d (.int D)), some (.d NL), some (.d NU), some (.r 0), kk, some (.r 1), some (.d (uD (u.or (unk1 g xs)))), one, none, none, none, mn, tm, nh', none] [.frz P, .dct (dD g)]
  | [], u, nh => ⟨nh, by cases u <;> rfl⟩
  | x :: xs, u, nh => by
    have hO := onD_of (st := [.frz P, .dct (dD g)]) (n := 1) (kvs := dD g) rfl
    have lk := look_dD g x
    have e0 : loopF (fun x env st => evT (ctxN pgm 600) (.name 14) (.d x) env st) (fun env st => evSs (ctxN pgm 600) pgm.wf bK env st) ((x :: xs).map .str) [some (.d SS), some (.d (.int D)), some (.d NL), some (.d NU), some (.r 0), kk, some (.r 1), some (.d (uD u)), one, none, none, none, mn, tm, nh, none] [.frz P, .dct (dD g)] = afterB (evSs (ctxN pgm 600) pgm.wf bK [some (.d SS), some (.d (.int D)), some (.d NL), some (.d NU), some (.r 0), kk, some (.r 1), some (.d (uD u)), one, none, none, none, mn, tm, some (.d (.str x)), none] [.frz P, .dct (dD g)]) fun env2 st2 => loopF (fun x env st => evT (ctxN pgm 600) (.name 14) (.d x) env st) (fun env st => evSs (ctxN pgm 600) pgm.wf bK env st) (xs.map .str) env2 st2 := rfl
    cases u with
    | some y =>
      obtain ⟨nh', ih⟩ := l_kin g one xs (some y) (some (.d (.str x)))
      refine ⟨nh', ?_⟩
      have e1 : evSs (ctxN pgm 600) pgm.wf bK [some (.d SS), some (.d (.int D)), some (.d NL), some (.d NU), some (.r 0), kk, some (.r 1), some (.d (uD (some y))), one, none, none, none, mn, tm, some (.d (.str x)), none] [.frz P, .dct (dD g)] = .next [some (.d SS), some (.d (.int D)), some (.d NL), some (.d NU), some (.r 0), kk, some (.r 1), some (.d (uD (some y))), one, none, none, none, mn, tm, some (.d (.str x)), none] [.frz P, .dct (dD g)] := by
        show evSs (ctxN pgm 600) pgm.wf bK [some (.d SS), some (.d (.int D)), some (.d NL), some (.d NU), some (.r 0), kk, some (.r 1), some (.d (.str y)), one, none, none, none, mn, tm, some (.d (.str x)), none] [.frz P, .dct (dD g)] = .next [some (.d SS), some (.d (.int D)), some (.d NL), some (.d NU), some (.r 0), kk, some (.r 1), some (.d (.str y)), one, none, none, none, mn, tm, some (.d (.str x)), none] [.frz P, .dct (dD g)]
        have hn : prim .isN [.str y] = some (.bool false) := rfl
        generalize dD g = kv at *
        simp -implicitDefEqProofs [bK, hn]
      rw [e0, e1]
      exact ih
    | none =>
      have hn : prim .isN [.none] = some (.bool true) := rfl
      cases hl : lkT g x with
      | none =>
        rw [hl] at lk
        have lk : lookD (dD g) x = none := lk
        have eu : unk1 g (x :: xs) = some x := by unfold unk1; rw [List.find?_cons, hl]; rfl
        obtain ⟨nh', ih⟩ := l_kin g one xs (some x) (some (.d (.str x)))
        refine ⟨nh', ?_⟩
        have e1 : evSs (ctxN pgm 600) pgm.wf bK [some (.d SS), some (.d (.int D)), some (.d NL), some (.d NU), some (.r 0), kk, some (.r 1), some (.d (uD none)), one, none, none, none, mn, tm, some (.d (.str x)), none] [.frz P, .dct (dD g)] = .next [some (.d SS), some (.d (.int D)), some (.d NL), some (.d NU), some (.r 0), kk, some (.r 1), some (.d (uD (some x))), one, none, none, none, mn, tm, some (.d (.str x)), none] [.frz P, .dct (dD g)] := by
          show evSs (ctxN pgm 600) pgm.wf bK [some (.d SS), some (.d (.int D)), some (.d NL), some (.d NU), some (.r 0), kk, some (.r 1), some (.d .none), one, none, none, none, mn, tm, some (.d (.str x)), none] [.frz P, .dct (dD g)] = .next [some (.d SS), some (.d (.int D)), some (.d NL), some (.d NU), some (.r 0), kk, some (.r 1), some (.d (.str x)), one, none, none, none, mn, tm, some (.d (.str x)), none] [.frz P, .dct (dD g)]
          generalize dD g = kv at *
          simp -implicitDefEqProofs [bK, hn, hO, lk]
        rw [e0, e1, eu]
        exact ih
      | some t =>
        rw [hl] at lk
        have lk : lookD (dD g) x = some t.d := lk
        have eu : unk1 g (x :: xs) = unk1 g xs := by unfold unk1; rw [List.find?_cons, hl]; rfl
        obtain ⟨nh', ih⟩ := l_kin g one xs none (some (.d (.str x)))
        refine ⟨nh', ?_⟩
        have e1 : evSs (ctxN pgm 600) pgm.wf bK [some (.d SS), some (.d (.int D)), some (.d NL), some (.d NU), some (.r 0), kk, some (.r 1), some (.d (uD none)), one, none, none, none, mn, tm, some (.d (.str x)), none] [.frz P, .dct (dD g)] = .next [some (.d SS), some (.d (.int D)), some (.d NL), some (.d NU), some (.r 0), kk, some (.r 1), some (.d (uD none)), one, none, none, none, mn, tm, some (.d (.str x)), none] [.frz P, .dct (dD g)] := by
          show evSs (ctxN pgm 600) pgm.wf bK [some (.d SS), some (.d (.int D)), some (.d NL), some (.d NU), some (.r 0), kk, some (.r 1), some (.d .none), one, none, none, none, mn, tm, some (.d (.str x)), none] [.frz P, .dct (dD g)] = .next [some (.d SS), some (.d (.int D)), some (.d NL), some (.d NU), some (.r 0), kk, some (.r 1), some (.d .none), one, none, none, none, mn, tm, some (.d (.str x)), none] [.frz P, .dct (dD g)]
          generalize dD g = kv at *
          generalize t.d = TD at *
          simp -implicitDefEqProofs [bK, hn, hO, lk]
        rw [e0, e1, eu]
        exact ih
theorem l_known : ∀ (ds : List Dc) (g : List (Str × Tm)) (u : Option Str) (one nh : Option Sv), (∀ d ∈ ds, Dl d) → (g.map (·.1) ++ ds.map (·.x)).Nodup → g.length + ds.length ≤ 1000 → ∃ one' nh', loopF (fun x env st => evT (ctxN pgm 600) (.name 8) (.d x) env st) (fun env st => evSs (ctxN pgm 600) pgm.wf bM env st) (ds.map Dc.d) [some (.d SS), some (.d (.int D)), some (.d NL), some (.d NU), some (.r 0), kk, some (.r 1), some (.d (uD u)), one, none, none, none, mn, tm, nh, none] [.frz P, .dct (dD g)] = .next [some (.d SS), some (.d (.int D)), some (.d NL), some (.d NU), some (.r 0), kk, some (.r 1), some (.d (uD (u.or (unk g ds)))), one', none, none, none, mn, tm, nh', none] [.frz P, .dct (dD (allG g ds))]
  | [], g, u, one, nh, _, _, _ => ⟨one, nh, by cases u <;> rfl⟩
  | d :: ds, g, u, one, nh, hs, hn, hl => by
    have h := hs d List.mem_cons_self
    have h1 := h.dp
    have h2 := h.sz
    have lf := a_lf d.t (by omega) 600 [] (by omega) (by simp; omega)
    have lf : Ans pgm 600 12 [d.t.d, .list []] (.list ((d.t.fr []).map .str)) := lf
    have pt := a_put 1 g [.frz P, .dct (dD g)] rfl d.t 600 [] (by omega) (by simp; omega)
    have pt : callN pgm 600 13 [.d d.t.d, .r 1, .d (.list [])] [.frz P, .dct (dD g)] = .ok (.d (sbT g d.t []).d) [.frz P, .dct (dD g)] := pt
    obtain ⟨nh1, k1⟩ := l_kin SS NL NU D P kk mn tm g (some (.d d.d)) (d.t.fr []) u nh
    have i2 : atI [PyData.str d.x, d.k.d, d.t.d] 2 = some d.t.d := rfl
    have i0 : atI [PyData.str d.x, d.k.d, d.t.d] 0 = some (.str d.x) := rfl
    have hI : evI (ctxN pgm 600) (.lst (.call 12 [(.op .idx [(.var 8), (.lit (.int 2))]), (.lstV [])])) [some (.d SS), some (.d (.int D)), some (.d NL), some (.d NU), some (.r 0), kk, some (.r 1), some (.d (uD u)), some (.d d.d), none, none, none, mn, tm, nh, none] [.frz P, .dct (dD g)] = .ok ((d.t.fr []).map .str) [.frz P, .dct (dD g)] := by
      unfold Dc.d
      generalize (d.t.fr []).map PyData.str = Z at *
      generalize d.t.d = TD at *
      generalize d.k.d = KD at *
      generalize uD u = UU at *
      generalize dD g = kv at *
      simp -implicitDefEqProofs [i2, call2 lf]
    have eL : evS (ctxN pgm 600) pgm.wf c_law_L3 [some (.d SS), some (.d (.int D)), some (.d NL), some (.d NU), some (.r 0), kk, some (.r 1), some (.d (uD u)), some (.d d.d), none, none, none, mn, tm, nh, none] [.frz P, .dct (dD g)] = .next [some (.d SS), some (.d (.int D)), some (.d NL), some (.d NU), some (.r 0), kk, some (.r 1), some (.d (uD (u.or (unk1 g (d.t.fr []))))), some (.d d.d), none, none, none, mn, tm, nh1, none] [.frz P, .dct (dD g)] := by
      show (match evI (ctxN pgm 600) (.lst (.call 12 [(.op .idx [(.var 8), (.lit (.int 2))]), (.lstV [])])) [some (.d SS), some (.d (.int D)), some (.d NL), some (.d NU), some (.r 0), kk, some (.r 1), some (.d (uD u)), some (.d d.d), none, none, none, mn, tm, nh, none] [.frz P, .dct (dD g)] with
        | .ok zz st1 => loopF (fun x env st => evT (ctxN pgm 600) (.name 14) (.d x) env st) (fun env st => evSs (ctxN pgm 600) pgm.wf bK env st) zz [some (.d SS), some (.d (.int D)), some (.d NL), some (.d NU), some (.r 0), kk, some (.r 1), some (.d (uD u)), some (.d d.d), none, none, none, mn, tm, nh, none] st1
        | .exc c p st1 => .exc c p [some (.d SS), some (.d (.int D)), some (.d NL), some (.d NU), some (.r 0), kk, some (.r 1), some (.d (uD u)), some (.d d.d), none, none, none, mn, tm, nh, none] st1
        | .bad => .bad) = _
      rw [hI]
      exact k1
    have hfr : ∀ p ∈ g, p.1 ≠ d.x := fun p mp e => by
      have h1 : p.1 ∈ g.map (·.1) := List.mem_map.mpr ⟨p, mp, rfl⟩
      exact (List.nodup_append.mp hn).2.2 p.1 h1 d.x (by rw [List.map_cons]; exact List.mem_cons_self) e
    have eP : putD (dD g) d.x (sbT g d.t []).d = dD (nxG g d) := put_new g d.x _ hfr
    have hlen : (dD g).length < 1000000 := by unfold dD; rw [List.length_map]; omega
    have eC : evE (ctxN pgm 600) (.call 13 [(.op .idx [(.var 8), (.lit (.int 2))]), (.var 6), (.lstV [])]) [some (.d SS), some (.d (.int D)), some (.d NL), some (.d NU), some (.r 0), kk, some (.r 1), some (.d (uD (u.or (unk1 g (d.t.fr []))))), some (.d d.d), none, none, none, mn, tm, nh1, none] [.frz P, .dct (dD g)] = .ok (.d (sbT g d.t []).d) [.frz P, .dct (dD g)] := by
      unfold Dc.d
      generalize (sbT g d.t []).d = RD at *
      generalize d.t.d = TD at *
      generalize d.k.d = KD at *
      generalize uD (u.or (unk1 g (d.t.fr []))) = UU at *
      generalize dD g = kv at *
      simp -implicitDefEqProofs [i2, pt]
    have eX : evE (ctxN pgm 600) (.op .idx [(.var 8), (.lit (.int 0))]) [some (.d SS), some (.d (.int D)), some (.d NL), some (.d NU), some (.r 0), kk, some (.r 1), some (.d (uD (u.or (unk1 g (d.t.fr []))))), some (.d d.d), none, none, none, mn, tm, nh1, none] [.frz P, .dct (dD g)] = .ok (.d (.str d.x)) [.frz P, .dct (dD g)] := by
      unfold Dc.d
      generalize d.t.d = TD at *
      generalize d.k.d = KD at *
      generalize uD (u.or (unk1 g (d.t.fr []))) = UU at *
      generalize dD g = kv at *
      simp -implicitDefEqProofs [i0]
    have eD : evS (ctxN pgm 600) pgm.wf bP [some (.d SS), some (.d (.int D)), some (.d NL), some (.d NU), some (.r 0), kk, some (.r 1), some (.d (uD (u.or (unk1 g (d.t.fr []))))), some (.d d.d), none, none, none, mn, tm, nh1, none] [.frz P, .dct (dD g)] = .next [some (.d SS), some (.d (.int D)), some (.d NL), some (.d NU), some (.r 0), kk, some (.r 1), some (.d (uD (u.or (unk1 g (d.t.fr []))))), some (.d d.d), none, none, none, mn, tm, nh1, none] [.frz P, .dct (dD (nxG g d))] := by
      show lift [some (.d SS), some (.d (.int D)), some (.d NL), some (.d NU), some (.r 0), kk, some (.r 1), some (.d (uD (u.or (unk1 g (d.t.fr []))))), some (.d d.d), none, none, none, mn, tm, nh1, none] (evE (ctxN pgm 600) (.call 13 [(.op .idx [(.var 8), (.lit (.int 2))]), (.var 6), (.lstV [])]) [some (.d SS), some (.d (.int D)), some (.d NL), some (.d NU), some (.r 0), kk, some (.r 1), some (.d (uD (u.or (unk1 g (d.t.fr []))))), some (.d d.d), none, none, none, mn, tm, nh1, none] [.frz P, .dct (dD g)]) (fun s st1 => lift [some (.d SS), some (.d (.int D)), some (.d NL), some (.d NU), some (.r 0), kk, some (.r 1), some (.d (uD (u.or (unk1 g (d.t.fr []))))), some (.d d.d), none, none, none, mn, tm, nh1, none] (evE (ctxN pgm 600) (.var 6) [some (.d SS), some (.d (.int D)), some (.d NL), some (.d NU), some (.r 0), kk, some (.r 1), some (.d (uD (u.or (unk1 g (d.t.fr []))))), some (.d d.d), none, none, none, mn, tm, nh1, none] st1) fun so st2 => lift [some (.d SS), some (.d (.int D)), some (.d NL), some (.d NU), some (.r 0), kk, some (.r 1), some (.d (uD (u.or (unk1 g (d.t.fr []))))), some (.d d.d), none, none, none, mn, tm, nh1, none] (evE (ctxN pgm 600) (.op .idx [(.var 8), (.lit (.int 0))]) [some (.d SS), some (.d (.int D)), some (.d NL), some (.d NU), some (.r 0), kk, some (.r 1), some (.d (uD (u.or (unk1 g (d.t.fr []))))), some (.d d.d), none, none, none, mn, tm, nh1, none] st2) fun si st3 => dputR [some (.d SS), some (.d (.int D)), some (.d NL), some (.d NU), some (.r 0), kk, some (.r 1), some (.d (uD (u.or (unk1 g (d.t.fr []))))), some (.d d.d), none, none, none, mn, tm, nh1, none] s (onD st3 so) (strK si) st3) = _
      rw [eC]
      show lift [some (.d SS), some (.d (.int D)), some (.d NL), some (.d NU), some (.r 0), kk, some (.r 1), some (.d (uD (u.or (unk1 g (d.t.fr []))))), some (.d d.d), none, none, none, mn, tm, nh1, none] (evE (ctxN pgm 600) (.op .idx [(.var 8), (.lit (.int 0))]) [some (.d SS), some (.d (.int D)), some (.d NL), some (.d NU), some (.r 0), kk, some (.r 1), some (.d (uD (u.or (unk1 g (d.t.fr []))))), some (.d d.d), none, none, none, mn, tm, nh1, none] [.frz P, .dct (dD g)]) (fun si st3 => dputR [some (.d SS), some (.d (.int D)), some (.d NL), some (.d NU), some (.r 0), kk, some (.r 1), some (.d (uD (u.or (unk1 g (d.t.fr []))))), some (.d d.d), none, none, none, mn, tm, nh1, none] (.d (sbT g d.t []).d) (onD st3 (.r 1)) (strK si) st3) = _
      rw [eX]
      show (match decide ((dD g).length < 1000000) with
        | true => SRs.next [some (.d SS), some (.d (.int D)), some (.d NL), some (.d NU), some (.r 0), kk, some (.r 1), some (.d (uD (u.or (unk1 g (d.t.fr []))))), some (.d d.d), none, none, none, mn, tm, nh1, none] (setC [.frz P, .dct (dD g)] 1 (.dct (putD (dD g) d.x (sbT g d.t []).d)))
        | false => .bad) = _
      rw [decide_eq_true hlen, eP]
      rfl
    obtain ⟨one', nh', ih⟩ := l_known ds (nxG g d) (u.or (unk1 g (d.t.fr []))) (some (.d d.d)) nh1 (fun x mx => hs x (List.mem_cons_of_mem _ mx)) (by
      unfold nxG
      rw [List.map_append, List.append_assoc]
      exact hn) (by unfold nxG; rw [List.length_append, List.length_singleton]; rw [List.length_cons] at hl; omega)
    refine ⟨one', nh', ?_⟩
    have e0 : loopF (fun x env st => evT (ctxN pgm 600) (.name 8) (.d x) env st) (fun env st => evSs (ctxN pgm 600) pgm.wf bM env st) ((d :: ds).map Dc.d) [some (.d SS), some (.d (.int D)), some (.d NL), some (.d NU), some (.r 0), kk, some (.r 1), some (.d (uD u)), one, none, none, none, mn, tm, nh, none] [.frz P, .dct (dD g)] = afterB (evSs (ctxN pgm 600) pgm.wf bM [some (.d SS), some (.d (.int D)), some (.d NL), some (.d NU), some (.r 0), kk, some (.r 1), some (.d (uD u)), some (.d d.d), none, none, none, mn, tm, nh, none] [.frz P, .dct (dD g)]) fun env2 st2 => loopF (fun x env st => evT (ctxN pgm 600) (.name 8) (.d x) env st) (fun env st => evSs (ctxN pgm 600) pgm.wf bM env st) (ds.map Dc.d) env2 st2 := rfl
    have eo : (u.or (unk1 g (d.t.fr []))).or (unk (nxG g d) ds) = u.or (unk g (d :: ds)) := by
      show _ = u.or (match unk1 g (d.t.fr []) with
        | some x => some x
        | none => unk (nxG g d) ds)
      cases u <;> cases unk1 g (d.t.fr []) <;> rfl
    rw [eo] at ih
    rw [e0, bM, ss_cons, eL, q_next, ss_cons, eD]
    exact ih
end

theorem p_selfD {d : PyData} (h : d.canLay0 = true) (k : d.depth ≤ 1190) : prim .eq [d, d] = some (.bool true) := by
  have e := SeqAt.eqv_refl d h
  have sh : shD d = true := by
    unfold shD
    simp [h]
    omega
  have o : okEq d d = true := by unfold okEq; rw [sh]; simp
  rw [p_eq0, o, e]
  rfl

def c_law_G0 : List CS := [.set (.name 1) (.op .abs [(.call 6 [(.var 0), (.lit (.int 0))])]), .set (.name 2) (.slc (.lstV [(.lit (.str "one")), (.lit (.str "two")), (.lit (.str "three")), (.lit (.str "four")), (.lit (.str "five"))]) [] [(.op .add [(.lit (.int 1)), (.op .mod [(.var 1), (.lit (.int 5))])])]), .set (.name 3) (.call 7 [(.var 0), (.lit (.int 1)), (.lit (.int 40))]), .set (.name 4) (.lstR [])]
def c_law_G1 : List CS := [c_law_L2]
def c_law_G2 : List CS := [.set (.name 6) .dnew, .set (.name 7) (.lit .none)]
def c_law_G3 : List CS := [c_law_L4]
def c_law_G4 : List CS := [.set (.name 9) (.op .idx [(.op .add [(.var 2), (.lstV [(.lit (.str "own"))])]), (.op .mod [(.op .fdiv [(.var 1), (.lit (.int 5))]), (.op .add [(.op .len [(.var 2)]), (.lit (.int 1))])])]), .set (.name 10) (.op .toLst [(.var 4)])]
def c_law_G5 : List CS := [c_law_L5, .ret (.and_ (.op .ne [(.var 9), (.lit (.str "own"))]) (.and_ (.op .isN [(.var 7)]) (.and_ (.op .eq [(.var 15), (.dget (.var 6) (.var 9))]) (.op .eq [(.var 10), (.var 4)]))))]
theorem c_law_eq : c_law = c_law_G0 ++ (c_law_G1 ++ (c_law_G2 ++ (c_law_G3 ++ (c_law_G4 ++ (c_law_G5))))) := rfl

@[simp] theorem h_one (G : PV.Ctx) (e : CE) (r : List (List CE × CE)) (env : Ev) (st : Sto) : evH G (([], e) :: r) env st = retH (evE G e env st) := rfl
@[simp] theorem h_if (G : PV.Ctx) (c e : CE) (r : List (List CE × CE)) (env : Ev) (st : Sto) : evH G (([c], e) :: r) env st = onH (evE G c env st) (fun st1 => retH (evE G e env st1)) fun st1 => evH G r env st1 := rfl
@[simp] theorem h_ret (s : Sv) (st : Sto) : retH (.ok s st) = .ret s st := rfl
@[simp] theorem h_tt (st : Sto) (k l : Sto → SRs) : onH (.ok (.d (.bool true)) st) k l = k st := rfl
@[simp] theorem h_ff (st : Sto) (k l : Sto → SRs) : onH (.ok (.d (.bool false)) st) k l = l st := rfl
theorem p_nes (a b : Str) : prim .ne [.str a, .str b] = some (.bool (!decide (a = b))) := by
  have h := p_eqs a b
  rw [p_eq0] at h
  rw [p_ne0]
  cases ho : okEq (.str a) (.str b) with
  | false => rw [ho] at h; cases h
  | true =>
    rw [ho] at h
    have e := PyData.bool.inj (Option.some.inj h)
    rw [e]
    rfl
theorem list_self {ds : List PyData} {k : Nat} (hk : k ≤ 1180) (h : ∀ d ∈ ds, d.canLay0 = true ∧ d.depth ≤ k) : prim .eq [.list ds, .list ds] = some (.bool true) := by
  have e : PyData.canLayAll0 ds = true ∧ PyData.depthAll ds ≤ k := by
    induction ds with
    | nil => simp
    | cons d r ih =>
      obtain ⟨h1, h2⟩ := h d List.mem_cons_self
      obtain ⟨h3, h4⟩ := ih fun x m => h x (List.mem_cons_of_mem _ m)
      simp [h1, h3]
      omega
  refine p_selfD (by simp [e.1]) ?_
  simp
  omega
def L5 : List Str := [Str.ofString "one", Str.ofString "two", Str.ofString "three", Str.ofString "four", Str.ofString "five"]
theorem L5_ok : (∀ x ∈ L5, Gd 24 x) ∧ L5.Nodup ∧ sOwn ∉ L5 := by
  refine ⟨fun x m => ?_, by decide +kernel, by decide +kernel⟩
  have q : L5.all (fun s => PyData.strOk s && Nat.ble s.length 24) = true := by decide +kernel
  obtain ⟨h1, h2⟩ := Bool.and_eq_true_iff.mp (List.all_eq_true.mp q x m)
  exact ⟨h1, Nat.le_of_ble_eq_true h2⟩
section
variable (SS NU : PyData) (D : Int) (NL : PyData) (P : List PyData) (kk mn tm one nh : Option Sv) (kv : List (Str × PyData))
/-- no such name, or one that is not known -/
theorem g_exc (w u : Str) (U : PyData) (hq : Exf pgm 600 i_linked [.list P, .str w] 0 [("name", .str u)]) (h : (w = sOwn ∧ u = sOwn) ∨ (w ≠ sOwn ∧ U = .str u)) : ∃ st', evSs (ctxN pgm 600) pgm.wf c_law_G5 [some (.d SS), some (.d (.int D)), some (.d NL), some (.d NU), some (.r 0), kk, some (.r 1), some (.d U), one, some (.d (.str w)), some (.d (.list P)), none, mn, tm, nh, none] [.frz P, .dct kv] = .ret (.d (.bool true)) st' := by
  have i00 : ∀ (env : Ev) (st : Sto), evE { ctxN pgm 600 with exn := some 0, pay := [("name", .str u)] } (.exIs 0) env st = .ok (.d (.bool true)) st := fun _ _ => rfl
  have iF : ∀ (env : Ev) (st : Sto), evE { ctxN pgm 600 with exn := some 0, pay := [("name", .str u)] } (.exF "name") env st = .ok (.d (.str u)) st := fun env st => by
    show (match ([(Str.ofString "name", PyData.str u)] : List (Str × PyData)).lookup (Str.ofString "name"), (ctxN pgm 600).xf 0 "name" with
      | some (.str x), true => (Rs.ok (.d (.str x)) st : Rs Sv)
      | _, _ => .bad) = _
    rw [show ([(Str.ofString "name", PyData.str u)] : List (Str × PyData)).lookup (Str.ofString "name") = some (.str u) by simp [List.lookup], show (ctxN pgm 600).xf 0 "name" = true from by show pgm.xfs.contains (0, "name") = true; decide +kernel]
  obtain ⟨st0, hq0⟩ := hq
  have q : ∀ st, evCall (callN pgm 600 i_linked) [.d (.list P), .d (.str w)] st = .exc 0 [("name", .str u)] st := fun st => evCall_exf (ds := [.list P, .str w]) ⟨st0, hq0⟩ st
  have e2 : evSs (ctxN pgm 600) pgm.wf [.set (.name 15) (.call i_linked [(.var 10), (.var 9)])] [some (.d SS), some (.d (.int D)), some (.d NL), some (.d NU), some (.r 0), kk, some (.r 1), some (.d U), one, some (.d (.str w)), some (.d (.list P)), none, mn, tm, nh, none] [.frz P, .dct kv] = .exc 0 [("name", .str u)] [some (.d SS), some (.d (.int D)), some (.d NL), some (.d NU), some (.r 0), kk, some (.r 1), some (.d U), one, some (.d (.str w)), some (.d (.list P)), none, mn, tm, nh, none] [.frz P, .dct kv] := by
    simp -implicitDefEqProofs [q]
  have L : evS (ctxN pgm 600) pgm.wf c_law_L5 [some (.d SS), some (.d (.int D)), some (.d NL), some (.d NU), some (.r 0), kk, some (.r 1), some (.d U), one, some (.d (.str w)), some (.d (.list P)), none, mn, tm, nh, none] [.frz P, .dct kv] = .ret (.d (.bool true)) [.frz P, .dct kv] := by
    rw [c_law_L5, w_tri, show (5 : Nat) = i_linked from rfl, e2, w_trix]
    show evH { ctxN pgm 600 with exn := some 0, pay := [("name", .str u)] } _ _ _ = _
    generalize hG : ({ ctxN pgm 600 with exn := some 0, pay := [("name", .str u)] } : PV.Ctx) = G at *
    rcases h with ⟨h1, h2⟩ | ⟨h1, h2⟩
    · subst h1 h2
      simp -implicitDefEqProofs [i00, iF]
    · subst h2
      simp -implicitDefEqProofs [i00, iF, h1]
  exact ⟨_, by rw [c_law_G5, ss_cons, L]; rfl⟩
/-- the term that is put together -/
theorem g_fin (w : Str) (t : PyData) (hw : w ≠ sOwn) (hq : Ans pgm 600 i_linked [.list P, .str w] t) (hl : lookD kv w = some t) (s1 : prim .eq [t, t] = some (.bool true)) (s2 : prim .eq [.list P, .list P] = some (.bool true)) : ∃ st', evSs (ctxN pgm 600) pgm.wf c_law_G5 [some (.d SS), some (.d (.int D)), some (.d NL), some (.d NU), some (.r 0), kk, some (.r 1), some (.d .none), one, some (.d (.str w)), some (.d (.list P)), none, mn, tm, nh, none] [.frz P, .dct kv] = .ret (.d (.bool true)) st' := by
  have hO := onD_of (st := [.frz P, .dct kv]) (n := 1) (kvs := kv) rfl
  have hl' : lookD ((1, kv) : Nat × List (Str × PyData)).2 w = some t := hl
  have hn : prim .isN [.none] = some (.bool true) := rfl
  have hv : view [.frz P, .dct kv] (.r 0) = some (.list P) := rfl
  have ne := p_nes w sOwn
  rw [decide_eq_false hw] at ne
  exact ⟨[.frz P, .dct kv], by simp -implicitDefEqProofs [c_law_G5, c_law_L5, call2 hq, ne, hn, hO, dget_s hl', s1, s2, hv]⟩
end
theorem law_t (ns : List Int) (hns : ns.length ≤ 63) : ∃ st, callN pgm 601 i_law [.d (scrD ns)] [] = .ok (.d (.bool true)) st := by
  obtain ⟨c0, hc0⟩ := a_cell 599 ns 0
  have hc0 : Ans pgm 600 i__law_cell [scrD ns, .int 0] (.int c0) := hc0
  obtain ⟨xs, hx, gx⟩ := a_numbers 599 ns 1 40 hns (by omega) (by omega)
  have hx : Ans pgm 600 i__law_numbers [scrD ns, .int 1, .int 40] (.list xs) := hx
  obtain ⟨D, eD, hD⟩ : ∃ D : Int, D = (c0.natAbs : Int) ∧ 0 ≤ D := ⟨_, rfl, by omega⟩
  obtain ⟨n, en, hn5, hn1⟩ : ∃ n : Nat, 1 + D % 5 = (n : Int) ∧ n ≤ 5 ∧ 1 ≤ n := ⟨(1 + D % 5).toNat, by omega, by omega, by omega⟩
  obtain ⟨o1, o2, o3⟩ := L5_ok
  obtain ⟨NS, eNS⟩ : ∃ NS, NS = L5.take n := ⟨_, rfl⟩
  have hNS : ∀ x ∈ NS, Gd 24 x := fun x m => o1 x (by rw [eNS] at m; exact List.mem_of_mem_take m)
  have nNS : NS.Nodup := by rw [eNS]; exact List.Sublist.nodup (List.take_sublist _ _) o2
  have oNS : sOwn ∉ NS := fun m => o3 (by rw [eNS] at m; exact List.mem_of_mem_take m)
  have lNS : NS.length = n := by rw [eNS, List.length_take]; show min n 5 = n; omega
  have sl : sliceD (.list [PyData.str (Str.ofString "one"), .str (Str.ofString "two"), .str (Str.ofString "three"), .str (Str.ofString "four"), .str (Str.ofString "five")]) none (some (n : Int)) = some (.list (NS.map .str)) := by
    show some (PyData.list (cutD (L5.map PyData.str) none (some (n : Int)))) = _
    unfold cutD
    rw [HT.sIx_nat, HT.sIx_none, List.length_map, show min n L5.length = n from by show min n 5 = n; omega, List.drop_zero, Nat.sub_zero, eNS, List.map_take]
  have G0 : evSs (ctxN pgm 600) pgm.wf c_law_G0 [some (.d (scrD ns)), none, none, none, none, none, none, none, none, none, none, none, none, none, none, none] [] = .next [some (.d (scrD ns)), some (.d (.int D)), some (.d (.list (NS.map .str))), some (.d (.list xs)), some (.r 0), none, none, none, none, none, none, none, none, none, none, none] [.lst []] := by
    have e := p_absi c0
    rw [← eD] at e
    have e5 := p_modi (i := D) (j := 5) (by decide)
    generalize NS.map PyData.str = Z at *
    generalize scrD ns = SS at *
    simp -implicitDefEqProofs [c_law_G0, call3 hx, call2 hc0, e, e5, en, sl]
  obtain ⟨env1, st1, G1, ps, kk, mn, tm, nh, rfl, rfl, hpx, hdl⟩ := l_build 500 (scrD ns) D NS xs hNS (by omega) gx
  have hpl : ps.length = n := by rw [← lNS, ← hpx, List.length_map]
  have G2 : evSs (ctxN pgm 600) pgm.wf c_law_G2 [some (.d (scrD ns)), some (.d (.int D)), some (.d (.list (NS.map .str))), some (.d (.list xs)), some (.r 0), kk, none, none, none, none, none, none, mn, tm, nh, none] [.lst ((ps.map Dc.d).map .d)] = .next [some (.d (scrD ns)), some (.d (.int D)), some (.d (.list (NS.map .str))), some (.d (.list xs)), some (.r 0), kk, some (.r 1), some (.d .none), none, none, none, none, mn, tm, nh, none] [.lst ((ps.map Dc.d).map .d), .dct []] := rfl
  obtain ⟨one', nh', kn⟩ := l_known (scrD ns) (.list (NS.map .str)) (.list xs) D (ps.map Dc.d) kk mn tm ps [] none none nh hdl (by rw [List.map_nil, List.nil_append, hpx]; exact nNS) (by show 0 + ps.length ≤ 1000; omega)
  have G3 : evS (ctxN pgm 600) pgm.wf c_law_L4 [some (.d (scrD ns)), some (.d (.int D)), some (.d (.list (NS.map .str))), some (.d (.list xs)), some (.r 0), kk, some (.r 1), some (.d .none), none, none, none, none, mn, tm, nh, none] [.lst ((ps.map Dc.d).map .d), .dct []] = .next [some (.d (scrD ns)), some (.d (.int D)), some (.d (.list (NS.map .str))), some (.d (.list xs)), some (.r 0), kk, some (.r 1), some (.d (uD (unk [] ps))), one', none, none, none, mn, tm, nh', none] [.frz (ps.map Dc.d), .dct (dD (allG [] ps))] := by
    have hI : evI (ctxN pgm 600) (.lst (.frz (.var 4))) [some (.d (scrD ns)), some (.d (.int D)), some (.d (.list (NS.map .str))), some (.d (.list xs)), some (.r 0), kk, some (.r 1), some (.d .none), none, none, none, none, mn, tm, nh, none] [.lst ((ps.map Dc.d).map .d), .dct []] = .ok (ps.map Dc.d) [.frz (ps.map Dc.d), .dct []] := by
      have had : allD ((ps.map Dc.d).map Sv.d) = some (ps.map Dc.d) := allD_map _
      generalize ps.map Dc.d = Q at *
      generalize Q.map Sv.d = X at *
      generalize NS.map PyData.str = Z at *
      generalize scrD ns = SS at *
      simp -implicitDefEqProofs [had]
    show (match evI (ctxN pgm 600) (.lst (.frz (.var 4))) [some (.d (scrD ns)), some (.d (.int D)), some (.d (.list (NS.map .str))), some (.d (.list xs)), some (.r 0), kk, some (.r 1), some (.d .none), none, none, none, none, mn, tm, nh, none] [.lst ((ps.map Dc.d).map .d), .dct []] with
      | .ok zz st1 => loopF (fun x env st => evT (ctxN pgm 600) (.name 8) (.d x) env st) (fun env st => evSs (ctxN pgm 600) pgm.wf bM env st) zz [some (.d (scrD ns)), some (.d (.int D)), some (.d (.list (NS.map .str))), some (.d (.list xs)), some (.r 0), kk, some (.r 1), some (.d .none), none, none, none, none, mn, tm, nh, none] st1
      | .exc c p st1 => .exc c p [some (.d (scrD ns)), some (.d (.int D)), some (.d (.list (NS.map .str))), some (.d (.list xs)), some (.r 0), kk, some (.r 1), some (.d .none), none, none, none, none, mn, tm, nh, none] st1
      | .bad => .bad) = _
    rw [hI]
    exact kn
  -- the wanted name
  obtain ⟨j, ej, hj⟩ : ∃ j : Nat, D / 5 % ((NS.length : Int) + 1) = (j : Int) ∧ j < NS.length + 1 := by
    have h1 := Int.emod_nonneg (D / 5) (b := (NS.length : Int) + 1) (by omega)
    have h2 := Int.emod_lt_of_pos (D / 5) (b := (NS.length : Int) + 1) (by omega)
    exact ⟨(D / 5 % ((NS.length : Int) + 1)).toNat, by omega, by omega⟩
  obtain ⟨w, hw⟩ : ∃ w, (NS ++ [sOwn])[j]? = some w := ⟨_, List.getElem?_eq_getElem (by rw [List.length_append]; exact hj)⟩
  have G4 : evSs (ctxN pgm 600) pgm.wf c_law_G4 [some (.d (scrD ns)), some (.d (.int D)), some (.d (.list (NS.map .str))), some (.d (.list xs)), some (.r 0), kk, some (.r 1), some (.d (uD (unk [] ps))), one', none, none, none, mn, tm, nh', none] [.frz (ps.map Dc.d), .dct (dD (allG [] ps))] = .next [some (.d (scrD ns)), some (.d (.int D)), some (.d (.list (NS.map .str))), some (.d (.list xs)), some (.r 0), kk, some (.r 1), some (.d (uD (unk [] ps))), one', some (.d (.str w)), some (.d (.list (ps.map Dc.d))), none, mn, tm, nh', none] [.frz (ps.map Dc.d), .dct (dD (allG [] ps))] := by
    have c1 := p_catl (xs := NS.map PyData.str) (ys := [.str sOwn]) (by simp; omega)
    rw [show NS.map PyData.str ++ [PyData.str sOwn] = (NS ++ [sOwn]).map .str by simp] at c1
    have ix := at_nat (ds := (NS ++ [sOwn]).map PyData.str) (k := j) (x := .str w) (by rw [List.getElem?_map, hw]; rfl)
    have e5 := p_fdivi (i := D) (j := 5) (by decide) (by decide)
    have em := p_modi (i := D / 5) (j := (NS.length : Int) + 1) (by omega)
    rw [ej] at em
    have ln : prim .len [.list (NS.map PyData.str)] = some (.int (NS.length : Int)) := by rw [p_lenl, List.length_map]
    have tl : prim .toLst [.list (ps.map Dc.d)] = some (.list (ps.map Dc.d)) := rfl
    generalize (NS ++ [sOwn]).map PyData.str = Z2 at *
    generalize NS.map PyData.str = Z at *
    have hv : view [.frz (ps.map Dc.d), .dct (dD (allG [] ps))] (.r 0) = some (.list (ps.map Dc.d)) := rfl
    generalize dD (allG [] ps) = kv at *
    generalize ps.map Dc.d = Q at *
    generalize uD (unk [] ps) = UU at *
    generalize scrD ns = SS at *
    generalize (NS.length : Int) = LN at *
    simp -implicitDefEqProofs [c_law_G4, c1, e5, em, ln, ix, tl, hv]
  have fin : (∃ st', evSs (ctxN pgm 600) pgm.wf c_law_G5 [some (.d (scrD ns)), some (.d (.int D)), some (.d (.list (NS.map .str))), some (.d (.list xs)), some (.r 0), kk, some (.r 1), some (.d (uD (unk [] ps))), one', some (.d (.str w)), some (.d (.list (ps.map Dc.d))), none, mn, tm, nh', none] [.frz (ps.map Dc.d), .dct (dD (allG [] ps))] = .ret (.d (.bool true)) st') → ∃ st, callN pgm 601 i_law [.d (scrD ns)] [] = .ok (.d (.bool true)) st := fun ⟨st', h⟩ => by
    refine ⟨st', ?_⟩
    rw [call_eq (d := p_law) [] rfl rfl]
    show endR (evSs (ctxN pgm 600) pgm.wf c_law [some (.d (scrD ns)), none, none, none, none, none, none, none, none, none, none, none, none, none, none, none] []) = _
    have G1' : evSs (ctxN pgm 600) pgm.wf c_law_G1 [some (.d (scrD ns)), some (.d (.int D)), some (.d (.list (NS.map .str))), some (.d (.list xs)), some (.r 0), none, none, none, none, none, none, none, none, none, none, none] [.lst []] = .next [some (.d (scrD ns)), some (.d (.int D)), some (.d (.list (NS.map .str))), some (.d (.list xs)), some (.r 0), kk, none, none, none, none, none, none, mn, tm, nh, none] [.lst ((ps.map Dc.d).map .d)] := by
      rw [c_law_G1, ss_cons, G1]
      rfl
    have G3' : evSs (ctxN pgm 600) pgm.wf c_law_G3 [some (.d (scrD ns)), some (.d (.int D)), some (.d (.list (NS.map .str))), some (.d (.list xs)), some (.r 0), kk, some (.r 1), some (.d .none), none, none, none, none, mn, tm, nh, none] [.lst ((ps.map Dc.d).map .d), .dct []] = .next [some (.d (scrD ns)), some (.d (.int D)), some (.d (.list (NS.map .str))), some (.d (.list xs)), some (.r 0), kk, some (.r 1), some (.d (uD (unk [] ps))), one', none, none, none, mn, tm, nh', none] [.frz (ps.map Dc.d), .dct (dD (allG [] ps))] := by
      rw [c_law_G3, ss_cons, G3]
      rfl
    rw [c_law_eq, evSs_app, G0, q_next, evSs_app, G1', q_next, evSs_app, G2, q_next, evSs_app, G3', q_next, evSs_app, G4, q_next, h]
    rfl
  refine fin ?_
  have hs : ∀ d ∈ ps, d.t.sz ≤ 1000 ∧ d.t.dp ≤ 300 := fun d m => ⟨by have := (hdl d m).sz; omega, by have := (hdl d m).dp; omega⟩
  have lk := a_linked 598 (by decide) ps hs (by rw [hpx]; exact nNS) (by omega) w
  rw [hpx] at lk
  by_cases hc : NS.contains w = true
  · rw [if_pos hc] at lk
    have hwo : w ≠ sOwn := fun e => oNS (by rw [← e]; exact List.contains_iff_mem.mp hc)
    cases hu : unk [] ps with
    | some u =>
      rw [hu] at lk
      exact g_exc (scrD ns) (.list xs) D (.list (NS.map .str)) (ps.map Dc.d) kk mn tm one' nh' (dD (allG [] ps)) w u (.str u) lk (.inr ⟨hwo, rfl⟩)
    | none =>
      rw [hu] at lk
      obtain ⟨t, ht, la⟩ := lk
      have hld : lookD (dD (allG [] ps)) w = some t.d := by rw [look_dD, ht]; rfl
      have fa := fit_all (N := 60) ps [] 0 (fun _ m => nomatch m) fun d m => ⟨(hdl d m).fit, (hdl d m).dp⟩
      obtain ⟨p, mp, rfl⟩ := lkT_mem ht
      obtain ⟨f1, f2⟩ := fa p mp
      have dp1 := p.2.dep f1
      have s1 := p_selfD (p.2.lay f1) (by omega)
      have s2 := list_self (ds := ps.map Dc.d) (k := 70) (by decide) fun d m => by
        obtain ⟨q, mq, rfl⟩ := List.mem_map.mp m
        have hq := hdl q mq
        have d1 := q.t.dep hq.fit
        have d2 := hq.dp
        have gx2 := hNS q.x (by rw [← hpx]; exact List.mem_map.mpr ⟨q, mq, rfl⟩)
        have d3 := q.k.dep
        have d4 := hq.kd
        unfold Dc.d
        refine ⟨by simp [q.k.lay, q.t.lay hq.fit, gx2.1], ?_⟩
        simp [d3]
        omega
      exact g_fin (scrD ns) (.list xs) D (.list (NS.map .str)) (ps.map Dc.d) kk mn tm one' nh' (dD (allG [] ps)) w p.2.d hwo la hld s1 s2
  · rw [if_neg hc] at lk
    have hwo : w = sOwn := by
      by_cases hjl : j < NS.length
      · rw [List.getElem?_append_left hjl] at hw
        exact absurd (List.contains_iff_mem.mpr (List.mem_of_getElem? hw)) hc
      · rw [List.getElem?_append_right (by omega), show j - NS.length = 0 by omega] at hw
        exact (Option.some.inj hw).symm
    exact g_exc (scrD ns) (.list xs) D (.list (NS.map .str)) (ps.map Dc.d) kk mn tm one' nh' (dD (allG [] ps)) w w (uD (unk [] ps)) lk (.inl ⟨hwo, hwo⟩)

theorem law_ok : Wanted spc lawIx 600 := fun ns hn => law_t ns hn

end K09
theorem PySem.Challenge.cw_sharenet_k09_linking_holds : PySem.Challenge.rw_sharenet_k09_linking.Holds :=
  holds_k09 K09.law_ok
