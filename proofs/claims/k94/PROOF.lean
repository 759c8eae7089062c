import PyProof.Rows.All
import HandS.ForMost
import HandS.Wide
import HandS.IsInst
import HandS.Gcd
import HandS.Style
import HandS.TupAny
import HandS.Deep
import HandS.Zip
import HandS.Walk
import HandS.Conv
import HandS.Flow
import KE.DataEq
import HandS.TupLe
import HandS.TupMul
import PyProof.WalkInts
import PyProof.WalksMore
import PyProof.ReprRoads
import PyProof.Draws
import PyProof.EnumMake
import KE.GoesMore
import KE.KDictZip
import KE.KDictItemsList
import HandS.RevTup
import HandS.Star
import HandS.ListItems
import HandS.EndBits
import PySem.Challenge.RW_laterthen_k94_whole_late_outputs_and_wha
set_option Elab.async false
set_option linter.all false
set_option autoImplicit false
set_option maxRecDepth 100000
set_option maxHeartbeats 4000000
namespace Dx
open PySem PySem.Spec PyProof.Rows L2

/-! ## The data level: values without a heap -/
/-- what a slot holds: data that never changes, or a list that this slot alone holds -/
inductive Sl where
  | dat (d : PyData)
  | own (ds : List PyData)
/-- what an expression gives: data, or a new list that nobody else holds -/
inductive R where
  | dat (d : PyData)
  | frs (ds : List PyData)
def R.d : R → PyData
  | .dat d => d
  | .frs ds => .list ds
abbrev Env1 := List (Option Sl)
abbrev Fn := List Sl → Option (R × List Sl)
structure Gf where
  kinds : List Bool
  f : Fn
structure Gx where
  fns : Str → Option Gf
  cons : Str → Option PyData
  kw : List (Str × List Str × List Nat)

/-- one tree for expressions, arguments, targets, iterables, statements -/
inductive I where
  | var (i : Nat) | int (i : Int) | str (s : Str) | non | bl (b : Bool) | con (x : Str)
  | bin (op : Operator) (a b : I) | inot (a : I) | neg (a : I)
  | and (a b : I) | or (a b : I) | cmp (op : CmpOp) (a b : I) | cmp2 (op op' : CmpOp) (a b c : I) | ite (c a b : I)
  | tup (as : I) | lst (as : I) | nil | cons (a r : I)
  | call (f : Str) (as : I) (pm : List Nat) | blt (f : Str) (as : I) | isi (a : I) (ts : List Str)
  | idx (a b : I) | slc (a lo hi : I) | abs | rev (a : I)
  | lc (elt tgt it cnd : I) (vs : List Nat)
  | tnm (i : Nat) | ttp (ts : I)
  | iv (e : I) | irg (a : I) | irg2 (a b : I) | ien (e : I) | izp (a b : I)
  | sset (i : Nat) (e : I) | sown (i : Nat) (e : I) | stg (t e : I) | spar (is : List (Nat × Bool)) (as : I)
  | sdm (i : Nat) (k : I) (j : Nat) (a b : I) | sidx (i : Nat) (k e : I)
  | sapp (i : Nat) (e : I) | sext (i : Nat) (e : I)
  | spop (i : Nat) | sfg (vs : List Nat) (b : I) | lrg (a : I) | pkb (f : Str) (i : Nat) | bor (i : Nat) (e : I) | tzp (a : I)
  | sif (c a b : I) | sfor (t it b : I) | swh (c b : I) | sret (e : I) | sretv (i : Nat) | sexp (e : I) | sno
  | scons (s r : I) | snil
  deriving DecidableEq

inductive Out where
  | nx (ρ : Env1) | rt (r : R) (ρ : Env1) | bk (ρ : Env1) | ct (ρ : Env1)

/-- some slots are looked at no more -/
def wipeE (ρ : Env1) : List Nat → Env1
  | [] => ρ
  | v :: vs => (wipeE ρ vs).set v none
def Out.fg (vs : List Nat) : Out → Out
  | .nx ρ => .nx (wipeE ρ vs)
  | .bk ρ => .bk (wipeE ρ vs)
  | .ct ρ => .ct (wipeE ρ vs)
  | .rt r ρ => .rt r ρ

/-- an evaluated argument: data, a new list, or the list that a slot holds -/
inductive Ar where
  | dat (d : PyData) | frs (ds : List PyData) | ref (i : Nat)

structure Sm where
  e : Env1 → Option (R × Env1)
  a : List Bool → Env1 → Option (List Ar × Env1)
  t : PyData → Env1 → Option Env1
  i : Env1 → Option (List PyData × Env1)
  s : Env1 → Option Out

/-! ### operators -/
def small (i : Int) : Bool := decide (i.natAbs < 2 ^ 4000)
def binD (op : Operator) (x y : PyData) : Option R :=
  match op, x, y with
  | .Add, .int i, .int j => some (.dat (.int (i + j)))
  | .Sub, .int i, .int j => some (.dat (.int (i - j)))
  | .Mult, .int i, .int j => if small i && small j then some (.dat (.int (i * j))) else none
  | .FloorDiv, .int i, .int j => if decide (0 < j) && small j then some (.dat (.int (i / j))) else none
  | .Mod, .int i, .int j => if 0 < j then some (.dat (.int (i % j))) else none
  | .Pow, .int i, .int j => if 0 ≤ j ∧ j ≤ 1000 ∧ i.natAbs < 2 ^ 60 then some (.dat (.int (i ^ j.toNat))) else none
  | .Add, .list xs, .list ys => if xs.length + ys.length ≤ sizeLine then some (.frs (xs ++ ys)) else none
  | .Add, .tuple xs, .tuple ys => if xs.length + ys.length ≤ sizeLine then some (.dat (.tuple (xs ++ ys))) else none
  | .Mult, .tuple xs, .int k => if 0 ≤ k ∧ k ≤ 1000 ∧ xs.length ≤ 1000 then some (.dat (.tuple (List.replicate k.toNat xs).flatten)) else none
  | .Mult, .list xs, .int k => if 0 ≤ k ∧ k ≤ 1000 ∧ xs.length ≤ 1000 then some (.frs (List.replicate k.toNat xs).flatten) else none
  | _, _, _ => none
end Dx

namespace Dx
open PySem PySem.Spec PyProof.Rows L2

/-! ### comparisons, truth -/
/-- data that == takes: no dict within, not too deep -/
def okD (d : PyData) : Bool := d.plain && decide (d.depth ≤ 64)
def cmpD (op : CmpOp) (x y : PyData) : Option Bool :=
  match op, x, y with
  | .Eq, x, y => if okD x && okD y then some (PyData.eqv x y) else none
  | .NotEq, x, y => if okD x && okD y then some (!PyData.eqv x y) else none
  | .Lt, .int i, .int j => some (decide (i < j))
  | .LtE, .int i, .int j => some (decide (i ≤ j))
  | .Gt, .int i, .int j => some (decide (j < i))
  | .GtE, .int i, .int j => some (decide (j ≤ i))
  | .In, x, .list ys => if okD x && okD (.list ys) then some (ys.any fun y => PyData.eqv y x) else none
  | .NotIn, x, .list ys => if okD x && okD (.list ys) then some (!ys.any fun y => PyData.eqv y x) else none
  | .In, x, .tuple ys => if okD x && okD (.tuple ys) then some (ys.any fun y => PyData.eqv y x) else none
  | .NotIn, x, .tuple ys => if okD x && okD (.tuple ys) then some (!ys.any fun y => PyData.eqv y x) else none
  | .Is, x, .none => some (match x with | .none => true | _ => false)
  | .IsNot, x, .none => some (match x with | .none => false | _ => true)
  | .Is, .bool a, .bool b => some (decide (a = b))
  | .IsNot, .bool a, .bool b => some (!decide (a = b))
  | _, _, _ => none
def truD : PyData → Option Bool
  | .none => some false
  | .bool b => some b
  | .int i => some (i != 0)
  | .str y => if y.length ≤ sizeLine then some ((y.length : Int) != 0) else none
  | .list xs => some (!xs.isEmpty)
  | .tuple xs => some (!xs.isEmpty)
  | .dict _ => none

/-! ### built-ins -/
def allBl : List PyData → Option (List Bool)
  | [] => some []
  | .bool b :: r => (allBl r).map (b :: ·)
  | _ :: _ => none
def allInt : List PyData → Option (List Int)
  | [] => some []
  | .int b :: r => (allInt r).map (b :: ·)
  | _ :: _ => none
/-- the greatest, the least -/
def maxL : List Int → Int
  | [] => 0
  | i :: r => r.foldl (fun a b => if b > a then b else a) i
def minL : List Int → Int
  | [] => 0
  | i :: r => r.foldl (fun a b => if b < a then b else a) i
/-- what repr takes -/
def reprOk (d : PyData) : Bool := d.plain && decide (d.depth ≤ 64) && d.showable && decide (d.shown.length ≤ sizeLine)
def bltD (f : Str) (as : List PyData) : Option R :=
  if f = "len" then match as with
    | [.list xs] => some (.dat (.int xs.length))
    | [.tuple xs] => some (.dat (.int xs.length))
    | [.str x] => if x.length ≤ sizeLine then some (.dat (.int x.length)) else none
    | _ => none
  else if f = "abs" then match as with
    | [.int i] => some (.dat (.int (if i < 0 then -i else i)))
    | _ => none
  else if f = "int" then match as with
    | [.int i] => some (.dat (.int i))
    | _ => none
  else if f = "max" then match as with
    | [.int i, .int j] => some (.dat (.int (if j > i then j else i)))
    | [.list xs] => (allInt xs).bind fun ns => if ns.isEmpty then none else some (.dat (.int (maxL ns)))
    | [.tuple xs] => (allInt xs).bind fun ns => if ns.isEmpty then none else some (.dat (.int (maxL ns)))
    | _ => none
  else if f = "min" then match as with
    | [.int i, .int j] => some (.dat (.int (if j < i then j else i)))
    | [.list xs] => (allInt xs).bind fun ns => if ns.isEmpty then none else some (.dat (.int (minL ns)))
    | [.tuple xs] => (allInt xs).bind fun ns => if ns.isEmpty then none else some (.dat (.int (minL ns)))
    | _ => none
  else if f = "gcd" then match as with
    | [.int i, .int j] => some (.dat (.int ((Nat.gcd i.natAbs j.natAbs : Nat) : Int)))
    | _ => none
  else if f = "all" then match as with
    | [.list xs] => (allBl xs).map fun bs => .dat (.bool (bs.all id))
    | _ => none
  else if f = "any" then match as with
    | [.list xs] => (allBl xs).map fun bs => .dat (.bool (bs.any id))
    | _ => none
  else if f = "sum" then match as with
    | [.list xs] => (allInt xs).map fun ns => .dat (.int ns.sum)
    | _ => none
  else if f = "list" then match as with
    | [.list xs] => some (.frs xs)
    | [.tuple xs] => some (.frs xs)
    | _ => none
  else if f = "repr" then match as with
    | [d] => if reprOk d then some (.dat (.str d.shown)) else none
    | _ => none
  else if f = "tuple" then match as with
    | [.list xs] => some (.dat (.tuple xs))
    | [.tuple xs] => some (.dat (.tuple xs))
    | _ => none
  else none
/-- the class's name -/
def tyD : PyData → String
  | .none => "NoneType"
  | .bool _ => "bool"
  | .int _ => "int"
  | .str _ => "str"
  | .list _ => "list"
  | .tuple _ => "tuple"
  | .dict _ => "dict"
def isiL (x : PyData) : List Str → Option Bool
  | [] => some false
  | t :: r => match kitB (tyD x) (if t = "int" then "int" else if t = "bool" then "bool" else if t = "tuple" then "tuple" else if t = "list" then "list" else if t = "str" then "str" else "dict") with
    | some true => some true
    | some false => isiL x r
    | none => none
def idxD (x y : PyData) : Option PyData :=
  match x, y with
  | .list xs, .int i => atI xs i
  | .tuple xs, .int i => atI xs i
  | _, _ => none
def cutD (xs : List PyData) (lo hi : Option Int) : List PyData := (xs.drop (HT.sIx xs.length 0 lo)).take (HT.sIx xs.length xs.length hi - HT.sIx xs.length 0 lo)
def slcD (x : PyData) (lo hi : Option Int) : Option R :=
  match x with
  | .list xs => some (.frs (cutD xs lo hi))
  | .tuple xs => some (.dat (.tuple (cutD xs lo hi)))
  | _ => none

/-! ### slots -/
def getD (ρ : Env1) (i : Nat) : Option PyData :=
  match ρ[i]? with
  | some (some (.dat d)) => some d
  | some (some (.own ds)) => some (.list ds)
  | _ => none
def getO (ρ : Env1) (i : Nat) : Option (List PyData) :=
  match ρ[i]? with
  | some (some (.own ds)) => some ds
  | _ => none
/-- a slot's value as data: a list of its own is given out (no more its own), unless it is pinned -/
def pubD (pn : List Nat) (ρ : Env1) (i : Nat) : Option (PyData × Env1) :=
  match ρ[i]? with
  | some (some (.dat d)) => some (d, ρ)
  | some (some (.own ds)) => if pn.contains i then none else some (.list ds, ρ.set i (some (.dat (.list ds))))
  | _ => none
def setS (pn : List Nat) (ρ : Env1) (i : Nat) (s : Sl) : Option Env1 := if pn.contains i then none else if i < ρ.length then some (ρ.set i (some s)) else none
/-- behind a comprehension: its own names as ahead, the others as they are -/
def backE (ρ ρ' : Env1) : List Nat → Env1
  | [] => ρ'
  | v :: vs => (backE ρ ρ' vs).set v (ρ[v]?.getD none)

def arD : Ar → Option PyData
  | .dat d => some d
  | .frs _ => none
  | .ref _ => none
def arsD : List Ar → Option (List PyData)
  | [] => some []
  | a :: r => do let d ← arD a; let ds ← arsD r; some (d :: ds)
def slOf (ρ : Env1) : Bool → Ar → Option Sl
  | false, .dat d => some (.dat d)
  | true, .frs ds => some (.own ds)
  | true, .ref i => (getO ρ i).map .own
  | _, _ => none
def slsOf (ρ : Env1) : List Bool → List Ar → Option (List Sl)
  | [], [] => some []
  | k :: ks, a :: r => do let s ← slOf ρ k a; let t ← slsOf ρ ks r; some (s :: t)
  | _, _ => none
/-- the slots behind a call: a list that was handed over holds what the callee left -/
def putBack : Env1 → List Ar → List Sl → Option Env1
  | ρ, [], [] => some ρ
  | ρ, .ref i :: r, .own ds :: t => putBack (ρ.set i (some (.own ds))) r t
  | ρ, .ref _ :: _, .dat _ :: _ => none
  | ρ, .dat _ :: r, _ :: t => putBack ρ r t
  | ρ, .frs _ :: r, _ :: t => putBack ρ r t
  | _, _, _ => none
def refs : List Ar → List Nat
  | [] => []
  | .ref i :: r => i :: refs r
  | _ :: r => refs r
def permG {α : Type} (pm : List Nat) (xs : List α) : Option (List α) := if pm.isEmpty then some xs else pm.mapM fun i => xs[i]?

def rngD : List PyData → Option (List PyData)
  | [.int n] => if n.natAbs ≤ 1000000 then some ((List.range n.toNat).map fun (i : Nat) => .int i) else none
  | [.int a, .int b] => if a.natAbs ≤ 1000000 ∧ b.natAbs ≤ 1000000 then some ((List.range (b - a).toNat).map fun (i : Nat) => .int (a + i)) else none
  | _ => none
def zipD : PyData → PyData → Option (List PyData)
  | .list xs, .list ys => some (List.zipWith (fun x y => .tuple [x, y]) xs ys)
  | .tuple xs, .tuple ys => some (List.zipWith (fun x y => .tuple [x, y]) xs ys)
  | _, _ => none
def seqD : PyData → Option (List PyData)
  | .list xs => some xs
  | .tuple xs => some xs
  | _ => none
/-- the rows of a table -/
def tupsD : List PyData → Option (List (List PyData))
  | [] => some []
  | .tuple xs :: r => (tupsD r).map (xs :: ·)
  | _ :: _ => none
/-- tuple(zip(*d)), of rows of one length -/
def zstD (d : PyData) : Option PyData := do
  let xs ← seqD d
  let rs ← tupsD xs
  if rs ≠ [] ∧ rs.length ≤ 12 ∧ (rs.headD []).length ≤ sizeLine ∧ (∀ r ∈ rs, r.length = (rs.headD []).length) then some (.tuple ((List.range (rs.headD []).length).map fun j => .tuple (rs.map fun r => r.getD j .none))) else none

/-! ### loops -/
def forG (t : PyData → Env1 → Option Env1) (b : Env1 → Option Out) : List PyData → Env1 → Option Out
  | [], ρ => some (.nx ρ)
  | x :: r, ρ => do
    let ρ1 ← t x ρ
    match ← b ρ1 with
    | .nx ρ2 => forG t b r ρ2
    | .ct ρ2 => forG t b r ρ2
    | .bk ρ2 => some (.nx ρ2)
    | .rt v ρ2 => some (.rt v ρ2)
def whileG (c : Env1 → Option (R × Env1)) (b : Env1 → Option Out) : Nat → Env1 → Option Out
  | 0, _ => none
  | n + 1, ρ => do
    let (r, ρ1) ← c ρ
    match ← truD r.d with
    | true => match ← b ρ1 with
      | .nx ρ2 => whileG c b n ρ2
      | .ct ρ2 => whileG c b n ρ2
      | .bk ρ2 => some (.nx ρ2)
      | .rt v ρ2 => some (.rt v ρ2)
    | false => some (.nx ρ1)
def lcG (vs : List Nat) (ρ0 : Env1) (t : PyData → Env1 → Option Env1) (c : Env1 → Option (R × Env1)) (e : Env1 → Option (R × Env1)) : List PyData → Env1 → List PyData → Option (List PyData × Env1)
  | [], ρ, acc => some (acc, ρ)
  | x :: r, ρ, acc => do
    let ρ1 ← t x (wipeE ρ vs)
    let (k, ρ2) ← c ρ1
    match ← truD k.d with
    | true => do
      let (y, ρ3) ← e ρ2
      if acc.length < sizeLine then lcG vs ρ0 t c e r (backE ρ0 ρ3 vs) (acc ++ [y.d]) else none
    | false => lcG vs ρ0 t c e r (backE ρ0 ρ2 vs) acc
def tgG (t : List (PyData → Env1 → Option Env1)) (xs : List PyData) (ρ : Env1) : Option Env1 :=
  match t, xs with
  | [], [] => some ρ
  | f :: t, x :: xs => do let ρ1 ← f x ρ; tgG t xs ρ1
  | _, _ => none

/-- one argument: where a list of its own is wanted, the slot's own list, or a new one; else data -/
def argG (e : Env1 → Option (R × Env1)) (var : Option Nat) (ks : List Bool) (ρ : Env1) : Option (Ar × Env1) :=
  match ks, var with
  | true :: _, some i => (getO ρ i).map fun _ => (.ref i, ρ)
  | true :: _, none => do
    let (x, ρ1) ← e ρ
    match x with
    | .dat d => some (.dat d, ρ1)
    | .frs ds => some (.frs ds, ρ1)
  | _, _ => do
    let (x, ρ1) ← e ρ
    some (.dat x.d, ρ1)
/-- an expression that is a slot's name is read late -/
def eOr (fa : (Env1 → Option (R × Env1))) (var : Option Nat) (ρ : Env1) : Option (PyData × Env1) :=
  match var with
  | some i => (getD ρ i).map fun d => (d, ρ)
  | none => (fa ρ).map fun p => (p.1.d, p.2)
def late (var : Option Nat) (x : PyData) (ρ : Env1) : Option PyData :=
  match var with
  | some i => getD ρ i
  | none => some x
mutual
/-- data without lists and dicts -/
def scal : PyData → Bool
  | .none => true
  | .bool _ => true
  | .int _ => true
  | .str _ => true
  | .list _ => false
  | .tuple xs => scalA xs
  | .dict _ => false
def scalA : List PyData → Bool
  | [] => true
  | x :: r => scal x && scalA r
end
/-- behind an expression for which the slot i was lent -/
def borE (i : Nat) : Nat → Env1 → Env1 → Option Env1
  | _, [], [] => some []
  | n, some (.own ds) :: r, y :: r1 => if n = i then (borE i (n + 1) r r1).map (some (.own ds) :: ·) else match y with
    | some (.own es) => if es.all scal then (borE i (n + 1) r r1).map (some (.own es) :: ·) else none
    | _ => none
  | n, some (.dat d) :: r, _ :: r1 => (borE i (n + 1) r r1).map (some (.dat d) :: ·)
  | n, none :: r, _ :: r1 => (borE i (n + 1) r r1).map (none :: ·)
  | _, _, _ => none
def borG (pn : List Nat) (i : Nat) (fe : Env1 → Option (R × Env1)) (ρ : Env1) : Option (R × Env1) :=
  match ρ[i]? with
  | some (some (.own ds)) => if pn.contains i then none else do
    let (x, ρ1) ← fe (ρ.set i (some (.dat (.list ds))))
    if scal x.d then (borE i 0 ρ ρ1).map fun ρ' => (.dat x.d, ρ') else none
  | _ => fe ρ
/-- a slice's part -/
def partD (fo : Option (Env1 → Option (R × Env1))) (ρ : Env1) : Option (Option Int × Env1) :=
  match fo with
  | none => some (none, ρ)
  | some fe => match fe ρ with
    | some (.dat (.int i), ρ1) => some (some i, ρ1)
    | _ => none
def varI : I → Option Nat
  | .var i => some i
  | _ => none
def isAbs : I → Bool
  | .abs => true
  | _ => false
def sm0 : Sm := ⟨fun _ => none, fun _ _ => none, fun _ _ => none, fun _ => none, fun _ => none⟩
def parG (pn : List Nat) : List (Nat × Bool) → List Ar → Env1 → Option Env1
  | [], [], ρ => some ρ
  | (i, false) :: is, .dat d :: r, ρ => do let ρ1 ← setS pn ρ i (.dat d); parG pn is r ρ1
  | (i, true) :: is, .frs ds :: r, ρ => do let ρ1 ← setS pn ρ i (.own ds); parG pn is r ρ1
  | _, _, _ => none
/-- the meaning of a tree: G what the module's names mean, pn the slots that are the caller's lists, wf turns for each while -/
def sm (G : Gx) (pn : List Nat) (wf : Nat) : I → Sm
  | .var i => { sm0 with e := fun ρ => (pubD pn ρ i).map fun p => (.dat p.1, p.2) }
  | .int i => { sm0 with e := fun ρ => some (.dat (.int i), ρ) }
  | .str x => { sm0 with e := fun ρ => some (.dat (.str x), ρ) }
  | .non => { sm0 with e := fun ρ => some (.dat .none, ρ) }
  | .bl b => { sm0 with e := fun ρ => some (.dat (.bool b), ρ) }
  | .con x => { sm0 with e := fun ρ => (G.cons x).map fun d => (.dat d, ρ) }
  | .bin op a b => { sm0 with e := fun ρ => do
      let (x, ρ1) ← (sm G pn wf a).e ρ
      let (y, ρ2) ← (sm G pn wf b).e ρ1
      let r ← binD op x.d y.d
      some (r, ρ2) }
  | .inot a => { sm0 with e := fun ρ => do
      let (x, ρ1) ← (sm G pn wf a).e ρ
      let k ← truD x.d
      some (.dat (.bool (!k)), ρ1) }
  | .neg a => { sm0 with e := fun ρ => do
      let (x, ρ1) ← (sm G pn wf a).e ρ
      match x.d with
      | .int i => some (.dat (.int (-i)), ρ1)
      | _ => none }
  | .and a b => { sm0 with e := fun ρ => do
      let (x, ρ1) ← (sm G pn wf a).e ρ
      match ← truD x.d with
      | true => (sm G pn wf b).e ρ1
      | false => some (.dat x.d, ρ1) }
  | .or a b => { sm0 with e := fun ρ => do
      let (x, ρ1) ← (sm G pn wf a).e ρ
      match ← truD x.d with
      | true => some (.dat x.d, ρ1)
      | false => (sm G pn wf b).e ρ1 }
  | .cmp op a b => { sm0 with e := fun ρ => do
      let (x, ρ1) ← eOr (sm G pn wf a).e (varI a) ρ
      let (y, ρ2) ← eOr (sm G pn wf b).e (varI b) ρ1
      let x ← late (varI a) x ρ2
      let k ← cmpD op x y
      some (.dat (.bool k), ρ2) }
  | .cmp2 op op' a b c => { sm0 with e := fun ρ => do
      let (x, ρ1) ← (sm G pn wf a).e ρ
      let (y, ρ2) ← (sm G pn wf b).e ρ1
      match ← cmpD op x.d y.d with
      | true => do
        let (z, ρ3) ← (sm G pn wf c).e ρ2
        let k ← cmpD op' y.d z.d
        some (.dat (.bool k), ρ3)
      | false => some (.dat (.bool false), ρ2) }
  | .ite c a b => { sm0 with e := fun ρ => do
      let (x, ρ1) ← (sm G pn wf c).e ρ
      match ← truD x.d with
      | true => (sm G pn wf a).e ρ1
      | false => (sm G pn wf b).e ρ1 }
  | .tup as => { sm0 with e := fun ρ => do
      let (xs, ρ1) ← (sm G pn wf as).a [] ρ
      let ds ← arsD xs
      if ds.length ≤ sizeLine then some (.dat (.tuple ds), ρ1) else none }
  | .lst as => { sm0 with e := fun ρ => do
      let (xs, ρ1) ← (sm G pn wf as).a [] ρ
      let ds ← arsD xs
      if ds.length ≤ sizeLine then some (.frs ds, ρ1) else none }
  | .nil => { sm0 with a := fun _ ρ => some ([], ρ), s := fun ρ => some (.nx ρ), t := fun d ρ => match d with | .tuple [] => some ρ | _ => none }
  | .cons a r => { sm0 with
      a := fun ks ρ => do
        let (x, ρ1) ← argG (sm G pn wf a).e (varI a) ks ρ
        let (xs, ρ2) ← (sm G pn wf r).a ks.tail ρ1
        some (x :: xs, ρ2)
      t := fun d ρ => match d with
        | .tuple (x :: xs) => do
          let ρ1 ← (sm G pn wf a).t x ρ
          (sm G pn wf r).t (.tuple xs) ρ1
        | _ => none }
  | .call f as pm => { sm0 with e := fun ρ => do
      let g ← G.fns f
      if pm = [] then do
        let (xs, ρ1) ← (sm G pn wf as).a g.kinds ρ
        if (refs xs).Nodup then do
          let ss ← slsOf ρ1 g.kinds xs
          let (r, out) ← g.f ss
          let ρ2 ← putBack ρ1 xs out
          some (r, ρ2)
        else none
      else do
        let (xs, ρ1) ← (sm G pn wf as).a [] ρ
        let ds ← arsD xs
        if ds.length = pm.length then do
          let (r, _) ← g.f (pm.map fun i => .dat (ds.getD i .none))
          some (r, ρ1)
        else none }
  | .blt f as => { sm0 with e := fun ρ => do
      let (xs, ρ1) ← (sm G pn wf as).a [] ρ
      let ds ← arsD xs
      let r ← bltD f ds
      some (r, ρ1) }
  | .isi a ts => { sm0 with e := fun ρ => do
      let (x, ρ1) ← (sm G pn wf a).e ρ
      let k ← isiL x.d ts
      some (.dat (.bool k), ρ1) }
  | .idx a b => { sm0 with e := fun ρ => do
      let (x, ρ1) ← eOr (sm G pn wf a).e (varI a) ρ
      let (y, ρ2) ← (sm G pn wf b).e ρ1
      let x ← late (varI a) x ρ2
      let d ← idxD x y.d
      some (.dat d, ρ2) }
  | .slc a lo hi => { sm0 with e := fun ρ => do
      let (x, ρ1) ← eOr (sm G pn wf a).e (varI a) ρ
      let (l, ρ2) ← partD (if isAbs lo then none else some (sm G pn wf lo).e) ρ1
      let (h, ρ3) ← partD (if isAbs hi then none else some (sm G pn wf hi).e) ρ2
      let x ← late (varI a) x ρ3
      let r ← slcD x l h
      some (r, ρ3) }
  | .abs => sm0
  | .rev a => { sm0 with e := fun ρ => do
      let (x, ρ1) ← (sm G pn wf a).e ρ
      match x.d with
      | .list xs => some (.frs xs.reverse, ρ1)
      | _ => none }
  | .lc elt tgt it cnd vs => { sm0 with e := fun ρ => do
      let (xs, ρ1) ← (sm G pn wf it).i ρ
      if (vs.all fun v => match ρ1[v]? with | some (some (.own _)) => false | _ => true) then do
      let (acc, ρ2) ← lcG vs ρ1 (sm G pn wf tgt).t (sm G pn wf cnd).e (sm G pn wf elt).e xs ρ1 []
      some (.frs acc, ρ2)
      else none }
  | .tnm i => { sm0 with t := fun d ρ => setS pn ρ i (.dat d) }
  | .ttp ts => { sm0 with t := fun d ρ => (sm G pn wf ts).t d ρ }
  | .iv e => { sm0 with i := fun ρ => do
      let (x, ρ1) ← (sm G pn wf e).e ρ
      let xs ← seqD x.d
      some (xs, ρ1) }
  | .irg a => { sm0 with i := fun ρ => do
      let (x, ρ1) ← (sm G pn wf a).e ρ
      let is ← rngD [x.d]
      some (is, ρ1) }
  | .irg2 a b => { sm0 with i := fun ρ => do
      let (x, ρ1) ← (sm G pn wf a).e ρ
      let (y, ρ2) ← (sm G pn wf b).e ρ1
      let is ← rngD [x.d, y.d]
      some (is, ρ2) }
  | .ien e => { sm0 with i := fun ρ => do
      let (x, ρ1) ← (sm G pn wf e).e ρ
      let xs ← seqD x.d
      some (xs.mapIdx fun (i : Nat) x => .tuple [.int i, x], ρ1) }
  | .izp a b => { sm0 with i := fun ρ => do
      let (x, ρ1) ← (sm G pn wf a).e ρ
      let (y, ρ2) ← (sm G pn wf b).e ρ1
      let is ← zipD x.d y.d
      some (is, ρ2) }
  | .sset i e => { sm0 with s := fun ρ => do
      let (x, ρ1) ← (sm G pn wf e).e ρ
      let ρ2 ← setS pn ρ1 i (.dat x.d)
      some (.nx ρ2) }
  | .sown i e => { sm0 with s := fun ρ => do
      let (x, ρ1) ← (sm G pn wf e).e ρ
      match x with
      | .frs ds => do let ρ2 ← setS pn ρ1 i (.own ds); some (.nx ρ2)
      | .dat _ => none }
  | .stg t e => { sm0 with s := fun ρ => do
      let (x, ρ1) ← (sm G pn wf e).e ρ
      let ρ2 ← (sm G pn wf t).t x.d ρ1
      some (.nx ρ2) }
  | .spar is as => { sm0 with s := fun ρ => do
      let (xs, ρ1) ← (sm G pn wf as).a (is.map (·.2)) ρ
      let ρ2 ← parG pn is xs ρ1
      some (.nx ρ2) }
  | .sdm i k j a b => { sm0 with s := fun ρ => do
      let _ ← getO ρ i
      let (x, ρ1) ← (sm G pn wf a).e ρ
      let (y, ρ2) ← (sm G pn wf b).e ρ1
      match x, y with
      | .dat (.int m), .dat (.int n) =>
        if 0 < n ∧ n < 2 ^ 29 then do
          let (z, ρ3) ← (sm G pn wf k).e ρ2
          match z with
          | .dat (.int q) => do
            let ds ← getO ρ3 i
            let p ← ixN ds.length q
            let ρ4 ← setS pn (ρ3.set i (some (.own (ds.set p (.int (m / n)))))) j (.dat (.int (m % n)))
            some (.nx ρ4)
          | _ => none
        else none
      | _, _ => none }
  | .sidx i k e => { sm0 with s := fun ρ => do
      let _ ← getO ρ i
      let (x, ρ1) ← (sm G pn wf e).e ρ
      let (z, ρ2) ← (sm G pn wf k).e ρ1
      match z with
      | .dat (.int q) => do
        let ds ← getO ρ2 i
        let p ← ixN ds.length q
        some (.nx (ρ2.set i (some (.own (ds.set p x.d)))))
      | _ => none }
  | .sapp i e => { sm0 with s := fun ρ => do
      let _ ← getO ρ i
      let (x, ρ1) ← (sm G pn wf e).e ρ
      let ds ← getO ρ1 i
      if ds.length < sizeLine then some (.nx (ρ1.set i (some (.own (ds ++ [x.d]))))) else none }
  | .sext i e => { sm0 with s := fun ρ => do
      let _ ← getO ρ i
      let (x, ρ1) ← (sm G pn wf e).e ρ
      let ds ← getO ρ1 i
      match x with
      | .frs xs => if ds.length + xs.length ≤ sizeLine then some (.nx (ρ1.set i (some (.own (ds ++ xs))))) else none
      | .dat _ => none }
  | .bor i e => { sm0 with e := borG pn i (sm G pn wf e).e }
  | .pkb f i => { sm0 with e := fun ρ => do
      let d ← getD ρ i
      let r ← bltD f [d]
      some (r, ρ) }
  | .spop i => { sm0 with s := fun ρ => do
      let ds ← getO ρ i
      if ds.isEmpty then none else some (.nx (ρ.set i (some (.own ds.dropLast)))) }
  | .sfg vs b => { sm0 with s := fun ρ => do
      let o ← (sm G pn wf b).s ρ
      if vs.any pn.contains then none else some (o.fg vs) }
  | .lrg a => { sm0 with e := fun ρ => do
      let (x, ρ1) ← (sm G pn wf a).e ρ
      let is ← rngD [x.d]
      some (.frs is, ρ1) }
  | .tzp a => { sm0 with e := fun ρ => do
      let (x, ρ1) ← (sm G pn wf a).e ρ
      let d ← zstD x.d
      some (.dat d, ρ1) }
  | .sif c a b => { sm0 with s := fun ρ => do
      let (x, ρ1) ← (sm G pn wf c).e ρ
      match ← truD x.d with
      | true => (sm G pn wf a).s ρ1
      | false => (sm G pn wf b).s ρ1 }
  | .sfor t it b => { sm0 with s := fun ρ => do
      let (xs, ρ1) ← (sm G pn wf it).i ρ
      forG (sm G pn wf t).t (sm G pn wf b).s xs ρ1 }
  | .swh c b => { sm0 with s := whileG (sm G pn wf c).e (sm G pn wf b).s wf }
  | .sret e => { sm0 with s := fun ρ => do
      let (x, ρ1) ← (sm G pn wf e).e ρ
      some (.rt x ρ1) }
  | .sretv i => { sm0 with s := fun ρ => match ρ[i]? with
      | some (some (.dat d)) => some (.rt (.dat d) ρ)
      | some (some (.own ds)) => if pn.contains i then none else some (.rt (.frs ds) (ρ.set i none))
      | _ => none }
  | .sexp e => { sm0 with s := fun ρ => do
      let (_, ρ1) ← (sm G pn wf e).e ρ
      some (.nx ρ1) }
  | .sno => sm0
  | .scons a r => { sm0 with s := fun ρ => do
      match ← (sm G pn wf a).s ρ with
      | .nx ρ1 => (sm G pn wf r).s ρ1
      | o => some o }
  | .snil => { sm0 with s := fun ρ => some (.nx ρ) }

/-- a def, by its body's tree: N slots, the first are the parameters -/
def ownsAt : List Sl → Nat → List Nat
  | [], _ => []
  | .own _ :: r, n => n :: ownsAt r (n + 1)
  | .dat _ :: r, n => ownsAt r (n + 1)
def outs : List Sl → Env1 → Option (List Sl)
  | [], _ => some []
  | .dat d :: r, ρ => (outs r ρ.tail).map (.dat d :: ·)
  | .own _ :: r, some (.own ds) :: ρ => (outs r ρ).map (.own ds :: ·)
  | .own _ :: _, _ => none
def fnS (G : Gx) (wf : Nat) (N ps : Nat) (b : I) : Fn := fun args =>
  if args.length = ps then
    match (sm G (ownsAt args 0) wf b).s (args.map some ++ List.replicate (N - args.length) none) with
    | some (.nx ρ) => (outs args ρ).map fun o => (.dat .none, o)
    | some (.rt r ρ) => (outs args ρ).map fun o => (r, o)
    | _ => none
  else none
end Dx

namespace Dx
open PySem PySem.Spec PyProof.Rows L2

/-! ## Data and heaps -/
mutual
inductive Dv (K : PySem.W.Frag) (Z : Hp) : V → PyData → Prop
  | non : Dv K Z .non .none
  | bl (b : Bool) : Dv K Z (.bl b) (.bool b)
  | int (i : Int) : Dv K Z (.int i) (.int i)
  | str (x : Str) : Dv K Z (.str x) (.str x)
  | lst {a : Addr} {xs : List V} {ds : List PyData} : SqL K Z a xs → DvAll K Z xs ds → Dv K Z (.ref a) (.list ds)
  | tup {a : Addr} {xs : List V} {ds : List PyData} : SqT K Z a xs → DvAll K Z xs ds → Dv K Z (.ref a) (.tuple ds)
  | dct {a : Addr} : Z a = some (.dK []) → Dv K Z (.ref a) (.dict [])
inductive DvAll (K : PySem.W.Frag) (Z : Hp) : List V → List PyData → Prop
  | nil : DvAll K Z [] []
  | cons {v : V} {vs : List V} {d : PyData} {ds : List PyData} : Dv K Z v d → DvAll K Z vs ds → DvAll K Z (v :: vs) (d :: ds)
end
section
variable {K : PySem.W.Frag} {Z Z' H : Hp}
theorem sameR {a : Addr} {u : HO} (e : Same Z Z') (h : Rd Z a u) : Rd Z' a u := by
  rcases h with h | ⟨o, h⟩
  · exact .inl (e _ _ h)
  · exact .inr ⟨o, e _ _ h⟩
theorem sameT {a : Addr} {xs : List V} (e : Same Z Z') (h : SqT K Z a xs) : SqT K Z' a xs := by
  rcases h with (h | ⟨o, h⟩) | h
  · exact .inl (.inl (e _ _ h))
  · exact .inl (.inr ⟨o, e _ _ h⟩)
  · exact .inr h
mutual
theorem dp_mono (e : Same Z Z') : ∀ (d : PyData) (v : V), Dv K Z v d → Dv K Z' v d
  | .none, _, h => by cases h; exact .non
  | .bool b, _, h => by cases h; exact .bl b
  | .int i, _, h => by cases h; exact .int i
  | .str x, _, h => by cases h; exact .str x
  | .list ds, _, h => by cases h with | lst hs ha => exact .lst (Same.seq e hs) (dps_mono e ds _ ha)
  | .tuple ds, _, h => by cases h with | tup hs ha => exact .tup (sameT e hs) (dps_mono e ds _ ha)
  | .dict _, _, h => by cases h with | dct ha => exact .dct (e _ _ ha)
theorem dps_mono (e : Same Z Z') : ∀ (ds : List PyData) (vs : List V), DvAll K Z vs ds → DvAll K Z' vs ds
  | [], _, h => by cases h; exact .nil
  | d :: ds, _, h => by cases h with | cons h1 h2 => exact .cons (dp_mono e d _ h1) (dps_mono e ds _ h2)
end
theorem Dv.up {d : PyData} {v : V} (h : Dv K Z v d) (e : Same Z Z') : Dv K Z' v d := dp_mono e d v h
theorem DvAll.up {ds : List PyData} {vs : List V} (h : DvAll K Z vs ds) (e : Same Z Z') : DvAll K Z' vs ds := dps_mono e ds vs h
theorem DvAll.len : ∀ {vs : List V} {ds : List PyData}, DvAll K Z vs ds → vs.length = ds.length
  | _, _, .nil => rfl
  | _, _, .cons _ t => by simp [DvAll.len t]
theorem DvAll.get : ∀ {vs : List V} {ds : List PyData} {i : Nat} {d : PyData}, DvAll K Z vs ds → ds[i]? = some d → ∃ v, vs[i]? = some v ∧ Dv K Z v d
  | _, _, _, _, .nil, h => by simp at h
  | _, _, 0, _, .cons a _, h => by simp at h; subst h; exact ⟨_, rfl, a⟩
  | _, _, i + 1, d, .cons _ t, h => by
    obtain ⟨v, h1, h2⟩ := DvAll.get (i := i) (d := d) t (by simpa using h)
    exact ⟨v, by simpa using h1, h2⟩
theorem DvAll.get' : ∀ {vs : List V} {ds : List PyData} {i : Nat} {v : V}, DvAll K Z vs ds → vs[i]? = some v → ∃ d, ds[i]? = some d ∧ Dv K Z v d
  | _, _, _, _, .nil, h => by simp at h
  | _, _, 0, _, .cons a _, h => by simp at h; subst h; exact ⟨_, rfl, a⟩
  | _, _, i + 1, d, .cons _ t, h => by
    obtain ⟨v, h1, h2⟩ := DvAll.get' (i := i) (v := d) t (by simpa using h)
    exact ⟨v, by simpa using h1, h2⟩
theorem DvAll.set {v : V} {d : PyData} (h : Dv K Z v d) : ∀ {vs : List V} {ds : List PyData} (i : Nat), DvAll K Z vs ds → DvAll K Z (vs.set i v) (ds.set i d)
  | _, _, _, .nil => .nil
  | _, _, 0, .cons _ t => .cons h t
  | _, _, i + 1, .cons a t => .cons a (DvAll.set h i t)
theorem DvAll.append : ∀ {vs ws : List V} {ds es : List PyData}, DvAll K Z vs ds → DvAll K Z ws es → DvAll K Z (vs ++ ws) (ds ++ es)
  | _, _, _, _, .nil, h => h
  | _, _, _, _, .cons a t, h => .cons a (DvAll.append t h)
theorem DvAll.take : ∀ {vs : List V} {ds : List PyData} (n : Nat), DvAll K Z vs ds → DvAll K Z (vs.take n) (ds.take n)
  | _, _, 0, _ => .nil
  | _, _, _ + 1, .nil => .nil
  | _, _, n + 1, .cons a t => .cons a (DvAll.take n t)
theorem DvAll.drop : ∀ {vs : List V} {ds : List PyData} (n : Nat), DvAll K Z vs ds → DvAll K Z (vs.drop n) (ds.drop n)
  | _, _, 0, h => h
  | _, _, _ + 1, .nil => .nil
  | _, _, n + 1, .cons _ t => DvAll.drop n t
theorem DvAll.rev : ∀ {vs : List V} {ds : List PyData}, DvAll K Z vs ds → DvAll K Z vs.reverse ds.reverse
  | _, _, .nil => .nil
  | _, _, .cons a t => by
    rw [List.reverse_cons, List.reverse_cons]
    exact DvAll.append (DvAll.rev t) (.cons a .nil)
theorem DvAll.one {v : V} {d : PyData} (h : Dv K Z v d) : DvAll K Z [v] [d] := .cons h .nil
theorem DvAll.rep {vs : List V} {ds : List PyData} (h : DvAll K Z vs ds) : ∀ n : Nat, DvAll K Z (List.replicate n vs).flatten (List.replicate n ds).flatten
  | 0 => .nil
  | n + 1 => by rw [List.replicate_succ, List.replicate_succ, List.flatten_cons, List.flatten_cons]; exact h.append (DvAll.rep h n)
theorem DvAll.atI {vs : List V} {ds : List PyData} {i : Int} {d : PyData} (h : DvAll K Z vs ds) (e : L2.atI ds i = some d) : ∃ v, L2.atI vs i = some v ∧ Dv K Z v d := by
  unfold L2.atI at e ⊢
  rw [h.len]
  cases q : ixN ds.length i with
  | none => rw [q] at e; cases e
  | some j => rw [q] at e; exact h.get e
theorem DvAll.ints : ∀ {vs : List V} {ds : List PyData} {ns : List Int}, DvAll K Z vs ds → allInt ds = some ns → vs = ns.map V.int
  | _, _, _, .nil, h => by cases h; rfl
  | _, _, ns, .cons a t, h => by
    cases a <;> try (simp [allInt] at h)
    obtain ⟨ms, e1, e2⟩ := h
    subst e2
    rw [DvAll.ints t e1]; rfl
mutual
theorem Dv.dp : ∀ (d : PyData) (v : V), d.plain = true → Dv K Z v d → Dp K Z v d
  | .none, _, _, h => by cases h; exact .non
  | .bool b, _, _, h => by cases h; exact .bl b
  | .int i, _, _, h => by cases h; exact .int i
  | .str x, _, _, h => by cases h; exact .str x
  | .list ds, _, p, h => by cases h with | lst hs ha => exact .lst hs (DvAll.dp ds _ p ha)
  | .tuple ds, _, p, h => by cases h with | tup hs ha => exact .tup hs (DvAll.dp ds _ p ha)
  | .dict _, _, p, h => by cases p
theorem DvAll.dp : ∀ (ds : List PyData) (vs : List V), PyData.plainAll ds = true → DvAll K Z vs ds → DpAll K Z vs ds
  | [], _, _, h => by cases h; exact .nil
  | d :: ds, _, p, h => by
    have p : d.plain = true ∧ PyData.plainAll ds = true := by simpa [PyData.plainAll] using p
    cases h with | cons h1 h2 => exact .cons (Dv.dp d _ p.1 h1) (DvAll.dp ds _ p.2 h2)
end
theorem DvAll.bls : ∀ {vs : List V} {ds : List PyData} {ns : List Bool}, DvAll K Z vs ds → allBl ds = some ns → vs = ns.map V.bl
  | _, _, _, .nil, h => by cases h; rfl
  | _, _, ns, .cons a t, h => by
    cases a <;> try (simp [allBl] at h)
    obtain ⟨ms, e1, e2⟩ := h
    subst e2
    rw [DvAll.bls t e1]; rfl
end

/-! ## What stands between the slots and the data -/
/-- the entry: the data region, the heap, the slots that hold the caller's lists -/
structure Bs where
  Z : Hp
  H : Hp
  pins : List (Nat × Addr)
  pend : List (Addr × List V)
structure Rl (K : PySem.W.Frag) (B : Bs) (Z H : Hp) (σ : L2.St) (ρ : Env1) : Prop where
  len : σ.length = ρ.length
  bz : Same B.Z Z
  zh : Same Z H
  zn : ∀ b o, Z b = some o → B.Z b = some o ∨ B.H b = none
  kp : ∀ b o, B.H b = some o → (∀ q ∈ B.pins, q.2 ≠ b) → H b = some o
  dat : ∀ (i : Nat) (d : PyData), ρ[i]? = some (some (.dat d)) → ∃ v, σ[i]? = some (some v) ∧ Dv K Z v d
  own : ∀ (i : Nat) (ds : List PyData), ρ[i]? = some (some (.own ds)) → ∃ p xs, σ[i]? = some (some (.ref p)) ∧ H p = some (.lst xs) ∧ Z p = none ∧ DvAll K Z xs ds ∧ ((i, p) ∈ B.pins ∨ B.H p = none)
  apart : ∀ (i j : Nat) (ds es : List PyData) (p : Addr), ρ[i]? = some (some (.own ds)) → ρ[j]? = some (some (.own es)) → σ[i]? = some (some (.ref p)) → σ[j]? = some (some (.ref p)) → i = j
  pin : ∀ q ∈ B.pins, σ[q.1]? = some (some (.ref q.2)) ∧ ∃ ds, ρ[q.1]? = some (some (.own ds))
  pd : ∀ q ∈ B.pend, H q.1 = some (.lst q.2) ∧ Z q.1 = none ∧ ∀ (i : Nat) (ds : List PyData), ρ[i]? = some (some (.own ds)) → σ[i]? ≠ some (some (.ref q.1))
def pnOf (B : Bs) : List Nat := B.pins.map (·.1)

/-- a result and its value -/
def RR (K : PySem.W.Frag) (B : Bs) (Z H : Hp) (σ : L2.St) (ρ : Env1) (v : V) : R → Prop
  | .dat d => Dv K Z v d
  | .frs ds => ∃ p xs, v = .ref p ∧ H p = some (.lst xs) ∧ Z p = none ∧ B.H p = none ∧ (∀ q ∈ B.pend, q.1 ≠ p) ∧ DvAll K Z xs ds ∧ ∀ (i : Nat) (es : List PyData), ρ[i]? = some (some (.own es)) → σ[i]? ≠ some (some (.ref p))

section
variable {K : PySem.W.Frag} {B : Bs} {Z Z' H H' : Hp} {σ : L2.St} {ρ ρ' : Env1}
theorem same_upd {p : Addr} {o : HO} (h : Z p = none) : Same Z (upd Z p o) := fun b x e => by rw [upd_ne (ne_of_none e h)]; exact e

/-- a new object beside all: the region as it is -/
theorem Rl.more (r : Rl K B Z H σ ρ) {p : Addr} {o : HO} (h : H p = none) : Rl K B Z (upd H p o) σ ρ where
  len := r.len
  bz := r.bz
  zh := fun b x e => by rw [upd_ne (ne_of_none (r.zh b x e) h)]; exact r.zh b x e
  zn := r.zn
  kp := fun b x e n => by
    have q := r.kp b x e n
    rw [upd_ne (ne_of_none q h)]; exact q
  dat := r.dat
  own := fun i ds e => by
    obtain ⟨q, xs, e1, e2, e3, e4, e5⟩ := r.own i ds e
    exact ⟨q, xs, e1, by rw [upd_ne (ne_of_none e2 h)]; exact e2, e3, e4, e5⟩
  apart := r.apart
  pin := r.pin
  pd := fun q hq => by
    obtain ⟨e1, e2, e3⟩ := r.pd q hq
    exact ⟨by rw [upd_ne (ne_of_none e1 h)]; exact e1, e2, e3⟩
/-- the region grows by an object of the heap that is no slot's own and no old one -/
theorem Rl.take (r : Rl K B Z H σ ρ) {p : Addr} {o : HO} (h : H p = some o) (hb : B.H p = none ∨ B.Z p = some o) (hz : Z p = none) (hq : ∀ q ∈ B.pend, q.1 ≠ p) (hn : ∀ (i : Nat) (ds : List PyData), ρ[i]? = some (some (.own ds)) → σ[i]? ≠ some (some (.ref p))) : Rl K B (upd Z p o) H σ ρ := by
  have sm : Same Z (upd Z p o) := same_upd hz
  refine ⟨r.len, r.bz.trans sm, fun b x e => ?_, fun b x e => ?_, r.kp, fun i d e => ?_, fun i ds e => ?_, r.apart, r.pin, fun q hm => ?_⟩
  · by_cases q : b = p
    · subst q; rw [upd_same] at e; cases e; exact h
    · rw [upd_ne q] at e; exact r.zh b x e
  · by_cases q : b = p
    · subst q
      rw [upd_same] at e; cases e
      exact hb.symm
    · rw [upd_ne q] at e; exact r.zn b x e
  · obtain ⟨v, e1, e2⟩ := r.dat i d e
    exact ⟨v, e1, e2.up sm⟩
  · obtain ⟨q, xs, e1, e2, e3, e4, e5⟩ := r.own i ds e
    refine ⟨q, xs, e1, e2, ?_, e4.up sm, e5⟩
    rw [upd_ne (fun z => hn i ds e (by rw [← z]; exact e1))]; exact e3
  · obtain ⟨e1, e2, e3⟩ := r.pd q hm
    exact ⟨e1, by rw [upd_ne (hq q hm)]; exact e2, e3⟩
theorem Rl.free (r : Rl K B Z H σ ρ) {p : Addr} (h : H p = none) : Z p = none ∧ (∀ (i : Nat) (ds : List PyData), ρ[i]? = some (some (.own ds)) → σ[i]? ≠ some (some (.ref p))) := by
  refine ⟨r.zh.free h, fun i ds e z => ?_⟩
  obtain ⟨q, xs, e1, e2, _⟩ := r.own i ds e
  rw [z] at e1; cases e1
  rw [h] at e2; cases e2
theorem Rl.npend (r : Rl K B Z H σ ρ) {p : Addr} (h : H p = none) : ∀ q ∈ B.pend, q.1 ≠ p := fun q hq e => by
  have := (r.pd q hq).1
  rw [e, h] at this; cases this
theorem Rl.bfree (r : Rl K B Z H σ ρ) {p : Addr} (h : H p = none) : B.H p = none := by
  cases q : B.H p with
  | none => rfl
  | some o =>
    by_cases n : ∀ q ∈ B.pins, q.2 ≠ p
    · have := r.kp p o q n
      rw [h] at this; cases this
    · simp only [ne_eq, Classical.not_forall, not_imp, Classical.not_not] at n
      obtain ⟨⟨i, p'⟩, hq, e⟩ := n
      obtain ⟨e1, ds, e2⟩ := r.pin _ hq
      obtain ⟨p2, xs, e3, e4, _⟩ := r.own i ds e2
      rw [e1] at e3; cases e3
      rw [e] at e4; rw [h] at e4; cases e4
/-- a new tuple, a new list as data -/
theorem Rl.newD (r : Rl K B Z H σ ρ) {p : Addr} {o : HO} (h : H p = none) : Rl K B (upd Z p o) (upd H p o) σ ρ ∧ Same Z (upd Z p o) := by
  obtain ⟨h1, h2⟩ := r.free h
  exact ⟨(r.more (o := o) h).take upd_same (.inl (r.bfree h)) h1 (r.npend h) h2, same_upd h1⟩
theorem Rl.newT (r : Rl K B Z H σ ρ) {p : Addr} {xs : List V} {ds : List PyData} (h : H p = none) (hd : DvAll K Z xs ds) : Rl K B (upd Z p (.tup xs)) (upd H p (.tup xs)) σ ρ ∧ Same Z (upd Z p (.tup xs)) ∧ Dv K (upd Z p (.tup xs)) (.ref p) (.tuple ds) := by
  obtain ⟨a, b⟩ := r.newD (o := .tup xs) h
  exact ⟨a, b, .tup (.inl (.inl upd_same)) (hd.up b)⟩
theorem Rl.newL (r : Rl K B Z H σ ρ) {p : Addr} {xs : List V} {ds : List PyData} (h : H p = none) (hd : DvAll K Z xs ds) : Rl K B Z (upd H p (.lst xs)) σ ρ ∧ RR K B Z (upd H p (.lst xs)) σ ρ (.ref p) (.frs ds) := by
  obtain ⟨h1, h2⟩ := r.free h
  exact ⟨r.more h, p, xs, rfl, upd_same, h1, r.bfree h, r.npend h, hd, h2⟩
/-- a new list is data from now on -/
theorem RR.pub {v : V} {x : R} (r : Rl K B Z H σ ρ) (h : RR K B Z H σ ρ v x) : ∃ Z', Rl K B Z' H σ ρ ∧ Same Z Z' ∧ Dv K Z' v x.d := by
  cases x with
  | dat d => exact ⟨Z, r, Same.refl Z, h⟩
  | frs ds =>
    obtain ⟨p, xs, rfl, e1, e2, e3, e6, e4, e5⟩ := h
    have sm : Same Z (upd Z p (.lst xs)) := same_upd e2
    exact ⟨_, r.take e1 (.inl e3) e2 e6 e5, sm, .lst (.inl (.inl upd_same)) (e4.up sm)⟩
end

/-! ## The readings -/
/-- an expression -/
def tD (K : PySem.W.Frag) (pn : List Nat) (f : Env1 → Option (R × Env1)) : TE := fun σ H Q =>
  ∃ B Z ρ r ρ', pnOf B = pn ∧ Rl K B Z H σ ρ ∧ f ρ = some (r, ρ') ∧ ∀ v H' Z', Rl K B Z' H' σ ρ' → Same Z Z' → RR K B Z' H' σ ρ' v r → Q v H'
def DE (X : Cx) (pn : List Nat) (e : Expr) (f : Env1 → Option (R × Env1)) : Prop := PE X e (tD X.K pn f)
/-- a test -/
def tDT (K : PySem.W.Frag) (pn : List Nat) (f : Env1 → Option (R × Env1)) : TT := fun σ H Q =>
  ∃ B Z ρ r ρ' k, pnOf B = pn ∧ Rl K B Z H σ ρ ∧ f ρ = some (r, ρ') ∧ truD r.d = some k ∧ ∀ H' Z', Rl K B Z' H' σ ρ' → Same Z Z' → Q k H'
def DT (X : Cx) (pn : List Nat) (e : Expr) (f : Env1 → Option (R × Env1)) : Prop := PT X e (tDT X.K pn f)
/-- a target whose slots are among S -/
def tDG (K : PySem.W.Frag) (pn : List Nat) (S : List Nat) (f : PyData → Env1 → Option Env1) : TG := fun v σ H Q =>
  ∃ B Z ρ d ρ', pnOf B = pn ∧ Rl K B Z H σ ρ ∧ Dv K Z v d ∧ f d ρ = some ρ' ∧ ∀ σ' H' Z', Rl K B Z' H' σ' ρ' → Same Z Z' → (∀ i, i ∉ S → σ'[i]? = σ[i]?) → σ'.length = σ.length → Q σ' H'
def DG (X : Cx) (pn : List Nat) (S : List Nat) (e : Expr) (f : PyData → Env1 → Option Env1) : Prop := PG X e (tDG X.K pn S f)
/-- a statement -/
def OutP (K : PySem.W.Frag) (B : Bs) (Z : Hp) (D : Ends) : Out → Prop
  | .nx ρ' => ∀ σ' H' Z', Rl K B Z' H' σ' ρ' → Same Z Z' → D.nx σ' H'
  | .bk ρ' => ∀ σ' H' Z', Rl K B Z' H' σ' ρ' → Same Z Z' → D.bk σ' H'
  | .ct ρ' => ∀ σ' H' Z', Rl K B Z' H' σ' ρ' → Same Z Z' → D.ct σ' H'
  | .rt r ρ' => ∀ v σ' H' Z', Rl K B Z' H' σ' ρ' → Same Z Z' → RR K B Z' H' σ' ρ' v r → D.rt v H'
def tDS (K : PySem.W.Frag) (pn : List Nat) (f : Env1 → Option Out) : TS := fun D σ H =>
  ∃ B Z ρ o, pnOf B = pn ∧ Rl K B Z H σ ρ ∧ f ρ = some o ∧ OutP K B Z D o
def DS (X : Cx) (pn : List Nat) (s : Stmt) (f : Env1 → Option Out) : Prop := PS X s (tDS X.K pn f)
def DSs (X : Cx) (pn : List Nat) (s : List Stmt) (f : Env1 → Option Out) : Prop := PSs X s (tDS X.K pn f)

theorem _root_.L2.PE.imp {X : Cx} {e : Expr} {t t' : TE} (h : PE X e t) (q : ∀ σ H Q, t' σ H Q → t σ H Q) : PE X e t' := ⟨fun pins s σ H Q I z => h.run pins s σ H Q I (q σ H Q z)⟩
theorem _root_.L2.PT.imp {X : Cx} {e : Expr} {t t' : TT} (h : PT X e t) (q : ∀ σ H Q, t' σ H Q → t σ H Q) : PT X e t' := ⟨fun pins s σ H Q I z => h.run pins s σ H Q I (q σ H Q z)⟩
theorem _root_.L2.PS.imp {X : Cx} {e : Stmt} {t t' : TS} (h : PS X e t) (q : ∀ D σ H, t' D σ H → t D σ H) : PS X e t' := ⟨fun pins s σ H D I z => h.run pins s σ H D I (q D σ H z)⟩
theorem _root_.L2.PSs.imp {X : Cx} {e : List Stmt} {t t' : TS} (h : PSs X e t) (q : ∀ D σ H, t' D σ H → t D σ H) : PSs X e t' := ⟨fun pins s σ H D I z => h.run pins s σ H D I (q D σ H z)⟩
theorem _root_.L2.PA.imp {X : Cx} {e : List Expr} {t t' : TA} (h : PA X e t) (q : ∀ σ H Q, t' σ H Q → t σ H Q) : PA X e t' := ⟨fun pos pins s σ H Q I z => h.run pos pins s σ H Q I (q σ H Q z)⟩

section
variable {K : PySem.W.Frag} {pn : List Nat} {B : Bs} {Z : Hp} {H : Hp} {σ : L2.St} {ρ ρ' : Env1} {r : R} {f : Env1 → Option (R × Env1)}
theorem tD_r (hp : pnOf B = pn) (rl : Rl K B Z H σ ρ) (e : f ρ = some (r, ρ')) {Q : VK} (q : ∀ v H' Z', Rl K B Z' H' σ ρ' → Same Z Z' → RR K B Z' H' σ ρ' v r → Q v H') : tD K pn f σ H Q := ⟨B, Z, ρ, r, ρ', hp, rl, e, q⟩
theorem tD_d (hp : pnOf B = pn) (rl : Rl K B Z H σ ρ) (e : f ρ = some (r, ρ')) {Q : VK} (q : ∀ v H' Z', Rl K B Z' H' σ ρ' → Same Z Z' → Dv K Z' v r.d → Q v H') : tD K pn f σ H Q := by
  refine ⟨B, Z, ρ, r, ρ', hp, rl, e, fun v H' Z' rl' sm rr => ?_⟩
  obtain ⟨Z2, rl2, sm2, d⟩ := rr.pub rl'
  exact q v H' Z2 rl2 (sm.trans sm2) d
theorem tDT_k (hp : pnOf B = pn) (rl : Rl K B Z H σ ρ) (e : f ρ = some (r, ρ')) {k : Bool} (hk : truD r.d = some k) {Q : Bool → Hp → Prop} (q : ∀ H' Z', Rl K B Z' H' σ ρ' → Same Z Z' → Q k H') : tDT K pn f σ H Q := ⟨B, Z, ρ, r, ρ', k, hp, rl, e, hk, q⟩
end
end Dx

namespace Dx
open PySem PySem.Spec PyProof.Rows L2
theorem set_get {α : Type} {xs : List α} {i j : Nat} {a b : α} (h : (xs.set i a)[j]? = some b) : (j = i ∧ a = b ∧ i < xs.length) ∨ (j ≠ i ∧ xs[j]? = some b) := by
  by_cases e : j = i
  · subst e
    by_cases hl : j < xs.length
    · rw [List.getElem?_set_self hl] at h; cases h; exact .inl ⟨rfl, rfl, hl⟩
    · rw [List.getElem?_eq_none (by simpa using hl)] at h; cases h
  · rw [List.getElem?_set_ne (Ne.symm e)] at h; exact .inr ⟨e, h⟩
section
variable {K : PySem.W.Frag} {B : Bs} {Z Z' H H' : Hp} {σ : L2.St} {ρ ρ' : Env1} {i : Nat}
theorem notpin (hn : i ∉ pnOf B) : ∀ q ∈ B.pins, q.1 ≠ i := fun q hq e => hn (by unfold pnOf; rw [← e]; exact List.mem_map_of_mem hq)
theorem Rl.setDat (r : Rl K B Z H σ ρ) {v : V} {d : PyData} (hi : i < ρ.length) (hn : i ∉ pnOf B) (hd : Dv K Z v d) : Rl K B Z H (σ.set i (some v)) (ρ.set i (some (.dat d))) where
  len := by simp [r.len]
  bz := r.bz
  zh := r.zh
  zn := r.zn
  kp := r.kp
  dat := fun j e h => by
    rcases set_get h with ⟨rfl, q, hl⟩ | ⟨ne, h⟩
    · cases q; exact ⟨v, List.getElem?_set_self (by rw [r.len]; exact hl), hd⟩
    · obtain ⟨w, h1, h2⟩ := r.dat j e h
      exact ⟨w, by rw [List.getElem?_set_ne (Ne.symm ne)]; exact h1, h2⟩
  own := fun j e h => by
    rcases set_get h with ⟨rfl, q, hl⟩ | ⟨ne, h⟩
    · cases q
    · obtain ⟨p, xs, h1, h2⟩ := r.own j e h
      exact ⟨p, xs, by rw [List.getElem?_set_ne (Ne.symm ne)]; exact h1, h2⟩
  apart := fun j k ds es p h1 h2 h3 h4 => by
    rcases set_get h1 with ⟨rfl, q, hl⟩ | ⟨ne, h1⟩
    · cases q
    · rcases set_get h2 with ⟨rfl, q, hl⟩ | ⟨ne2, h2⟩
      · cases q
      · rw [List.getElem?_set_ne (Ne.symm ne)] at h3
        rw [List.getElem?_set_ne (Ne.symm ne2)] at h4
        exact r.apart j k ds es p h1 h2 h3 h4
  pin := fun q hq => by
    obtain ⟨h1, ds, h2⟩ := r.pin q hq
    have ne := notpin hn q hq
    exact ⟨by rw [List.getElem?_set_ne (Ne.symm ne)]; exact h1, ds, by rw [List.getElem?_set_ne (Ne.symm ne)]; exact h2⟩
  pd := fun q hq => by
    obtain ⟨h1, h2, h3⟩ := r.pd q hq
    refine ⟨h1, h2, fun j ds h => ?_⟩
    rcases set_get h with ⟨rfl, z, hl⟩ | ⟨ne, h⟩
    · cases z
    · rw [List.getElem?_set_ne (Ne.symm ne)]; exact h3 j ds h
theorem Rl.setOwn (r : Rl K B Z H σ ρ) {v : V} {ds : List PyData} (hi : i < ρ.length) (hn : i ∉ pnOf B) (hd : RR K B Z H σ ρ v (.frs ds)) : Rl K B Z H (σ.set i (some v)) (ρ.set i (some (.own ds))) := by
  obtain ⟨p, xs, rfl, e1, e2, e3, e6, e4, e5⟩ := hd
  refine ⟨by simp [r.len], r.bz, r.zh, r.zn, r.kp, fun j e h => ?_, fun j e h => ?_, fun j k ds es p' h1 h2 h3 h4 => ?_, fun q hq => ?_, fun q hq => ?_⟩
  · rcases set_get h with ⟨rfl, q, hl⟩ | ⟨ne, h⟩
    · cases q
    · obtain ⟨w, h1, h2⟩ := r.dat j e h
      exact ⟨w, by rw [List.getElem?_set_ne (Ne.symm ne)]; exact h1, h2⟩
  · rcases set_get h with ⟨rfl, q, hl⟩ | ⟨ne, h⟩
    · cases q
      exact ⟨p, xs, List.getElem?_set_self (by rw [r.len]; exact hl), e1, e2, e4, .inr e3⟩
    · obtain ⟨p, xs, h1, h2⟩ := r.own j e h
      exact ⟨p, xs, by rw [List.getElem?_set_ne (Ne.symm ne)]; exact h1, h2⟩
  · rcases set_get h1 with ⟨rfl, q, hl⟩ | ⟨ne, g1⟩
    · rcases set_get h2 with ⟨rfl, q2, hl2⟩ | ⟨ne2, g2⟩
      · rfl
      · rw [List.getElem?_set_self (by rw [r.len]; exact hl)] at h3; cases h3
        rw [List.getElem?_set_ne (Ne.symm ne2)] at h4
        exact absurd h4 (e5 _ _ g2)
    · rw [List.getElem?_set_ne (Ne.symm ne)] at h3
      rcases set_get h2 with ⟨rfl, q, hl⟩ | ⟨ne2, g2⟩
      · rw [List.getElem?_set_self (by rw [r.len]; exact hl)] at h4; cases h4
        exact absurd h3 (e5 _ _ g1)
      · rw [List.getElem?_set_ne (Ne.symm ne2)] at h4
        exact r.apart j k ds es p' g1 g2 h3 h4
  · obtain ⟨h1, ds, h2⟩ := r.pin q hq
    have ne := notpin hn q hq
    exact ⟨by rw [List.getElem?_set_ne (Ne.symm ne)]; exact h1, ds, by rw [List.getElem?_set_ne (Ne.symm ne)]; exact h2⟩
  · obtain ⟨h1, h2, h3⟩ := r.pd q hq
    refine ⟨h1, h2, fun j ds h => ?_⟩
    rcases set_get h with ⟨rfl, z, hl⟩ | ⟨ne, h⟩
    · rw [List.getElem?_set_self (by rw [r.len]; exact hl)]
      intro z; cases z
      exact e6 q hq rfl
    · rw [List.getElem?_set_ne (Ne.symm ne)]; exact h3 j ds h
theorem Rl.clear (r : Rl K B Z H σ ρ) (hn : i ∉ pnOf B) : Rl K B Z H σ (ρ.set i none) := by
  have no : ∀ {j : Nat} {x : Sl}, (ρ.set i none)[j]? = some (some x) → j ≠ i ∧ ρ[j]? = some (some x) := fun {j x} h => by
    rcases set_get h with ⟨_, q, _⟩ | ⟨ne, h⟩
    · cases q
    · exact ⟨ne, h⟩
  refine ⟨by simp [r.len], r.bz, r.zh, r.zn, r.kp, fun j e h => r.dat j e (no h).2, fun j e h => r.own j e (no h).2, fun j k ds es p' h1 h2 h3 h4 => r.apart j k ds es p' (no h1).2 (no h2).2 h3 h4, fun q hq => ?_, fun q hq => ?_⟩
  · obtain ⟨a, ds, b⟩ := r.pin q hq
    exact ⟨a, ds, by rw [List.getElem?_set_ne (Ne.symm (notpin hn q hq))]; exact b⟩
  · obtain ⟨a, b, c⟩ := r.pd q hq
    exact ⟨a, b, fun j ds h => c j ds (no h).2⟩
theorem Rl.know (r : Rl K B Z H σ ρ) {v : V} {d : PyData} (hs : σ[i]? = some (some v)) (hd : Dv K Z v d) (hn : i ∉ pnOf B) : Rl K B Z H σ (ρ.set i (some (.dat d))) := by
  have no : ∀ {j : Nat} {x : List PyData}, (ρ.set i (some (.dat d)))[j]? = some (some (.own x)) → j ≠ i ∧ ρ[j]? = some (some (.own x)) := fun {j x} h => by
    rcases set_get h with ⟨_, q, _⟩ | ⟨ne, h⟩
    · cases q
    · exact ⟨ne, h⟩
  refine ⟨by simp [r.len], r.bz, r.zh, r.zn, r.kp, fun j e h => ?_, fun j e h => r.own j e (no h).2, fun j k ds es p' h1 h2 h3 h4 => r.apart j k ds es p' (no h1).2 (no h2).2 h3 h4, fun q hq => ?_, fun q hq => ?_⟩
  · rcases set_get h with ⟨rfl, q, _⟩ | ⟨ne, h⟩
    · cases q; exact ⟨v, hs, hd⟩
    · exact r.dat j e h
  · obtain ⟨a, ds, b⟩ := r.pin q hq
    exact ⟨a, ds, by rw [List.getElem?_set_ne (Ne.symm (notpin hn q hq))]; exact b⟩
  · obtain ⟨a, b, c⟩ := r.pd q hq
    exact ⟨a, b, fun j ds h => c j ds (no h).2⟩
/-- a slot gives its list out: a new list, the slot is empty -/
theorem Rl.give0 (r : Rl K B Z H σ ρ) {ds : List PyData} (ho : ρ[i]? = some (some (.own ds))) (hn : i ∉ pnOf B) : ∃ v, σ[i]? = some (some v) ∧ Rl K B Z H σ (ρ.set i none) ∧ RR K B Z H σ (ρ.set i none) v (.frs ds) := by
  obtain ⟨p, xs, h1, h2, h3, h4, h5⟩ := r.own i ds ho
  have h5 : B.H p = none := h5.resolve_left fun z => hn (by unfold pnOf; exact List.mem_map_of_mem (f := (·.1)) z)
  refine ⟨_, h1, r.clear hn, p, xs, rfl, h2, h3, h5, fun q hq e => (r.pd q hq).2.2 i ds ho (by rw [h1, e]), h4, fun j es h e => ?_⟩
  rcases set_get h with ⟨_, q, _⟩ | ⟨ne, h⟩
  · cases q
  · exact ne (r.apart j i es ds p h ho e h1)
theorem Rl.give (r : Rl K B Z H σ ρ) {ds : List PyData} (ho : ρ[i]? = some (some (.own ds))) (hn : i ∉ pnOf B) : ∃ v Z', σ[i]? = some (some v) ∧ Rl K B Z' H σ (ρ.set i (some (.dat (.list ds)))) ∧ Same Z Z' ∧ Dv K Z' v (.list ds) := by
  obtain ⟨v, h1, r1, rr⟩ := r.give0 ho hn
  obtain ⟨Z', r2, sm, hd⟩ := rr.pub r1
  refine ⟨v, Z', h1, ?_, sm, hd⟩
  have := r2.know (i := i) h1 hd hn
  rwa [List.set_set] at this
/-- a slot's own list is changed -/
theorem Rl.turn (r : Rl K B Z H σ ρ) {p : Addr} {ds es : List PyData} {ys : List V} (ho : ρ[i]? = some (some (.own ds))) (hs : σ[i]? = some (some (.ref p))) (hd : DvAll K Z ys es) : Rl K B Z (upd H p (.lst ys)) σ (ρ.set i (some (.own es))) := by
  obtain ⟨p', xs, h1, h2, h3, h4, h5⟩ := r.own i ds ho
  rw [hs] at h1; cases h1
  have hl : i < ρ.length := (List.getElem?_eq_some_iff.mp ho).1
  have nz : ∀ b o, Z b = some o → b ≠ p := fun b o e z => by rw [z, h3] at e; cases e
  refine ⟨by simp [r.len], r.bz, fun b o e => by rw [upd_ne (nz b o e)]; exact r.zh b o e, r.zn, fun b o e n => ?_, fun j e h => ?_, fun j e h => ?_, fun j k ds' es' p' h1 h2 h3 h4 => ?_, fun q hq => ?_, fun q hq => ?_⟩
  · have ne : b ≠ p := fun z => by
      rcases h5 with h5 | h5
      · exact n _ h5 z.symm
      · rw [← z, e] at h5; cases h5
    rw [upd_ne ne]; exact r.kp b o e n
  · rcases set_get h with ⟨_, q, _⟩ | ⟨ne, h⟩
    · cases q
    · exact r.dat j e h
  · rcases set_get h with ⟨rfl, q, _⟩ | ⟨ne, h⟩
    · cases q; exact ⟨p, ys, hs, upd_same, h3, hd, h5⟩
    · obtain ⟨p2, xs2, a1, a2, a3, a4, a5⟩ := r.own j e h
      have : p2 ≠ p := fun z => ne (r.apart j i e ds p h ho (by rw [a1, z]) hs)
      exact ⟨p2, xs2, a1, by rw [upd_ne this]; exact a2, a3, a4, a5⟩
  · have back : ∀ {j : Nat} {x : List PyData}, (ρ.set i (some (.own es)))[j]? = some (some (.own x)) → ∃ y, ρ[j]? = some (some (.own y)) := fun {j x} h => by
      rcases set_get h with ⟨rfl, q, _⟩ | ⟨ne, h⟩
      · exact ⟨_, ho⟩
      · exact ⟨_, h⟩
    obtain ⟨_, h1⟩ := back h1
    obtain ⟨_, h2⟩ := back h2
    exact r.apart j k _ _ p' h1 h2 h3 h4
  · obtain ⟨a, ds2, b⟩ := r.pin q hq
    by_cases e : q.1 = i
    · exact ⟨a, es, by rw [e, List.getElem?_set_self hl]⟩
    · exact ⟨a, ds2, by rw [List.getElem?_set_ne (Ne.symm e)]; exact b⟩
  · obtain ⟨a, b, c⟩ := r.pd q hq
    have ne : q.1 ≠ p := fun z => c i ds ho (by rw [hs, z])
    refine ⟨by rw [upd_ne ne]; exact a, b, fun j ds' h => ?_⟩
    rcases set_get h with ⟨rfl, z, _⟩ | ⟨ne2, h⟩
    · rw [hs]; intro z; cases z; exact ne rfl
    · exact c j ds' h
end
end Dx

namespace Dx
open PySem PySem.Spec PyProof.Rows L2
/-! ## Rules chosen by what the values are -/
def rAny (X : Cx) (f : Value → Value → Sem Value) : R2 := fun x y H Q => ∃ r : R2, OpR X f r ∧ r x y H Q
theorem op_any (X : Cx) (f : Value → Value → Sem Value) : OpR X f (rAny X f) := fun pins s σ H x y v u Q I rx ry ⟨r, h, q⟩ => h pins s σ H x y v u Q I rx ry q
def uAny (X : Cx) (f : Value → Sem Value) : V → Hp → VK → Prop := fun x H Q => ∃ r : V → Hp → VK → Prop, UnR X f r ∧ r x H Q
theorem un_any (X : Cx) (f : Value → Sem Value) : UnR X f (uAny X f) := fun pins s σ H x v Q I rx ⟨r, h, q⟩ => h pins s σ H x v Q I rx q
def cAny (X : Cx) (f : Value) : List V → Hp → VK → Prop := fun xs H Q => ∃ r : List V → Hp → VK → Prop, CallR X f r ∧ r xs H Q
theorem call_any (X : Cx) (f : Value) : CallR X f (cAny X f) := fun pins s σ H xs us Q I rx ⟨r, h, q⟩ => h pins s σ H xs us Q I rx q
def ixAny (X : Cx) : R2 := fun x y H Q => ∃ r : R2, IxR X r ∧ r x y H Q
theorem ix_any (X : Cx) : IxR X (ixAny X) := fun value slice pins s σ H x y v u Q I rx ry ⟨r, h, q⟩ hs => h value slice pins s σ H x y v u Q I rx ry q hs
def slAny (X : Cx) : V → Option Int → Option Int → Hp → VK → Prop := fun x lo hi H Q => ∃ r : V → Option Int → Option Int → Hp → VK → Prop, SlR X r ∧ r x lo hi H Q
theorem sl_any (X : Cx) : SlR X (slAny X) := fun pins s σ H x v vl vu lo hi sl Q I rx hs pl pu ⟨r, h, q⟩ => h pins s σ H x v vl vu lo hi sl Q I rx hs pl pu q

/-! ## The context -/
structure GRoom (k : Nat) (A : Around) : Prop where
  room : Room k A
  gd : A.guards = some []
theorem GRoom.mono {j k : Nat} {A : Around} (r : GRoom k A) (h : j ≤ k) : GRoom j A := ⟨r.room.mono h, r.gd⟩
theorem GRoom.deeper {k : Nat} {A : Around} (r : GRoom (k + 1) A) (env : Env) : GRoom k (A.deeper env) := ⟨r.room.deeper env, by
  have h := r.gd
  show (A.deeper env).guards = some []
  first | exact h | simpa [Around.deeper] using h⟩

/-- what a def promises, at the data -/
def spR (K : PySem.W.Frag) (g : Gf) : Sp := fun vs H Q _ => vs.length = g.kinds.length ∧ ∃ (B : Bs) (args out : List Sl) (r : R), B.H = H ∧ B.pend = [] ∧ pnOf B = ownsAt args 0 ∧
  Rl K B B.Z H (vs.map some) (args.map some) ∧ g.f args = some (r, out) ∧
  ∀ v H' Z', Rl K B Z' H' (vs.map some) (out.map some) → Same B.Z Z' → RR K B Z' H' (vs.map some) (out.map some) v r → Q v H'
structure Ct (P : Program) (w : World) (K : PySem.W.Frag) (mg : Str → Option Value) (base : Heap) (k : Nat) (f : Addr) (fd : FuncData) (ps : List Str) (sp : Sp) : Prop where
  run : ∀ (A : Around) (outer : List Env) (s : Shared) (H : Hp) (args : Args) (us : List Value) (vs : List V) (Q : VK), GRoom k A → Env0 P w K mg base A outer s H → BindsTo s fd args (ps.zip us) → Vals vs us → sp vs H Q E0 →
    codeAny (model P w) A (.call (.ref f) args) (CR CX0 outer P w H s Q E0) s
theorem Ct.mono {P : Program} {w : World} {K : PySem.W.Frag} {mg : Str → Option Value} {base : Heap} {j k : Nat} {f : Addr} {fd : FuncData} {ps : List Str} {sp : Sp} (F : Ct P w K mg base j f fd ps sp) (h : j ≤ k) : Ct P w K mg base k f fd ps sp :=
  ⟨fun A outer s H args us vs Q hr => F.run A outer s H args us vs Q (hr.mono h)⟩

def bltNames : List Str := ["len", "abs", "int", "max", "min", "all", "any", "sum", "list", "tuple", "range", "enumerate", "zip", "isinstance", "bool", "str", "repr", "divmod", "sorted", "dict"]
/-- how a call by keywords alone binds: ks the keywords, pm the parameters' places among them -/
def KB (K : PySem.W.Frag) (fd : FuncData) (ps ks : List Str) (pm : List Nat) : Prop := ks.length = pm.length ∧ ps.length = pm.length ∧ (∀ i ∈ pm, i < ks.length) ∧ ∀ (s : Shared) (ws : List Value), K.In s.heap → ws.length = ks.length → BindsTo s fd ⟨[], ks.zip ws⟩ (ps.zip (pm.map fun i => ws.getD i .none))
structure Gd (G : Gx) (N : List Str) (k : Nat) (X : Cx) : Prop where
  hN : X.N = N
  nd : N.Nodup
  calm : X.calm = true
  room : GRoom k X.A
  fns : ∀ f g, G.fns f = some g → ∃ (fa : Addr) (fd : FuncData) (ps : List Str), X.mg f = some (.ref fa) ∧ PySem.W.keepIn X.K (.ref fa) = true ∧ ps.length = g.kinds.length ∧ Binds X.K fd ps [] ∧ Ct X.prog X.w X.K X.mg X.base k fa fd ps (spR X.K g) ∧ ∀ ks pm, (f, ks, pm) ∈ G.kw → KB X.K fd ps ks pm
  cons : ∀ x d, G.cons x = some d → ∃ (v : V) (u : Value), X.mg x = some u ∧ RelV v u ∧ ∀ Z, Dv X.K Z v d
  blt : ∀ x ∈ bltNames, X.mg x = none
  never : PassesOwn (model X.prog X.w) X.A X.env X.xe
section
variable {G : Gx} {N : List Str} {k : Nat} {X : Cx}
theorem Gd.un (g : Gd G N k X) : X.A.units + 66 < cLine := by have := g.room.room.un; omega
theorem Gd.nd' (g : Gd G N k X) : X.N.Nodup := by rw [g.hN]; exact g.nd
theorem Gd.mg (g : Gd G N k X) {x : Str} (h : bltNames.contains x = true) : X.mg x = none := g.blt x (by simpa using h)

/-! ## Operators -/
variable {B : Bs} {Z H : Hp} {σ : L2.St} {ρ : Env1} {x y : V} {d e : PyData} {r : R} {Q : VK}
theorem RR.datI (d : PyData) {v : V} {Z H : Hp} (h : Dv X.K Z v d) : RR X.K B Z H σ ρ v (.dat d) := h
theorem small_log {i : Int} (h : small i = true) : i.natAbs.log2 < 4000 := PySem.Flt.log2_lt_of (by decide) (of_decide_eq_true h)
/-- reads from the data -/
theorem Dv.reads {pins : List (Addr × Obj)} {s : Shared} {σ' : L2.St} (I : Inv X pins σ' H s) (zh : Same Z H) {d : PyData} {v : V} {u : Value} (p : d.plain = true) (h : Dv X.K Z v d) (r : RelV v u) : ∃ as, Reads s.heap u d as :=
  L2.Dp.reads I d v u (Dv.dp d v p (h.up zh)) r
theorem okD_plain {d : PyData} (h : okD d = true) : d.plain = true := (Bool.and_eq_true_iff.mp h).1
theorem okD_depth {d : PyData} (h : okD d = true) : d.depth ≤ 64 := of_decide_eq_true (Bool.and_eq_true_iff.mp h).2
theorem op_eqP (hu : X.A.units + 64 < cLine) (d e : PyData) (hd : okD d = true) (he : okD e = true) : OpR X (compareOp .Eq) (fun x y H Q => Dv X.K H x d ∧ Dv X.K H y e ∧ Q (.bl (PyData.eqv d e)) H) := by
  intro pins s σ H x y v u Q I rx ry ⟨h1, h2, q⟩
  obtain ⟨as, r1⟩ := Dv.reads I (Same.refl H) (okD_plain hd) h1 rx
  obtain ⟨bs, r2⟩ := Dv.reads I (Same.refl H) (okD_plain he) h2 ry
  exact PySem.SeqAt.eq_plain r1 r2 (okD_plain hd) (okD_plain he) (by have := okD_depth hd; omega) ⟨.bl _, H, I, rfl, q⟩
theorem op_neP (hu : X.A.units + 64 < cLine) (d e : PyData) (hd : okD d = true) (he : okD e = true) : OpR X (compareOp .NotEq) (fun x y H Q => Dv X.K H x d ∧ Dv X.K H y e ∧ Q (.bl (!PyData.eqv d e)) H) := by
  intro pins s σ H x y v u Q I rx ry ⟨h1, h2, q⟩
  obtain ⟨as, r1⟩ := Dv.reads I (Same.refl H) (okD_plain hd) h1 rx
  obtain ⟨bs, r2⟩ := Dv.reads I (Same.refl H) (okD_plain he) h2 ry
  exact PySem.SeqAt.ne_plain r1 r2 (okD_plain hd) (okD_plain he) (by have := okD_depth hd; omega) ⟨.bl _, H, I, rfl, q⟩
end
end Dx

namespace Dx
open PySem PySem.Spec PyProof.Rows L2
/-- t * 1, () * k are the tuple itself -/
theorem tup_once (l : Addr) (items : Array Value) (n : Nat) (dd : Option Addr) (sl : Array (Option Value)) (x : Int) (u : Tok) (c0 : (decide (x < -(2 ^ 63)) || decide (x ≥ 2 ^ 63)) = false) (c1 : (items.isEmpty || x == 1) = true) :
    Meets (Builtin.«tuple.__mul__» ⟨[.ref l, .int x u], []⟩) (fun _ R s => s.heap.get? l = some { cls := .type "tuple", dict := dd, data := .seq items n, slots := sl } ∧ R (.ok (.ret (Value.ref l))) s) :=
  .of_wp fun prog w A R s h => by
    obtain ⟨hp, gg, d, tk, os⟩ := s
    obtain ⟨hl, h⟩ := h
    have f1 := AutoSeq1.idx_int
    wp_walk using wpAny_loadPart' hl
    repeat (first
      | (refine wpAny_ite_false (decide_eq_false (by rw [c0]; exact Bool.false_ne_true)) ?_; wp_walk using wpAny_loadPart' hl)
      | (refine wpAny_ite_true (decide_eq_true c1) ?_; wp_walk using wpAny_loadPart' hl))
    exact ⟨_, rfl, h⟩
/-- t * 0 is a new tuple without items -/
theorem tup_zero (l : Addr) (items : Array Value) (n : Nat) (dd : Option Addr) (sl : Array (Option Value)) (u : Tok) (c1 : (items.isEmpty || (0 : Int) == 1) = false) :
    Meets (Builtin.«tuple.__mul__» ⟨[.ref l, .int 0 u], []⟩) (fun _ R s => s.heap.get? l = some { cls := .type "tuple", dict := dd, data := .seq items n, slots := sl } ∧
      R (.ok (.ret (Value.ref s.heap.objs.size))) { s with heap := s.heap.push { cls := Value.type "tuple", data := Data.seq #[] }, toks := s.toks }) :=
  .of_wp fun prog w A R s h => by
    obtain ⟨hp, gg, d, tk, os⟩ := s
    obtain ⟨hl, h⟩ := h
    have f1 := AutoSeq1.idx_int
    wp_walk using wpAny_loadPart' hl
    repeat (first
      | (refine wpAny_ite_false (decide_eq_false (by rw [c1]; exact Bool.false_ne_true)) ?_; wp_walk using wpAny_loadPart' hl))
    exact ⟨_, rfl, h⟩
section
variable {X : Cx}
theorem tupMulWay {H : Hp} {pins : List (Addr × Obj)} {s : Shared} {σ : L2.St} {l : Addr} {xs : List V} (I : Inv X pins σ H s) (hT : SqT X.K H l xs) (k : Int) (t : Tok) {Q : Value → Shared → Prop}
    (way : ∀ (items : Array Value) (n : Nat) (dd : Option Addr) (sl : Array (Option Value)), items.isEmpty = xs.isEmpty →
      s.heap.get? l = some { cls := .type "tuple", dict := dd, data := .seq items n, slots := sl } →
      wpAny (model X.prog X.w) X.A (call (.builtin "tuple.__mul__") [.ref l, .int k t]) Q X.xe s) : wpAny (model X.prog X.w) X.A (binaryOp .Mult (.ref l) (.int k t)) Q X.xe s := by
  obtain ⟨its, r, ⟨⟨cls, dd, data, sl⟩, ho, hc, n, hd⟩, hs⟩ := I.tuple hT
  simp only at hc hd
  subst hc hd
  have he : its.toArray.isEmpty = xs.isEmpty := by cases r <;> rfl
  exact wpAny_binaryOp_repeat_ref (T := "tuple") (U := "int") (by decide) ⟨_, ho, rfl⟩ (fun s' => typeIs_int s' k t) noFill_tuple_mul F.fills_int_mul F.slot_int_rmul repeat_tuple F.slot_int_index.lookup
    (call_meets F.slot_int_rmul (typeIs_int s k t) F.entry_int_rmul (F.args_int_rmul_2 _ _) (int_rmul_tuple k t l its.toArray n dd sl) ⟨ho, rfl, ⟨_, ho, rfl⟩, way its.toArray n dd sl he ho⟩)
theorem op_tup1 : OpR X (binaryOp .Mult) (fun x y H Q => ∃ l xs k, x = .ref l ∧ y = .int k ∧ SqT X.K H l xs ∧ (xs = [] ∨ k = 1) ∧ 0 ≤ k ∧ k ≤ 1000 ∧ Q (.ref l) H) := by
  intro pins s σ H x y v u Q I rx ry ⟨l, xs, k, e1, e2, hT, hk, k0, k1, q⟩
  subst e1 e2
  cases rx
  obtain ⟨t, rfl⟩ := ry
  refine tupMulWay I hT k t fun items n dd sl he ho => ?_
  have c0 : (decide (k < -(2 ^ 63)) || decide (k ≥ 2 ^ 63)) = false := by
    rw [decide_eq_false (by omega), decide_eq_false (by omega)] <;> rfl
  have c1 : (items.isEmpty || k == 1) = true := by
    rcases hk with hk | hk
    · rw [he, hk]; rfl
    · rw [hk]; simp
  exact call_meets F.slot_tuple_mul ⟨_, ho, rfl⟩ F.entry_tuple_mul (F.args_tuple_mul_2 _ _) (tup_once l items n dd sl k t c0 c1) ⟨ho, ⟨.ref l, H, I, rfl, q⟩⟩
theorem op_tup0 : OpR X (binaryOp .Mult) (fun x y H Q => ∃ l xs, x = .ref l ∧ y = .int 0 ∧ SqT X.K H l xs ∧ xs ≠ [] ∧ ∀ p, H p = none → Q (.ref p) (upd H p (.tup []))) := by
  intro pins s σ H x y v u Q I rx ry ⟨l, xs, e1, e2, hT, hk, q⟩
  subst e1 e2
  cases rx
  obtain ⟨t, rfl⟩ := ry
  refine tupMulWay I hT 0 t fun items n dd sl he ho => ?_
  have c1 : (items.isEmpty || (0 : Int) == 1) = false := by
    rw [he]; cases xs with
    | nil => exact absurd rfl hk
    | cons a b => rfl
  refine call_meets F.slot_tuple_mul ⟨_, ho, rfl⟩ F.entry_tuple_mul (F.args_tuple_mul_2 _ _) (tup_zero l items n dd sl t c1) ⟨ho, ?_⟩
  refine ⟨.ref s.heap.objs.size, _, I.laid (t' := s.toks) (o := .tup []) (fun b ob q => Heap.get?_push_of_some _ q) (Nat.le_refl _) ?_, rfl, q _ (I.hok.fresh (Nat.le_refl _))⟩
  exact ⟨Nat.zero_le _, [], .nil, IsTup.new _ _⟩
end
end Dx

namespace Dx
open PySem PySem.Spec PyProof.Rows L2
section
variable {G : Gx} {N : List Str} {k : Nat} {X : Cx} {B : Bs} {Z H : Hp} {σ : L2.St} {ρ : Env1} {x y : V} {d e : PyData} {r : R} {Q : VK}
/-- list + list, whoever holds them -/
theorem op_catR : OpR X (binaryOp .Add) (fun x y H Q => ∃ l b xs zs, x = .ref l ∧ y = .ref b ∧ SqL X.K H l xs ∧ SqL X.K H b zs ∧ xs.length + zs.length ≤ sizeLine ∧ ∀ p, H p = none → Q (.ref p) (upd H p (.lst (xs ++ zs)))) := by
  intro pins s σ H x y v u Q I rx ry ⟨l, b, xs, zs, e1, e2, h1, h2, hz, q⟩
  subst e1 e2
  cases rx; cases ry
  obtain ⟨its, r, ⟨⟨c1, d1, t1, s1⟩, n, e, k1, k2, k3⟩, _⟩ := I.list h1
  obtain ⟨its2, r2, ⟨⟨c2, d2, t2, s2⟩, n2, e2, k4, k5, k6⟩, _⟩ := I.list h2
  simp only at k1 k2 k3 k4 k5 k6
  subst k1 k3 k4 k6
  have l1 := r.length
  have l2 := r2.length
  have ea : its.toArray ++ its2.toArray = (its ++ its2).toArray := by simp
  refine concat_meets ⟨_, e, rfl⟩ ⟨_, e2, rfl⟩ noFill_list_add seq_list_add PySem.F.slot_list_add PySem.F.entry_list_add (PySem.F.args_list_add_2 _ _) (list_addW l b its.toArray its2.toArray n n2 d1 d2 s1 s2 (by rw [List.size_toArray, List.size_toArray]; omega)) ⟨e, e2, ?_⟩
  rw [ea]
  exact ⟨.ref _, _, I.lnew (t' := s.toks) (r.append r2) (by rw [List.length_append]; omega), rfl, q _ I.fresh⟩
/-- list * int, whoever holds it -/
theorem op_repL : OpR X (binaryOp .Mult) (fun x y H Q => ∃ l m xs, x = .ref l ∧ y = .int m ∧ SqL X.K H l xs ∧ 0 ≤ m ∧ m ≤ 1000 ∧ xs.length ≤ 1000 ∧ ∀ p, H p = none → Q (.ref p) (upd H p (.lst (List.replicate m.toNat xs).flatten))) := by
  intro pins s σ H x y v u Q I rx ry ⟨l, m, xs, e1, e2, h1, m0, m1, hz, q⟩
  subst e1 e2
  cases rx
  obtain ⟨t, rfl⟩ := ry
  obtain ⟨its, r, ⟨⟨c1, d1, t1, s1⟩, n, e, k1, k2, k3⟩, _⟩ := I.list h1
  simp only at k1 k2 k3
  subst k1 k3
  have l1 := r.length
  have hsz : its.toArray.size * m.toNat ≤ 1000000 := by
    rw [List.size_toArray, ← l1]
    exact Nat.le_trans (Nat.mul_le_mul hz (show m.toNat ≤ 1000 by omega)) (by decide)
  refine wpAny_binaryOp_repeat_ref (T := "list") (U := "int") (by decide) ⟨_, e, rfl⟩ (fun s' => typeIs_int s' m t) noFill_list_mul PySem.F.fills_int_mul PySem.F.slot_int_rmul repeat_list PySem.F.slot_int_index.lookup
    (call_meets PySem.F.slot_int_rmul (typeIs_int s m t) PySem.F.entry_int_rmul (PySem.F.args_int_rmul_2 _ _) (lm_int_rmul_list_any m t l its.toArray n d1 s1)
      ⟨e, rfl, ⟨_, e, rfl⟩, call_meets PySem.F.slot_list_mul ⟨_, e, rfl⟩ PySem.F.entry_list_mul (PySem.F.args_list_mul_2 _ _)
        (lm_list_mul_any l its.toArray n d1 s1 m t (by simp [Builtin.List.listFitsIndex]; omega) (by omega) (by
          rw [List.size_toArray] at hsz ⊢
          simp only [Builtin.List.listTooLong, decide_eq_true_eq, sizeLine_eq]
          omega))
        ⟨e, ?_⟩⟩)
  rw [listMul_foldl_if]
  have rep : ∀ j : Nat, Vals (List.replicate j xs).flatten (List.replicate j its).flatten := fun j => by
    induction j with
    | zero => exact .nil
    | succ j ih =>
      rw [List.replicate_succ, List.replicate_succ, List.flatten_cons, List.flatten_cons]
      exact r.append ih
  exact ⟨.ref _, _, I.lnew (t' := s.toks) (rep m.toNat) (by rw [(rep m.toNat).length, PyProof.Rows.lm_len_rep_flat, Nat.mul_comm, sizeLine_eq]; rw [List.size_toArray] at hsz; omega), rfl, q _ I.fresh⟩
/-- an operator on two data -/
theorem bin_ok (g : Gd G N k X) {op : Operator} (hb : binD op d e = some r) (rl : Rl X.K B Z H σ ρ) (h1 : Dv X.K Z x d) (h2 : Dv X.K Z y e)
    (q : ∀ v H' Z', Rl X.K B Z' H' σ ρ → Same Z Z' → RR X.K B Z' H' σ ρ v r → Q v H') : rAny X (binaryOp op) x y H Q := by
  unfold binD at hb
  split at hb
  case h_1 i j => cases h1; cases h2; cases hb; exact ⟨_, op_add, _, _, rfl, rfl, q _ _ _ rl (Same.refl _) (.int _)⟩
  case h_2 i j => cases h1; cases h2; cases hb; exact ⟨_, op_sub, _, _, rfl, rfl, q _ _ _ rl (Same.refl _) (.int _)⟩
  case h_3 i j =>
    split at hb
    · rename_i c
      obtain ⟨c1, c2⟩ := Bool.and_eq_true_iff.mp c
      cases h1; cases h2; cases hb
      exact ⟨_, op_mulW, _, _, rfl, rfl, (by have := small_log c1; have := small_log c2; unfold CMulW; omega), q _ _ _ rl (Same.refl _) (.int _)⟩
    · cases hb
  case h_4 i j =>
    split at hb
    · rename_i c
      obtain ⟨c1, c2⟩ := Bool.and_eq_true_iff.mp c
      cases h1; cases h2; cases hb
      exact ⟨_, op_fdivW, _, _, rfl, rfl, ⟨of_decide_eq_true c1, by have := small_log c2; omega⟩, q _ _ _ rl (Same.refl _) (.int _)⟩
    · cases hb
  case h_5 i j =>
    split at hb
    · rename_i c
      cases h1; cases h2; cases hb
      exact ⟨_, op_mod, _, _, rfl, rfl, c, q _ _ _ rl (Same.refl _) (.int _)⟩
    · cases hb
  case h_6 i j =>
    split at hb
    · rename_i c
      obtain ⟨c1, c2, c3⟩ := c
      cases h1; cases h2; cases hb
      exact ⟨_, op_pow, _, _, rfl, rfl, ⟨c1, by omega, Nat.lt_trans c3 (by decide)⟩, q _ _ _ rl (Same.refl _) (.int _)⟩
    · cases hb
  case h_7 xs ys =>
    split at hb
    · rename_i c
      cases h1 with | lst a1 b1 =>
      cases h2 with | lst a2 b2 =>
      cases hb
      refine ⟨_, op_catR, _, _, _, _, rfl, rfl, Same.seq rl.zh a1, Same.seq rl.zh a2, by rw [b1.len, b2.len]; exact c, fun p hp => ?_⟩
      obtain ⟨r1, r2⟩ := rl.newL hp (b1.append b2)
      exact q _ _ _ r1 (Same.refl _) r2
    · cases hb
  case h_8 xs ys =>
    split at hb
    · rename_i c
      cases h1 with | @tup a1 vs1 _ t1 b1 =>
      cases h2 with | @tup a2 vs2 _ t2 b2 =>
      cases hb
      refine ⟨_, op_catA, _, _, _, _, rfl, rfl, sameT rl.zh t1, sameT rl.zh t2, by rw [b1.len, b2.len]; exact c, fun en => ?_, fun en em => ?_, fun en em p hp => ?_⟩
      · subst en; cases b1
        exact q _ _ _ rl (Same.refl _) (.tup t2 b2)
      · subst em; cases b2
        rw [List.append_nil] at q
        exact q _ _ _ rl (Same.refl _) (.tup t1 b1)
      · obtain ⟨r1, r2, r3⟩ := rl.newT hp (b1.append b2)
        exact q _ _ _ r1 r2 r3
    · cases hb
  case h_9 xs m =>
    split at hb
    · rename_i c
      obtain ⟨c2, c3, c4⟩ := c
      cases h1 with | @tup a1 vs1 _ t1 b1 =>
      cases h2
      cases hb
      by_cases hm : vs1 = [] ∨ m = 1
      · refine ⟨_, op_tup1, _, _, _, rfl, rfl, sameT rl.zh t1, hm, c2, c3, ?_⟩
        have : (List.replicate m.toNat xs).flatten = xs := by
          rcases hm with hm | hm
          · subst hm; cases b1; simp
          · subst hm; simp
        rw [this] at q
        exact q _ _ _ rl (Same.refl _) (.tup t1 b1)
      · have hne : vs1 ≠ [] := fun z => hm (.inl z)
        by_cases h0 : m = 0
        · subst h0
          refine ⟨_, op_tup0, _, _, rfl, rfl, sameT rl.zh t1, hne, fun p hp => ?_⟩
          obtain ⟨r1, r2, r3⟩ := rl.newT hp (.nil : DvAll X.K Z [] [])
          exact q _ _ _ r1 r2 r3
        · refine ⟨_, op_repT, _, _, _, rfl, rfl, sameT rl.zh t1, hne, by have : m ≠ 1 := fun z => hm (.inr z); omega, c3, by rw [b1.len]; exact c4, fun p hp => ?_⟩
          obtain ⟨r1, r2, r3⟩ := rl.newT hp (b1.rep m.toNat)
          exact q _ _ _ r1 r2 r3
    · cases hb
  case h_10 xs m =>
    split at hb
    · rename_i c
      obtain ⟨c2, c3, c4⟩ := c
      cases h1 with | lst a1 b1 =>
      cases h2
      cases hb
      refine ⟨_, op_repL, _, _, _, rfl, rfl, Same.seq rl.zh a1, c2, c3, by rw [b1.len]; exact c4, fun p hp => ?_⟩
      obtain ⟨r1, r2⟩ := rl.newL hp (b1.rep m.toNat)
      exact q _ _ _ r1 (Same.refl _) r2
    · cases hb
  case h_11 => cases hb
/-- a comparison of two data -/
theorem cmp_ok (g : Gd G N k X) {op : CmpOp} {b : Bool} (hb : cmpD op d e = some b) (zh : Same Z H) (h1 : Dv X.K Z x d) (h2 : Dv X.K Z y e) (q : Q (.bl b) H) : rAny X (compareOp op) x y H Q := by
  have hu : X.A.units + 64 < cLine := by have := g.un; omega
  unfold cmpD at hb
  split at hb
  · split at hb
    · rename_i c
      obtain ⟨c1, c2⟩ := Bool.and_eq_true_iff.mp c
      cases hb
      exact ⟨_, op_eqP hu _ _ c1 c2, h1.up zh, h2.up zh, q⟩
    · cases hb
  · split at hb
    · rename_i c
      obtain ⟨c1, c2⟩ := Bool.and_eq_true_iff.mp c
      cases hb
      exact ⟨_, op_neP hu _ _ c1 c2, h1.up zh, h2.up zh, q⟩
    · cases hb
  · cases h1; cases h2; cases hb; exact ⟨_, op_lt, _, _, rfl, rfl, q⟩
  · cases h1; cases h2; cases hb; exact ⟨_, op_le, _, _, rfl, rfl, q⟩
  · cases h1; cases h2; cases hb; exact ⟨_, op_gt, _, _, rfl, rfl, q⟩
  · cases h1; cases h2; cases hb; exact ⟨_, op_ge, _, _, rfl, rfl, q⟩
  · split at hb
    · rename_i c
      obtain ⟨c1, c2⟩ := Bool.and_eq_true_iff.mp c
      cases hb
      refine ⟨fun x y H Q => Dv X.K H x d ∧ Dv X.K H y _ ∧ Q (.bl _) H, ?_, h1.up zh, h2.up zh, q⟩
      intro pins s σ H x y v u Q I rx ry ⟨h1, h2, q⟩
      obtain ⟨as, r1⟩ := Dv.reads I (Same.refl H) (okD_plain c1) h1 rx
      obtain ⟨bs, r2⟩ := Dv.reads I (Same.refl H) (okD_plain c2) h2 ry
      exact PySem.SeqAt.in_list_data r2 r1 (okD_plain c2) (okD_plain c1) (by have := okD_depth c1; have := g.un; omega) ⟨.bl _, H, I, rfl, q⟩
    · cases hb
  · split at hb
    · rename_i c
      obtain ⟨c1, c2⟩ := Bool.and_eq_true_iff.mp c
      cases hb
      refine ⟨fun x y H Q => Dv X.K H x d ∧ Dv X.K H y _ ∧ Q (.bl _) H, ?_, h1.up zh, h2.up zh, q⟩
      intro pins s σ H x y v u Q I rx ry ⟨h1, h2, q⟩
      obtain ⟨as, r1⟩ := Dv.reads I (Same.refl H) (okD_plain c1) h1 rx
      obtain ⟨bs, r2⟩ := Dv.reads I (Same.refl H) (okD_plain c2) h2 ry
      exact PySem.SeqAt.notIn_list_data r2 r1 (okD_plain c2) (okD_plain c1) (by have := okD_depth c1; have := g.un; omega) ⟨.bl _, H, I, rfl, q⟩
    · cases hb
  · split at hb
    · rename_i c
      obtain ⟨c1, c2⟩ := Bool.and_eq_true_iff.mp c
      cases hb
      refine ⟨fun x y H Q => Dv X.K H x d ∧ Dv X.K H y _ ∧ Q (.bl _) H, ?_, h1.up zh, h2.up zh, q⟩
      intro pins s σ H x y v u Q I rx ry ⟨h1, h2, q⟩
      obtain ⟨as, r1⟩ := Dv.reads I (Same.refl H) (okD_plain c1) h1 rx
      obtain ⟨bs, r2⟩ := Dv.reads I (Same.refl H) (okD_plain c2) h2 ry
      exact PySem.SeqAt.in_tuple_data r2 r1 (okD_plain c2) (okD_plain c1) (by have := okD_depth c1; have := g.un; omega) ⟨.bl _, H, I, rfl, q⟩
    · cases hb
  · split at hb
    · rename_i c
      obtain ⟨c1, c2⟩ := Bool.and_eq_true_iff.mp c
      cases hb
      refine ⟨fun x y H Q => Dv X.K H x d ∧ Dv X.K H y _ ∧ Q (.bl _) H, ?_, h1.up zh, h2.up zh, q⟩
      intro pins s σ H x y v u Q I rx ry ⟨h1, h2, q⟩
      obtain ⟨as, r1⟩ := Dv.reads I (Same.refl H) (okD_plain c1) h1 rx
      obtain ⟨bs, r2⟩ := Dv.reads I (Same.refl H) (okD_plain c2) h2 ry
      exact PySem.SeqAt.notIn_tuple_data r2 r1 (okD_plain c2) (okD_plain c1) (by have := okD_depth c1; have := g.un; omega) ⟨.bl _, H, I, rfl, q⟩
    · cases hb
  · cases h2
    cases hb
    refine ⟨_, op_isN, rfl, ?_⟩
    cases h1 <;> exact q
  · cases h2
    cases hb
    refine ⟨_, op_notN, rfl, ?_⟩
    cases h1 <;> exact q
  · cases h1; cases h2; cases hb
    exact ⟨_, op_is_bl, _, _, rfl, rfl, q⟩
  · cases h1; cases h2; cases hb
    exact ⟨_, op_isnot_bl, _, _, rfl, rfl, q⟩
  · cases hb
theorem tru_D {d : PyData} {b : Bool} (hb : truD d = some b) (zh : Same Z H) (h1 : Dv X.K Z x d) : TruV X.K x H b := by
  cases h1 <;> simp only [truD] at hb
  case non => cases hb; rfl
  case bl => cases hb; rfl
  case int => cases hb; rfl
  case str =>
    split at hb
    · rename_i c; cases hb; exact ⟨c, rfl⟩
    · cases hb
  case lst a b =>
    cases hb
    refine .inl ⟨_, Same.seq zh a, ?_⟩
    cases b <;> rfl
  case tup a b =>
    cases hb
    refine .inr (.inl ⟨_, sameT zh a, ?_⟩)
    cases b <;> rfl
  case dct => cases hb
theorem idx_ok (g : Gd G N k X) {b : PyData} (hb : idxD d e = some b) (zh : Same Z H) (h1 : Dv X.K Z x d) (h2 : Dv X.K Z y e) (q : ∀ v, Dv X.K Z v b → Q v H) : ixAny X x y H Q := by
  unfold idxD at hb
  split at hb
  · cases h1 with | lst a1 b1 =>
    cases h2
    obtain ⟨v, e1, e2⟩ := b1.atI hb
    exact ⟨_, ix_list, _, _, _, v, rfl, rfl, Same.seq zh a1, e1, q v e2⟩
  · cases h1 with | tup a1 b1 =>
    cases h2
    obtain ⟨v, e1, e2⟩ := b1.atI hb
    exact ⟨_, ix_tup, _, _, _, v, rfl, rfl, sameT zh a1, e1, q v e2⟩
  · cases hb
theorem DvAll.cut {K : PySem.W.Frag} {vs : List V} {ds : List PyData} (h : DvAll K Z vs ds) (lo hi : Option Int) : DvAll K Z (cutV vs lo hi) (cutD ds lo hi) := by
  unfold cutV cutD
  rw [h.len]
  exact (h.drop _).take _
theorem slc_ok (g : Gd G N k X) {lo hi : Option Int} (hb : slcD d lo hi = some r) (rl : Rl X.K B Z H σ ρ) (h1 : Dv X.K Z x d)
    (q : ∀ v H' Z', Rl X.K B Z' H' σ ρ → Same Z Z' → RR X.K B Z' H' σ ρ v r → Q v H') : slAny X x lo hi H Q := by
  unfold slcD at hb
  split at hb
  · cases h1 with | lst a1 b1 =>
    cases hb
    refine ⟨_, sl_list, _, _, rfl, Same.seq rl.zh a1, fun p hp => ?_⟩
    obtain ⟨r1, r2⟩ := rl.newL hp (b1.cut lo hi)
    exact q _ _ _ r1 (Same.refl _) r2
  · rename_i ds
    cases h1 with | @tup a vs _ a1 b1 =>
    cases hb
    refine ⟨_, sl_tupA, _, _, rfl, sameT rl.zh a1, fun w => ?_, fun w p hp => ?_⟩
    · have : cutD ds lo hi = ds := by
        unfold cutD
        rw [← b1.len, w.1, w.2, List.drop_zero, Nat.sub_zero, b1.len]
        exact List.take_length
      rw [this] at q
      exact q _ _ _ rl (Same.refl _) (.tup a1 b1)
    · obtain ⟨r1, r2, r3⟩ := rl.newT hp (b1.cut lo hi)
      exact q _ _ _ r1 r2 r3
  · cases hb
end
end Dx

/-! the greatest, the least of a tuple of ints -/
namespace Dx
open PySem PySem.Spec PyProof.Rows L2
theorem maxL_ok : ∀ {ns : List Int}, ns ≠ [] → maxL ns ∈ ns ∧ ∀ a ∈ ns, a ≤ maxL ns := by
  have key : ∀ (r : List Int) (i : Int), (r.foldl (fun a b => if b > a then b else a) i = i ∨ r.foldl (fun a b => if b > a then b else a) i ∈ r) ∧ i ≤ r.foldl (fun a b => if b > a then b else a) i ∧ ∀ a ∈ r, a ≤ r.foldl (fun a b => if b > a then b else a) i := by
    intro r
    induction r with
    | nil => intro i; exact ⟨.inl rfl, Int.le_refl _, fun a ha => by cases ha⟩
    | cons b r ih =>
      intro i
      rw [List.foldl_cons]
      obtain ⟨h1, h2, h3⟩ := ih (if b > i then b else i)
      have hb : i ≤ (if b > i then b else i) ∧ b ≤ (if b > i then b else i) ∧ ((if b > i then b else i) = i ∨ (if b > i then b else i) = b) := by split <;> omega
      refine ⟨?_, by omega, fun a ha => ?_⟩
      · rcases h1 with h1 | h1
        · rcases hb.2.2 with z | z
          · left; rw [h1, z]
          · right; rw [h1, z]; exact List.mem_cons_self
        · right; exact List.mem_cons_of_mem _ h1
      · rcases List.mem_cons.mp ha with rfl | ha
        · omega
        · exact h3 a ha
  intro ns h
  cases ns with
  | nil => exact absurd rfl h
  | cons i r =>
    obtain ⟨h1, h2, h3⟩ := key r i
    show r.foldl (fun a b => if b > a then b else a) i ∈ _ ∧ ∀ a ∈ i :: r, a ≤ r.foldl (fun a b => if b > a then b else a) i
    refine ⟨?_, fun a ha => ?_⟩
    · rcases h1 with h1 | h1
      · rw [h1]; exact List.mem_cons_self
      · exact List.mem_cons_of_mem _ h1
    · rcases List.mem_cons.mp ha with rfl | ha
      · exact h2
      · exact h3 a ha
theorem minL_ok : ∀ {ns : List Int}, ns ≠ [] → minL ns ∈ ns ∧ ∀ a ∈ ns, minL ns ≤ a := by
  have key : ∀ (r : List Int) (i : Int), (r.foldl (fun a b => if b < a then b else a) i = i ∨ r.foldl (fun a b => if b < a then b else a) i ∈ r) ∧ r.foldl (fun a b => if b < a then b else a) i ≤ i ∧ ∀ a ∈ r, r.foldl (fun a b => if b < a then b else a) i ≤ a := by
    intro r
    induction r with
    | nil => intro i; exact ⟨.inl rfl, Int.le_refl _, fun a ha => by cases ha⟩
    | cons b r ih =>
      intro i
      rw [List.foldl_cons]
      obtain ⟨h1, h2, h3⟩ := ih (if b < i then b else i)
      have hb : (if b < i then b else i) ≤ i ∧ (if b < i then b else i) ≤ b ∧ ((if b < i then b else i) = i ∨ (if b < i then b else i) = b) := by split <;> omega
      refine ⟨?_, by omega, fun a ha => ?_⟩
      · rcases h1 with h1 | h1
        · rcases hb.2.2 with z | z
          · left; rw [h1, z]
          · right; rw [h1, z]; exact List.mem_cons_self
        · right; exact List.mem_cons_of_mem _ h1
      · rcases List.mem_cons.mp ha with rfl | ha
        · omega
        · exact h3 a ha
  intro ns h
  cases ns with
  | nil => exact absurd rfl h
  | cons i r =>
    obtain ⟨h1, h2, h3⟩ := key r i
    show r.foldl (fun a b => if b < a then b else a) i ∈ _ ∧ ∀ a ∈ i :: r, r.foldl (fun a b => if b < a then b else a) i ≤ a
    refine ⟨?_, fun a ha => ?_⟩
    · rcases h1 with h1 | h1
      · rw [h1]; exact List.mem_cons_self
      · exact List.mem_cons_of_mem _ h1
    · rcases List.mem_cons.mp ha with rfl | ha
      · exact h2
      · exact h3 a ha
theorem maxL_eq {ns : List Int} {m : Int} (h1 : m ∈ ns) (h2 : ∀ a ∈ ns, a ≤ m) : m = maxL ns := by
  obtain ⟨a, b⟩ := maxL_ok (ns := ns) (fun z => by rw [z] at h1; cases h1)
  have := h2 _ a
  have := b _ h1
  omega
theorem minL_eq {ns : List Int} {m : Int} (h1 : m ∈ ns) (h2 : ∀ a ∈ ns, m ≤ a) : m = minL ns := by
  obtain ⟨a, b⟩ := minL_ok (ns := ns) (fun z => by rw [z] at h1; cases h1)
  have := h2 _ a
  have := b _ h1
  omega
section
variable {prog : Program} {w : World} {A : Around} {E : Value → Shared → Prop} {s : Shared} {l : Addr} {its : List Value} {ns : List Int} {Q : Value → Shared → Prop}
theorem max_rawT (hh : A.handled = none) (hl : s.heap.IsTuple l its.toArray) (hi : IntsAre its ns) (hne : 0 < ns.length)
    (h : ∀ h' tk M t', (∀ b o, s.heap.get? b = some o → h'.get? b = some o) → M ∈ ns → (∀ a, a ∈ ns → a ≤ M) → Q (.int M t') { s with heap := h', toks := tk }) : wpAny (model prog w) A (call (.builtin "max") [.ref l]) Q E s := by
  obtain ⟨xs, e⟩ := hi.allInts.items
  have hn : numsOf (intItems xs).toList = ns := by rw [← e]; exact hi.numsOf
  rw [nums_intItems] at hn
  subst hn
  rw [e] at hl
  have hsz : 0 < xs.size := by simpa using hne
  obtain ⟨ol, hol, _⟩ := id hl
  have hlt := Heap.lt_size hol
  refine PySem.call_max_walk (wpAny_pyIter_tuple hl ⟨_, _, _, _, _, _, _, rfl, Walks.tuple (A := A.in1) hh _ l (Nat.ne_of_lt hlt) (intItems xs), ⟨⟨_, Heap.get?_push_size _ rfl, rfl, rfl⟩, hl.push _⟩, fun b hb => ?_, by simpa [intItems] using hsz, CmpOf.ints_gt (numAt xs) (fun _ _ => intItems_at), fun v h' tk hv hk => ?_⟩)
  · simp only [List.mem_cons, List.not_mem_nil, or_false] at hb
    rw [Heap.size_push]
    rcases hb with rfl | rfl
    · exact Nat.lt_succ_self _
    · exact Nat.lt_succ_of_lt hlt
  · obtain ⟨t, rfl⟩ := intItems_at hv
    have e0 : (intItems xs).size - 1 = xs.size - 1 := by simp [intItems]
    obtain ⟨h1, h2⟩ := argBest_gt (numAt xs) (xs.size - 1)
    refine h h' tk _ t (fun b o e => hk b o (fun hm => ?_) (Heap.get?_push_of_some _ e)) ?_ fun a ha => ?_
    · rw [List.mem_singleton.mp hm] at e
      exact Nat.lt_irrefl _ (Heap.lt_size e)
    · rw [e0, numAt_eq]; exact PySem.getD_mem (by rw [List.length_map, Array.length_toList]; omega)
    · obtain ⟨j, hj, rfl⟩ := mem_getD ha
      rw [List.length_map, Array.length_toList] at hj
      rw [e0, ← numAt_eq]; exact h2 j (by omega)
theorem min_rawT (hh : A.handled = none) (hl : s.heap.IsTuple l its.toArray) (hi : IntsAre its ns) (hne : 0 < ns.length)
    (h : ∀ h' tk M t', (∀ b o, s.heap.get? b = some o → h'.get? b = some o) → M ∈ ns → (∀ a, a ∈ ns → M ≤ a) → Q (.int M t') { s with heap := h', toks := tk }) : wpAny (model prog w) A (call (.builtin "min") [.ref l]) Q E s := by
  obtain ⟨xs, e⟩ := hi.allInts.items
  have hn : numsOf (intItems xs).toList = ns := by rw [← e]; exact hi.numsOf
  rw [nums_intItems] at hn
  subst hn
  rw [e] at hl
  have hsz : 0 < xs.size := by simpa using hne
  obtain ⟨ol, hol, _⟩ := id hl
  have hlt := Heap.lt_size hol
  refine PySem.call_min_walk (wpAny_pyIter_tuple hl ⟨_, _, _, _, _, _, _, rfl, Walks.tuple (A := A.in1) hh _ l (Nat.ne_of_lt hlt) (intItems xs), ⟨⟨_, Heap.get?_push_size _ rfl, rfl, rfl⟩, hl.push _⟩, fun b hb => ?_, by simpa [intItems] using hsz, CmpOf.ints_lt (numAt xs) (fun _ _ => intItems_at), fun v h' tk hv hk => ?_⟩)
  · simp only [List.mem_cons, List.not_mem_nil, or_false] at hb
    rw [Heap.size_push]
    rcases hb with rfl | rfl
    · exact Nat.lt_succ_self _
    · exact Nat.lt_succ_of_lt hlt
  · obtain ⟨t, rfl⟩ := intItems_at hv
    have e0 : (intItems xs).size - 1 = xs.size - 1 := by simp [intItems]
    obtain ⟨h1, h2⟩ := argBest_lt (numAt xs) (xs.size - 1)
    refine h h' tk _ t (fun b o e => hk b o (fun hm => ?_) (Heap.get?_push_of_some _ e)) ?_ fun a ha => ?_
    · rw [List.mem_singleton.mp hm] at e
      exact Nat.lt_irrefl _ (Heap.lt_size e)
    · rw [e0, numAt_eq]; exact PySem.getD_mem (by rw [List.length_map, Array.length_toList]; omega)
    · obtain ⟨j, hj, rfl⟩ := mem_getD ha
      rw [List.length_map, Array.length_toList] at hj
      rw [e0, ← numAt_eq]; exact h2 j (by omega)
end
section
variable {X : Cx}
theorem cr_maxT (hc : X.calm = true) : CallR X (.builtin "max") (fun vs H Q => ∃ (a : Addr) (ns : List Int), vs = [V.ref a] ∧ SqT X.K H a (ns.map V.int) ∧ 0 < ns.length ∧ ∀ m, m ∈ ns → (∀ y, y ∈ ns → y ≤ m) → Q (.int m) H) := by
  intro pins s σ H vs us Q I r h
  obtain ⟨a, ns, rfl, hs, hne, q⟩ := h
  obtain ⟨its, rv, hl, _⟩ := I.tuple hs
  rw [Vals.ref1 r]
  exact max_rawT (I.ok.hd hc) hl rv.ints hne fun h' tk m t' hk h1 h2 => ⟨.int _, H, I.kept hk, ⟨_, rfl⟩, q m h1 h2⟩
theorem cr_minT (hc : X.calm = true) : CallR X (.builtin "min") (fun vs H Q => ∃ (a : Addr) (ns : List Int), vs = [V.ref a] ∧ SqT X.K H a (ns.map V.int) ∧ 0 < ns.length ∧ ∀ m, m ∈ ns → (∀ y, y ∈ ns → m ≤ y) → Q (.int m) H) := by
  intro pins s σ H vs us Q I r h
  obtain ⟨a, ns, rfl, hs, hne, q⟩ := h
  obtain ⟨its, rv, hl, _⟩ := I.tuple hs
  rw [Vals.ref1 r]
  exact min_rawT (I.ok.hd hc) hl rv.ints hne fun h' tk m t' hk h1 h2 => ⟨.int _, H, I.kept hk, ⟨_, rfl⟩, q m h1 h2⟩
end
end Dx

namespace Dx
open PySem PySem.Spec PyProof.Rows L2
section
variable {G : Gx} {N : List Str} {k : Nat} {X : Cx} {B : Bs} {Z H : Hp} {σ : L2.St} {ρ : Env1} {x y : V} {d e : PyData} {r : R} {Q : VK}

/-- the built-in function or class of a name -/
def bltV (f : Str) : Option Value :=
  if f = "len" then some (.builtin "len") else if f = "abs" then some (.builtin "abs") else if f = "int" then some (.type "int") else if f = "max" then some (.builtin "max")
  else if f = "min" then some (.builtin "min") else if f = "gcd" then some (.builtin "math.gcd") else if f = "all" then some (.builtin "all") else if f = "any" then some (.builtin "any")
  else if f = "sum" then some (.builtin "sum") else if f = "list" then some (.type "list") else if f = "repr" then some (.builtin "repr") else if f = "tuple" then some (.type "tuple") else none
theorem noDict_of_plain : ∀ d : PyData, d.plain = true → d.hasDict = false := by
  intro d
  refine PyData.rec (motive_1 := fun d => d.plain = true → d.hasDict = false) (motive_2 := fun ds => PyData.plainAll ds = true → PyData.hasDictAll ds = false) (motive_3 := fun _ => True) (motive_4 := fun _ => True) ?_ ?_ ?_ ?_ ?_ ?_ ?_ ?_ ?_ ?_ ?_ ?_ d
  all_goals simp_all [PyData.plain, PyData.plainAll, PyData.hasDict, PyData.hasDictAll]
theorem call_reprD (g : Gd G N k X) (d : PyData) (hd : reprOk d = true) : CallR X (.builtin "repr") (fun xs H Q => ∃ x, xs = [x] ∧ Dv X.K H x d ∧ Q (.str d.shown) H) := by
  intro pins s σ H xs us Q I r ⟨x, e, h, q⟩
  subst e
  obtain ⟨u, rfl, ru⟩ := vals1 r
  simp only [reprOk, Bool.and_eq_true] at hd
  obtain ⟨⟨⟨p, dp⟩, sh⟩, sz⟩ := hd
  have dp := of_decide_eq_true dp
  have sz := of_decide_eq_true sz
  have hu := g.un
  obtain ⟨as, rr⟩ := Dv.reads I (Same.refl H) p h ru
  cases h with
  | non => cases ru; exact PySem.P.repr_of_none ⟨.str _, H, I.tok _, ⟨_, rfl⟩, q⟩
  | bl b =>
    cases ru
    refine PySem.P.repr_of_bool ⟨.str _, H, I.tok _, ⟨_, rfl⟩, ?_⟩
    exact q
  | int i =>
    obtain ⟨t, rfl⟩ := ru
    exact PySem.P.repr_of_int (of_decide_eq_true sh) ⟨.str _, H, I.tok _, ⟨_, rfl⟩, q⟩
  | str y =>
    obtain ⟨t, rfl⟩ := ru
    exact PySem.P.repr_of_str ⟨.str _, H, I.tok _, ⟨_, rfl⟩, q⟩ sz
  | lst a b =>
    cases ru
    exact repr_of_reads' rr sh (by intro z; rw [noDict_of_plain _ p] at z; cases z) g.room.gd (by omega) (fun _ _ e => e) (fun h' u tk hk => ⟨.str _, H, I.kept hk, ⟨_, rfl⟩, q⟩) sz
  | tup a b =>
    cases ru
    exact repr_of_reads' rr sh (by intro z; rw [noDict_of_plain _ p] at z; cases z) g.room.gd (by omega) (fun _ _ e => e) (fun h' u tk hk => ⟨.str _, H, I.kept hk, ⟨_, rfl⟩, q⟩) sz
  | dct a => cases p
theorem Dv1 {K : PySem.W.Frag} {vs : List V} {d : PyData} (h : DvAll K Z vs [d]) : ∃ v, vs = [v] ∧ Dv K Z v d := by
  cases h with | cons a b => cases b; exact ⟨_, rfl, a⟩
theorem Dv2 {K : PySem.W.Frag} {vs : List V} {d e : PyData} (h : DvAll K Z vs [d, e]) : ∃ v w, vs = [v, w] ∧ Dv K Z v d ∧ Dv K Z w e := by
  cases h with | cons a b => cases b with | cons b c => cases c; exact ⟨_, _, rfl, a, b⟩
/-- a built-in called with data -/
theorem blt_ok (g : Gd G N k X) {f : Str} {as : List PyData} {vs : List V} {u : Value} (hu : bltV f = some u) (hb : bltD f as = some r) (rl : Rl X.K B Z H σ ρ) (h1 : DvAll X.K Z vs as)
    (q : ∀ v H' Z', Rl X.K B Z' H' σ ρ → Same Z Z' → RR X.K B Z' H' σ ρ v r → Q v H') : cAny X u vs H Q := by
  have zh := rl.zh
  have fin : ∀ {d : PyData} {v : V}, r = .dat d → Dv X.K Z v d → Q v H := fun e h => q _ _ _ rl (Same.refl _) (by rw [e]; exact h)
  unfold bltV at hu
  unfold bltD at hb
  split at hu
  · cases hu
    rw [if_pos (by assumption)] at hb
    split at hb
    · obtain ⟨v, rfl, a⟩ := Dv1 h1; cases a with | lst a b => cases hb; exact ⟨_, call_len_seq, _, _, rfl, .inl (Same.seq zh a), fin rfl (by rw [b.len]; exact .int _)⟩
    · obtain ⟨v, rfl, a⟩ := Dv1 h1; cases a with | tup a b => cases hb; exact ⟨_, call_len_seq, _, _, rfl, .inr (sameT zh a), fin rfl (by rw [b.len]; exact .int _)⟩
    · split at hb
      · rename_i c
        obtain ⟨v, rfl, a⟩ := Dv1 h1; cases a; cases hb; exact ⟨_, call_len_str, _, rfl, c, fin rfl (.int _)⟩
      · cases hb
    · cases hb
  rename_i n1
  rw [if_neg n1] at hb
  split at hu
  · cases hu
    rw [if_pos (by assumption)] at hb
    split at hb
    · obtain ⟨v, rfl, a⟩ := Dv1 h1; cases a; cases hb; exact ⟨_, call_abs, _, rfl, fin rfl (.int _)⟩
    · cases hb
  rename_i n1
  rw [if_neg n1] at hb
  split at hu
  · cases hu
    rw [if_pos (by assumption)] at hb
    split at hb
    · obtain ⟨v, rfl, a⟩ := Dv1 h1; cases a; cases hb; exact ⟨_, call_int1, .inl ⟨_, rfl, fin rfl (.int _)⟩⟩
    · cases hb
  rename_i n1
  rw [if_neg n1] at hb
  split at hu
  · cases hu
    rw [if_pos (by assumption)] at hb
    split at hb
    · obtain ⟨v, w, rfl, a, b⟩ := Dv2 h1; cases a; cases b; cases hb; exact ⟨_, call_max2 g.calm, _, _, rfl, fin rfl (.int _)⟩
    · rename_i ys
      obtain ⟨v, rfl, a⟩ := Dv1 h1; cases a with | lst a b =>
      cases c : allInt ys with
      | none => rw [c] at hb; cases hb
      | some ns =>
        rw [c] at hb
        simp only [Option.bind_some] at hb
        split at hb
        · cases hb
        rename_i hne
        cases hb
        have hne : ns ≠ [] := fun z => hne (by rw [z]; rfl)
        refine ⟨_, cr_max g.calm, _, ns, rfl, ?_, List.length_pos_iff.mpr hne, fun m h1 h2 => ?_⟩
        · rw [← b.ints c]; exact Same.seq zh a
        · rw [maxL_eq h1 h2]; exact fin rfl (.int _)
    · rename_i ys
      obtain ⟨v, rfl, a⟩ := Dv1 h1; cases a with | tup a b =>
      cases c : allInt ys with
      | none => rw [c] at hb; cases hb
      | some ns =>
        rw [c] at hb
        simp only [Option.bind_some] at hb
        split at hb
        · cases hb
        rename_i hne
        cases hb
        have hne : ns ≠ [] := fun z => hne (by rw [z]; rfl)
        refine ⟨_, cr_maxT g.calm, _, ns, rfl, ?_, List.length_pos_iff.mpr hne, fun m h1 h2 => ?_⟩
        · rw [← b.ints c]; exact sameT zh a
        · rw [maxL_eq h1 h2]; exact fin rfl (.int _)
    · cases hb
  rename_i n1
  rw [if_neg n1] at hb
  split at hu
  · cases hu
    rw [if_pos (by assumption)] at hb
    split at hb
    · obtain ⟨v, w, rfl, a, b⟩ := Dv2 h1; cases a; cases b; cases hb; exact ⟨_, call_min2 g.calm, _, _, rfl, fin rfl (.int _)⟩
    · rename_i ys
      obtain ⟨v, rfl, a⟩ := Dv1 h1; cases a with | lst a b =>
      cases c : allInt ys with
      | none => rw [c] at hb; cases hb
      | some ns =>
        rw [c] at hb
        simp only [Option.bind_some] at hb
        split at hb
        · cases hb
        rename_i hne
        cases hb
        have hne : ns ≠ [] := fun z => hne (by rw [z]; rfl)
        refine ⟨_, cr_min g.calm, _, ns, rfl, ?_, List.length_pos_iff.mpr hne, fun m h1 h2 => ?_⟩
        · rw [← b.ints c]; exact Same.seq zh a
        · rw [minL_eq h1 h2]; exact fin rfl (.int _)
    · rename_i ys
      obtain ⟨v, rfl, a⟩ := Dv1 h1; cases a with | tup a b =>
      cases c : allInt ys with
      | none => rw [c] at hb; cases hb
      | some ns =>
        rw [c] at hb
        simp only [Option.bind_some] at hb
        split at hb
        · cases hb
        rename_i hne
        cases hb
        have hne : ns ≠ [] := fun z => hne (by rw [z]; rfl)
        refine ⟨_, cr_minT g.calm, _, ns, rfl, ?_, List.length_pos_iff.mpr hne, fun m h1 h2 => ?_⟩
        · rw [← b.ints c]; exact sameT zh a
        · rw [minL_eq h1 h2]; exact fin rfl (.int _)
    · cases hb
  rename_i n1
  rw [if_neg n1] at hb
  split at hu
  · cases hu
    rw [if_pos (by assumption)] at hb
    split at hb
    · obtain ⟨v, w, rfl, a, b⟩ := Dv2 h1; cases a; cases b; cases hb; exact ⟨_, cr_gcd, _, _, rfl, fin rfl (.int _)⟩
    · cases hb
  rename_i n1
  rw [if_neg n1] at hb
  split at hu
  · cases hu
    rw [if_pos (by assumption)] at hb
    split at hb
    · rename_i ys
      obtain ⟨v, rfl, a⟩ := Dv1 h1; cases a with | lst a b =>
      cases c : allBl ys with
      | none => rw [c] at hb; cases hb
      | some bs =>
        rw [c] at hb
        cases hb
        refine ⟨_, cr_all g.calm, _, bs, rfl, ?_, fin rfl (.bl _)⟩
        rw [← b.bls c]; exact (Same.seq zh a)
    · cases hb
  rename_i n1
  rw [if_neg n1] at hb
  split at hu
  · cases hu
    rw [if_pos (by assumption)] at hb
    split at hb
    · rename_i ys
      obtain ⟨v, rfl, a⟩ := Dv1 h1; cases a with | lst a b =>
      cases c : allBl ys with
      | none => rw [c] at hb; cases hb
      | some bs =>
        rw [c] at hb
        cases hb
        refine ⟨_, cr_any g.calm, _, bs, rfl, ?_, fin rfl (.bl _)⟩
        rw [← b.bls c]; exact (Same.seq zh a)
    · cases hb
  rename_i n1
  rw [if_neg n1] at hb
  split at hu
  · cases hu
    rw [if_pos (by assumption)] at hb
    split at hb
    · rename_i ys
      obtain ⟨v, rfl, a⟩ := Dv1 h1; cases a with | lst a b =>
      cases c : allInt ys with
      | none => rw [c] at hb; cases hb
      | some bs =>
        rw [c] at hb
        cases hb
        refine ⟨_, cr_sum g.calm, _, bs, rfl, ?_, fin rfl (.int _)⟩
        rw [← b.ints c]; exact (Same.seq zh a)
    · cases hb
  rename_i n1
  rw [if_neg n1] at hb
  split at hu
  · cases hu
    rw [if_pos (by assumption)] at hb
    split at hb
    · obtain ⟨v, rfl, a⟩ := Dv1 h1; cases a with | lst a b =>
      cases hb
      refine ⟨_, call_list_of, _, _, rfl, .inl (Same.seq zh a), fun p hp => ?_⟩
      obtain ⟨r1, r2⟩ := rl.newL hp b
      exact q _ _ _ r1 (Same.refl _) r2
    · obtain ⟨v, rfl, a⟩ := Dv1 h1; cases a with | tup a b =>
      cases hb
      refine ⟨_, call_list_of, _, _, rfl, .inr (sameT zh a), fun p hp => ?_⟩
      obtain ⟨r1, r2⟩ := rl.newL hp b
      exact q _ _ _ r1 (Same.refl _) r2
    · cases hb
  rename_i n1
  rw [if_neg n1] at hb
  split at hu
  · cases hu
    rw [if_pos (by assumption)] at hb
    split at hb
    · split at hb
      · rename_i c
        obtain ⟨v, rfl, a⟩ := Dv1 h1
        cases hb
        exact ⟨_, call_reprD g _ c, _, rfl, a.up zh, fin rfl (.str _)⟩
      · cases hb
    · cases hb
  rename_i n1
  rw [if_neg n1] at hb
  split at hu
  · cases hu
    rw [if_pos (by assumption)] at hb
    split at hb
    · obtain ⟨v, rfl, a⟩ := Dv1 h1; cases a with | lst a b =>
      cases hb
      refine ⟨_, call_tuple_of, _, _, rfl, .inl ⟨Same.seq zh a, fun p hp => ?_⟩⟩
      obtain ⟨r1, r2, r3⟩ := rl.newT hp b
      exact q _ _ _ r1 r2 r3
    · obtain ⟨v, rfl, a⟩ := Dv1 h1; cases a with | tup a b =>
      cases hb
      exact ⟨_, call_tuple_of, _, _, rfl, .inr ⟨sameT zh a, fin rfl (.tup a b)⟩⟩
    · cases hb
  · cases hu
/-- isinstance -/
theorem tyX_of {K : PySem.W.Frag} (zh : Same Z H) (h : Dv K Z x d) : TyX K H x (.type (tyD d)) := by
  cases h with
  | non => exact .base .non
  | bl b => exact .base (.bl b)
  | int i => exact .base (.int i)
  | str y => exact .base (.str y)
  | lst a b =>
    rcases Same.seq zh a with (a | ⟨o, a⟩) | ⟨o, its, n, e, c, _⟩
    · exact .base (.lst a)
    · exact .base (.frz a)
    · exact .kList e c
  | tup a b =>
    rcases sameT zh a with (a | ⟨o, a⟩) | ⟨o, its, n, e, c, _⟩
    · exact .base (.tup a)
    · exact .fTuple a
    · exact .kTuple e c
  | dct a => exact .base (.dK (zh _ _ a))
def tyN (t : Str) : String := if t = "int" then "int" else if t = "bool" then "bool" else if t = "tuple" then "tuple" else if t = "list" then "list" else if t = "str" then "str" else "dict"
theorem isi_any {K : PySem.W.Frag} : ∀ (ts : List Str) (b : Bool), isiL d ts = some b → PySem.W.kitAny K (.type (tyD d)) (ts.map fun t => .type (tyN t)) = some b
  | [], b, h => by cases h; rfl
  | t :: r, b, h => by
    unfold isiL at h
    split at h
    · rename_i c
      cases h
      exact kitAny_cons (b := true) (kit_ty c) (fun z => nomatch z) (fun _ => rfl)
    · rename_i c
      exact kitAny_cons (b := false) (kit_ty c) (fun _ => isi_any r b h) (fun z => nomatch z)
    · cases h
end
end Dx

/-! enumerate(tuple) -/
namespace Dx
open PySem PySem.Spec PyProof.Rows L2
open AutoSeq1 (wpAny_loadPart')
theorem enum_newT (l : Addr) (items : Array Value) (n : Nat) (dct : Option Addr) (sl : Array (Option Value)) :
    Meets (Builtin.«enumerate.__new__» ⟨[.type "enumerate", .ref l], []⟩) (fun _ R s => s.heap.get? l = some { cls := .type "tuple", dict := dct, data := .seq items n, slots := sl } ∧
      R (.ok (.ret (.ref (s.heap.push { cls := .type "tuple_iterator", data := .fields #[.ref l, .int 0 0] }).objs.size)))
        { s with heap := (s.heap.push { cls := .type "tuple_iterator", data := .fields #[.ref l, .int 0 0] }).push { cls := .type "enumerate", data := .fields #[.none, .bool false, .ref s.heap.objs.size, rawInt 0, .none, .none] } }) :=
  .of_wp fun prog w A R s h => by
    obtain ⟨hp, gg, d, tk, os⟩ := s; obtain ⟨hl, h⟩ := h
    have hsub := sub_enumerate
    have hT : Heap.IsTuple (Shared.heap ⟨hp, gg, d, tk, os⟩) l items := ⟨_, hl, rfl, n, rfl⟩
    wp_walk using wpAny_loadPart' hl
    refine wpAny_stack_any fun st => wpAny_pure ?_
    split
    · rename_i c _ _ _ _ _
      cases (c == Value.type "enumerate")
      · wp_walk using wpAny_loadPart' hl, wpAny_pyIter_tuple hT
        exact ⟨_, rfl, h⟩
      · wp_walk using wpAny_loadPart' hl, wpAny_pyIter_tuple hT
        exact ⟨_, rfl, h⟩
    · wp_walk using wpAny_loadPart' hl, wpAny_pyIter_tuple hT
      exact ⟨_, rfl, h⟩
section
variable {prog : Program} {w : World} {A : Around} {E : Value → Shared → Prop} {s : Shared}
theorem call_enumT {l : Addr} {items : Array Value} {Q : Value → Shared → Prop} (hT : s.heap.IsTuple l items)
    (h : ∀ h', IsEnum h' (s.heap.objs.size + 1) s.heap.objs.size 0 .none → h'.IsTupleIter s.heap.objs.size l 0 →
      (∀ b o, s.heap.get? b = some o → h'.get? b = some o) → Q (.ref (s.heap.objs.size + 1)) { s with heap := h' }) :
    wpAny (model prog w) A (call (.type "enumerate") [.ref l]) Q E s := by
  obtain ⟨⟨c, dct, dt, sl⟩, hl, hc, n, hd⟩ := hT
  replace hc : c = .type "tuple" := hc
  replace hd : dt = .seq items n := hd
  subst hc hd
  refine callType_new F.called_enumerate (by decide) (F.typeCall_enumerate_1 _) (F.newCall_enumerate_1 _) (fun obj => F.args_object_init_2 obj _) F.entry_enumerate_new
    (enum_newT l items n dct sl) ⟨hl, ?_⟩
  have hz : (s.heap.push { cls := .type "tuple_iterator", data := .fields #[.ref l, .int 0 0] }).objs.size = s.heap.objs.size + 1 := Heap.size_push ..
  show _ ∧ _
  rw [hz]
  have he : IsEnum ((s.heap.push { cls := .type "tuple_iterator", data := .fields #[.ref l, .int 0 0] }).push
      { cls := .type "enumerate", data := .fields #[.none, .bool false, .ref s.heap.objs.size, rawInt 0, .none, .none] }) (s.heap.objs.size + 1) s.heap.objs.size 0 .none := by
    have this := Heap.get?_push_size (s.heap.push { cls := .type "tuple_iterator", data := .fields #[.ref l, .int 0 0] })
      (o := { cls := .type "enumerate", data := .fields #[.none, .bool false, .ref s.heap.objs.size, rawInt 0, .none, .none] }) rfl
    rw [hz] at this; exact this
  exact ⟨⟨_, he, rfl⟩, h _ he ⟨_, Heap.get?_push_of_some _ (Heap.get?_push_size _ rfl), rfl, rfl⟩ fun b o x => Heap.get?_push_of_some _ (Heap.get?_push_of_some _ x)⟩
end
theorem drawsT {prog : Program} {w : World} {A : Around} (hh : A.handled = none) (it l : Addr) (hne : l ≠ it) (items : Array Value) :
    Draws prog w A it [it, l] items.size (fun i v => items[i]? = some v) (fun i h => h.IsTupleIter it l i ∧ h.IsTuple l items) where
  live := fun _ _ st => let ⟨o, ho, _⟩ := st.1; ⟨o, ho⟩
  frame := fun _ _ _ st hk => ⟨st.1.at fun o e => hk it (by simp) o e, by
    obtain ⟨o, e, r⟩ := st.2
    exact ⟨o, hk l (by simp) o e, r⟩⟩
  item := fun i s Q E hi st hQ => by
    refine RZ.nextOf_tuple_item st.1 st.2 (x := items[i]) (by simp [hi]) fun h' hit' hs' => ?_
    obtain ⟨o, e, r⟩ := st.2
    exact hQ _ h' s.toks (by simp [hi]) ⟨hit', ⟨o, (hs'.2 l hne).trans e, r⟩⟩ hs'
  done := fun s Q E st hE => RZ.nextOf_tuple_end hh st.1 st.2 (by simp) hE
def IteT (K : PySem.W.Frag) (a : Addr) : It :=
  ⟨fun i H => ∃ xs x, SqT K H a xs ∧ xs[i]? = some x, fun i H v H' => ∃ T x, v = .ref T ∧ H T = none ∧ H' = upd H T (.tup [.int (i : Nat), x]) ∧ ∀ xs, SqT K H a xs → xs[i]? = some x,
    fun i H => ∃ xs, SqT K H a xs ∧ xs.length = i⟩
theorem turn_enumT {P : Program} {w : World} {K : PySem.W.Frag} {elts : List Expr} {kk : Nat} {tpos : Pos} (a e it : Addr) :
    Turn P w K (.Tuple elts kk tpos) (IteT K a) [e, it] e (fun i h => (∃ old, IsEnum h e it ((i : Nat) : Int) old) ∧ h.IsTupleIter it a i ∧ e ≠ it) where
  mem := by simp
  obj := fun i h st b hb => by
    obtain ⟨⟨old, he⟩, ⟨o, ho, hc, hd⟩, _⟩ := st
    rcases (by simpa using hb : b = e ∨ b = it) with z | z
    · rw [z]; exact ⟨_, he, fun v q => nomatch q⟩
    · rw [z]; exact ⟨o, ho, fun v q => by rw [hd] at q; cases q⟩
  keep := fun i h h' st k => let ⟨⟨old, he⟩, hi, hne⟩ := st; ⟨⟨old, k e (by simp) _ he⟩, hi.at fun o q => k it (by simp) o q, hne⟩
  item := by
    intro X hP hw hK hc i pins s σ H E I hf st hg
    subst hP hw hK
    obtain ⟨⟨old, he⟩, hit, hne⟩ := st
    obtain ⟨xs, x, hq, hx⟩ := hg
    obtain ⟨its, rv, p, hz⟩ := I.tuple hq
    obtain ⟨u, hu, ru⟩ := rv.get hx
    have hel : e < s.heap.objs.size := Heap.lt_size he
    have hil : it < s.heap.objs.size := by obtain ⟨_, q, _⟩ := hit; exact Heap.lt_size q
    have ne1 : e ≠ a := fun z => by
      obtain ⟨o, ho, hc', _⟩ := p
      rw [← z] at ho
      have := ho.symm.trans he
      cases this
      exact absurd (show Value.type "enumerate" = Value.type "tuple" from hc') (by decide)
    have ne2 : a ≠ it := fun z => by
      obtain ⟨o, ho, hc', _⟩ := p
      obtain ⟨o2, ho2, hc2, _⟩ := hit
      rw [z, ho2] at ho; cases ho
      rw [hc2] at hc'; exact absurd hc' (by decide)
    have hlt : i < its.toArray.size := by
      rw [List.size_toArray]; exact (List.getElem?_eq_some_iff.mp hu).1
    refine wpAny_pyNext_enum_itemD (drawsT (A := X.A.in1) (I.ok.hd hc) it a ne2 its.toArray) he ⟨hit, p⟩ hlt hne (by simp [hne, ne1]) fun y h' tk hP ho st' hT hsz hk => ?_
    have ey : y = u := by
      have hP : its.toArray[i]? = some y := hP
      have hu' : its.toArray[i]? = some u := by simpa using hu
      rw [hu'] at hP; exact (Option.some.inj hP).symm
    subst ey
    refine ⟨_, rfl, wpAny_letOwnedTupleGo_enum (s := { s with heap := h', toks := tk + 1 }) ho fun h'' he' sb => ?_⟩
    have hT2 : h''.get? s.heap.objs.size = some { cls := .type "tuple", data := .seq #[.int i tk, y] } := (sb.2 _ (Nat.ne_of_gt hel)).trans hT
    have new : ObjOk X.prog X.w (upd H s.heap.objs.size (.tup [.int (i : Nat), x])) h'' s.heap.objs.size (.tup [.int (i : Nat), x]) :=
      ⟨by show 2 ≤ sizeLine; decide, [.int i tk, y], .cons ⟨_, rfl⟩ (.cons ru .nil), ⟨_, hT2, rfl, _, rfl⟩⟩
    have I1 : Inv X pins σ (upd H s.heap.objs.size (.tup [.int (i : Nat), x])) { s with heap := h'', toks := tk + 1 } :=
      I.turnedNew (ch := [e, it]) (fun b ob hb q => (sb.2 b (fun z => hb (by simp [z]))).trans (hk b ob (fun z => hb (by simp [z])) (fun z => hb (by simp [z])) q)) hf (Nat.le_refl _) new
    refine ⟨.ref s.heap.objs.size, _, I1, rfl, ⟨_, x, rfl, I.hok.fresh (Nat.le_refl _), rfl, fun ys hy => by rw [I.tuple_inj hy hq]; exact hx⟩, ⟨⟨y, ?_⟩, st'.1.at fun o q => (sb.2 it (Ne.symm hne)).trans q, hne⟩, fun b hb => ?_⟩
    · have e1 : ((i + 1 : Nat) : Int) = (i : Int) + 1 := by omega
      rw [e1]; exact he'
    · have hb' : b < s.heap.objs.size := by
        rcases (by simpa using hb : b = e ∨ b = it) with z | z
        · rw [z]; exact hel
        · rw [z]; exact hil
      rw [upd_ne (Nat.ne_of_lt hb')]
      exact (hf b hb).1
  done := by
    intro X hP hw hK hc i pins s σ H E I hf st hg
    subst hP hw hK
    obtain ⟨⟨old, he⟩, hit, hne⟩ := st
    obtain ⟨xs, hq, hx⟩ := hg
    obtain ⟨its, rv, p, hz⟩ := I.tuple hq
    obtain ⟨f0, f1, f2, f3, f4, f5⟩ := hf it (by simp)
    have hl := rv.length
    have ne2 : a ≠ it := fun z => by
      obtain ⟨o, ho, hc', _⟩ := p
      obtain ⟨o2, ho2, hc2, _⟩ := hit
      rw [z, ho2] at ho; cases ho
      rw [hc2] at hc'; exact absurd hc' (by decide)
    have hi : i = its.toArray.size := by rw [List.size_toArray]; omega
    subst hi
    exact wpAny_pyNext_enum_endD (drawsT (A := X.A.in1) (I.ok.hd hc) it a ne2 its.toArray) he ⟨hit, p⟩ fun h' eb => ⟨rfl, I.turned (t' := s.toks) (fun b o hb q => eb b o hb q) f0 f1 f3 f4 f5⟩
  self := fun A i s Q E st h => let ⟨⟨_, he⟩, _⟩ := st; wpAny_pyIter_enum he h
def iEnumT (K : PySem.W.Frag) (ta : TA) : TI := fun σ H R => ta σ H fun vs H1 => ∃ a xs, vs = [.ref a] ∧ ((SqL K H1 a xs ∧ R (Ite K a) H1) ∨ (SqT K H1 a xs ∧ R (IteT K a) H1))
theorem pi_enumT {X : Cx} {e : Expr} {ta : TA} {p pos tpos : Pos} {elts : List Expr} {kk : Nat} (hg : Gl X "enumerate") (hm : X.mg "enumerate" = none) (ha : PA X [e] ta) (hs : starEach [e] X.env = [(false, eval e X.env)]) :
    PI X (.Tuple elts kk tpos) (.Call (.Name "enumerate" p) [e] [] pos) (iEnumT X.K ta) := by
  refine ⟨fun pins s σ H R I h => ?_⟩
  refine Call_ (ld_blt I hg hm boot_enumerate (PyProof.Rows.callWith_type1 (thn (ha.run pos pins s σ H _ I h) fun us s1 ⟨vs, H1, I1, r1, q1⟩ => ?_) hs rfl))
  obtain ⟨a, xs, ex, q1⟩ := q1
  subst ex
  cases r1 with
  | cons r rr =>
    cases rr
    cases r
    have fp : ∀ b ∈ [s1.heap.objs.size + 1, s1.heap.objs.size], FpOk X pins H1 b := fun b hb => by
      have hle : s1.heap.objs.size ≤ b := by
        rcases (by simpa using hb : b = s1.heap.objs.size + 1 ∨ b = s1.heap.objs.size) with z | z <;> omega
      exact I1.fpOk hle (I1.hok.fresh hle)
    rcases q1 with ⟨hq, q⟩ | ⟨hq, q⟩
    · obtain ⟨its, rv, p', hz⟩ := I1.list hq
      refine call_enumerate_list p'.isList fun h' he hit hsz hk => wpAny_pyIter_enum he ?_
      exact ⟨s1.heap.objs.size + 1, [s1.heap.objs.size + 1, s1.heap.objs.size], _, _, H1, rfl, I1.kept (t' := s1.toks) hk, turn_enum a (s1.heap.objs.size + 1) s1.heap.objs.size, ⟨⟨.none, he⟩, hit, Nat.succ_ne_self _⟩, fp, q⟩
    · obtain ⟨its, rv, p', hz⟩ := I1.tuple hq
      refine call_enumT p' fun h' he hit hk => wpAny_pyIter_enum he ?_
      exact ⟨s1.heap.objs.size + 1, [s1.heap.objs.size + 1, s1.heap.objs.size], _, _, H1, rfl, I1.kept (t' := s1.toks) hk, turn_enumT a (s1.heap.objs.size + 1) s1.heap.objs.size, ⟨⟨.none, he⟩, hit, Nat.succ_ne_self _⟩, fp, q⟩
end Dx

namespace Dx
open PySem PySem.Spec PyProof.Rows L2
/-! ## From the text to the tree -/
structure Cc where
  N : List Str
  mv : List Nat
  fns : List (Str × List Str)
  cons : List Str
  gcd : Bool
  kw : List (Str × List Str × List Nat)
  fg : List (Nat × List Nat)
  br : List (Nat × List Nat)
def okN (x : Str) : Bool := !(x == ("__debug__" : Str)) && !(x == ("__classdict__" : Str))
def visB (sc : Scope) (x : Str) : Bool := okN x && match sc.names.lookup x with | some .local => true | some .cell => true | some .free => true | _ => false
def glB (sc : Scope) (x : Str) : Bool := okN x && match sc.names.lookup x with | some .globalImplicit => true | _ => false
def locB (fnb : Str → Bool) (sc : Scope) (x : Str) : Bool := match sc.names.lookup x with | some .local => true | some .cell => fnb x | _ => false
def ixN? (N : List Str) (x : Str) : Option Nat := N.findIdx? (· == x)
def lsG (f : Expr → Option I) : List Expr → Option I
  | [] => some .nil
  | e :: r => do let a ← f e; let b ← lsG f r; some (.cons a b)
def boG (op : BoolOp) (f : Expr → Option I) : List Expr → Option I
  | [] => none
  | [e] => f e
  | e :: r => do let a ← f e; let b ← boG op f r; some (match op with | .And => .and a b | .Or => .or a b)
def optG (f : Expr → Option I) : Option Expr → Option I
  | none => some .abs
  | some e => do let i ← f e; if isAbs i then none else some i
def isSlice : Expr → Bool
  | .Slice .. => true
  | _ => false
/-- targets: names and tuples of them; the slots -/
def cT (N : List Str) (fnb : Str → Bool) (sc : Scope) : Nat → Expr → Option (I × List Nat)
  | 0, _ => none
  | n + 1, .Name x _ => do let i ← ixN? N x; if locB fnb sc x && okN x then some (.tnm i, [i]) else none
  | n + 1, .Tuple es _ _ => (go N fnb sc n es).map fun p => (.ttp p.1, p.2)
  | _, _ => none
where go (N : List Str) (fnb : Str → Bool) (sc : Scope) (n : Nat) : List Expr → Option (I × List Nat)
  | [] => some (.nil, [])
  | e :: r => do let a ← cT N fnb sc n e; let b ← go N fnb sc n r; some (.cons a.1 b.1, a.2 ++ b.2)
def isTup : Expr → Bool
  | .Tuple .. => true
  | _ => false
def tyNames : List Str := ["int", "bool", "tuple", "list", "str", "dict"]
def tysG (sc : Scope) : List Expr → Option (List Str)
  | [] => some []
  | .Name t _ :: r => if glB sc t && tyNames.contains t then (tysG sc r).map (t :: ·) else none
  | _ :: _ => none

/-- a built-in that only looks at a slot -/
def pkN : List Str := ["len", "sum", "all", "any", "repr"]
def pkI (f : Str) (i : I) : I := match i with
  | .cons (.var j) .nil => if pkN.contains f then .pkb f j else .blt f i
  | _ => .blt f i
/-- range's one argument -/
def rgArg (sc : Scope) : Expr → Option Expr
  | .Call (.Name r _) [b] [] _ => if r = "range" && glB sc r then some b else none
  | _ => none
/-- zip's one starred argument -/
def zsArg (sc : Scope) : Expr → Option Expr
  | .Call (.Name r _) [.Starred b _] [] _ => if r = "zip" && glB sc r then some b else none
  | _ => none
/-- the keywords' names -/
def kwN : List Keyword → Option (List Str)
  | [] => some []
  | ⟨some x, _, _⟩ :: r => (kwN r).map (x :: ·)
  | _ :: _ => none
def kwV : List Keyword → List Expr
  | [] => []
  | ⟨_, e, _⟩ :: r => e :: kwV r
def pmOf (kw : List (Str × List Str × List Nat)) (f : Str) (ks : List Str) : Option (List Nat) := (kw.find? fun q => q.1 == f && q.2.1 == ks).map (·.2.2)
/-- expressions (none: not served) -/
def cE (c : Cc) : Nat → (Str → Bool) → Scope → Expr → Option I
  | 0, _, _, _ => none
  | n + 1, fb, sc, e => match e with
    | .Constant (.int i) _ _ => some (.int i)
    | .Constant (.str x) _ _ => some (.str x)
    | .Constant (.bool b) _ _ => some (.bl b)
    | .Constant .none _ _ => some .non
    | .Name x _ => match ixN? c.N x with
      | some i => if visB sc x then some (.var i) else none
      | none => if glB sc x && c.cons.contains x then some (.con x) else none
    | .BinOp a op b _ => do let x ← cE c n fb sc a; let y ← cE c n fb sc b; some (.bin op x y)
    | .UnaryOp .Not a _ => do let x ← cE c n fb sc a; some (.inot x)
    | .UnaryOp .USub a _ => do let x ← cE c n fb sc a; some (.neg x)
    | .BoolOp op vs _ => match vs with
      | a :: b :: r => boG op (cE c n fb sc) (a :: b :: r)
      | _ => none
    | .IfExp t a b _ => do let x ← cE c n fb sc t; let y ← cE c n fb sc a; let z ← cE c n fb sc b; some (.ite x y z)
    | .Compare a [op] [b] _ => if behindInMarks op b then none else do let x ← cE c n fb sc a; let y ← cE c n fb sc b; some (.cmp op x y)
    | .Compare a [op, op'] [b, d] _ => if lastMarks [op, op'] [b, d] then none else do let x ← cE c n fb sc a; let y ← cE c n fb sc b; let z ← cE c n fb sc d; some (.cmp2 op op' x y z)
    | .Tuple es _ _ => (lsG (cE c n fb sc) es).map .tup
    | .List es _ => (lsG (cE c n fb sc) es).map .lst
    | .Call (.Name f _) (a :: as) [] _ =>
      if glB sc f then
        match c.fns.lookup f with
        | some ps => if ps.length = (a :: as).length then (lsG (cE c n fb sc) (a :: as)).map fun i => .call f i [] else none
        | none =>
          if f = "isinstance" then match as with
            | [.Name t _] => if glB sc t && tyNames.contains t then (cE c n fb sc a).map fun i => .isi i [t] else none
            | [.Tuple ts _ _] => (tysG sc ts).bind fun l => if l.length ≤ 100 then (cE c n fb sc a).map fun i => .isi i l else none
            | _ => none
          else if f = "list" && (rgArg sc a).isSome && as.isEmpty then (rgArg sc a).bind fun b => (cE c n fb sc b).map .lrg
          else if f = "tuple" && (zsArg sc a).isSome && as.isEmpty then (zsArg sc a).bind fun b => (cE c n fb sc b).map .tzp
          else if (bltV f).isSome && (bltNames.contains f || (f = "gcd" && c.gcd)) then (lsG (cE c n fb sc) (a :: as)).map (pkI f)
          else none
      else none
    | .Call (.Name f _) [] (q :: qs) _ =>
      if glB sc f then do
        let ks ← kwN (q :: qs)
        let pm ← pmOf c.kw f ks
        if pm.isEmpty then none else (lsG (cE c n fb sc) (kwV (q :: qs))).map fun i => .call f i pm
      else none
    | .Subscript a (.Slice none none (some (.UnaryOp .USub (.Constant (.int 1) _ _) _)) _) _ => (cE c n fb sc a).map .rev
    | .Subscript a (.Slice lo hi none _) _ => do let x ← cE c n fb sc a; let y ← optG (cE c n fb sc) lo; let z ← optG (cE c n fb sc) hi; some (.slc x y z)
    | .Subscript a b _ => if isSlice b then none else do let x ← cE c n fb sc a; let y ← cE c n fb sc b; some (.idx x y)
    | .ListComp elt [⟨tg, iter, ifs, 0⟩] scope _ => do
      let it ← cI (cE c n fb sc) (isTup tg) sc iter
      let fb' := fun x => scope.names.lookup x == some .cell
      let (t, vs) ← cT c.N fb' (relS scope sc) 20 tg
      let own := vs.map fun i => (c.N.getD i (⟨#[]⟩ : Str), i)
      if blkC c.N sc scope own then do
        let k ← match ifs with | [] => some (.bl true) | [d] => cE c n fb' (relS scope sc) d | _ => none
        let x ← cE c n fb' (relS scope sc) elt
        some (.lc x t it k vs)
      else none
    | _ => none
where cI (f : Expr → Option I) (tup : Bool) (sc : Scope) : Expr → Option I
  | .Call (.Name x p) as [] q =>
    if x = "range" && glB sc x then match as with
      | [a] => (f a).map .irg
      | [a, b] => do let x ← f a; let y ← f b; some (.irg2 x y)
      | _ => none
    else if x = "enumerate" && glB sc x then match as with
      | [a] => if tup then (f a).map .ien else none
      | _ => none
    else if x = "zip" && glB sc x then match as with
      | [a, b] => if tup then do let x ← f a; let y ← f b; some (.izp x y) else none
      | _ => none
    else (f (.Call (.Name x p) as [] q)).map .iv
  | e => (f e).map .iv
end Dx

namespace Dx
open PySem PySem.Spec PyProof.Rows L2
/-! ## Arguments -/
def Bs.push (B : Bs) (p : Addr) (xs : List V) : Bs := { B with pend := (p, xs) :: B.pend }
def ArR (K : PySem.W.Frag) (Z H : Hp) (σ : L2.St) (ρ : Env1) : Bs → List V → List Ar → Prop
  | _, [], [] => True
  | B, v :: vs, .dat d :: as => Dv K Z v d ∧ ArR K Z H σ ρ B vs as
  | B, v :: vs, .ref i :: as => σ[i]? = some (some v) ∧ ArR K Z H σ ρ B vs as
  | B, v :: vs, .frs ds :: as => ∃ p xs, v = .ref p ∧ H p = some (.lst xs) ∧ Z p = none ∧ B.H p = none ∧ (∀ q ∈ B.pend, q.1 ≠ p) ∧ DvAll K Z xs ds ∧
      (∀ (i : Nat) (es : List PyData), ρ[i]? = some (some (.own es)) → σ[i]? ≠ some (some (.ref p))) ∧ ArR K Z H σ ρ (B.push p xs) vs as
  | _, _, _ => False
def tDA (K : PySem.W.Frag) (pn : List Nat) (ks : List Bool) (f : List Bool → Env1 → Option (List Ar × Env1)) : TA := fun σ H Q =>
  ∃ B Z ρ as ρ', pnOf B = pn ∧ Rl K B Z H σ ρ ∧ f ks ρ = some (as, ρ') ∧ ∀ vs H' Z', Rl K B Z' H' σ ρ' → Same Z Z' → ArR K Z' H' σ ρ' B vs as → Q vs H'
def DA (X : Cx) (pn : List Nat) (es : List Expr) (f : List Bool → Env1 → Option (List Ar × Env1)) : Prop := ∀ ks, PA X es (tDA X.K pn ks f)
section
variable {K : PySem.W.Frag} {B : Bs} {Z Z' H H' : Hp} {σ : L2.St} {ρ ρ' : Env1}
theorem Rl.push (r : Rl K B Z H σ ρ) {p : Addr} {xs : List V} (h1 : H p = some (.lst xs)) (h2 : Z p = none) (h3 : ∀ (i : Nat) (es : List PyData), ρ[i]? = some (some (.own es)) → σ[i]? ≠ some (some (.ref p))) : Rl K (B.push p xs) Z H σ ρ :=
  ⟨r.len, r.bz, r.zh, r.zn, r.kp, r.dat, r.own, r.apart, r.pin, fun q hq => by
    rcases List.mem_cons.mp hq with e | e
    · rw [e]; exact ⟨h1, h2, h3⟩
    · exact r.pd q e⟩
theorem Rl.pop {p : Addr} {xs : List V} (r : Rl K (B.push p xs) Z H σ ρ) : Rl K B Z H σ ρ ∧ H p = some (.lst xs) ∧ Z p = none ∧ ∀ (i : Nat) (es : List PyData), ρ[i]? = some (some (.own es)) → σ[i]? ≠ some (some (.ref p)) :=
  ⟨⟨r.len, r.bz, r.zh, r.zn, r.kp, r.dat, r.own, r.apart, r.pin, fun q hq => r.pd q (List.mem_cons_of_mem _ hq)⟩, r.pd (p, xs) List.mem_cons_self⟩
theorem ArR.data : ∀ {as : List Ar} {vs : List V} {ds : List PyData} {B : Bs}, ArR K Z H σ ρ B vs as → arsD as = some ds → DvAll K Z vs ds
  | [], [], _, _, _, e => by cases e; exact .nil
  | .dat d :: as, v :: vs, ds, B, h, e => by
    simp only [arsD, arD, Option.bind_eq_bind, Option.bind_some] at e
    cases q : arsD as with
    | none => rw [q] at e; cases e
    | some es =>
      rw [q] at e; cases e
      exact .cons h.1 (ArR.data h.2 q)
  | .frs _ :: _, _, _, _, _, e => by cases e
  | .ref _ :: _, _, _, _, _, e => by cases e
  | [], _ :: _, _, _, h, _ => h.elim
  | .dat _ :: _, [], _, _, h, _ => h.elim
end
section
variable {X : Cx} {pn : List Nat}
theorem da_nil {f : List Bool → Env1 → Option (List Ar × Env1)} (hf : ∀ ks ρ, f ks ρ = some ([], ρ)) : DA X pn [] f := fun ks => PA.imp pa_nil fun σ H Q ⟨B, Z, ρ, as, ρ', hp, rl, e, q⟩ => by
  rw [hf] at e; cases e
  exact q [] H Z rl (Same.refl Z) True.intro
/-- one more argument ahead; e is a name's slot i where var is some i -/
theorem da_cons {e : Expr} {es : List Expr} {fe : Env1 → Option (R × Env1)} {fr f : List Bool → Env1 → Option (List Ar × Env1)} {var : Option Nat} (he : DE X pn e fe) (hr : DA X pn es fr)
    (hv : ∀ i, var = some i → PE X e (tVar i)) (hs : starEach (e :: es) X.env = (false, eval e X.env) :: starEach es X.env)
    (hf : ∀ ks ρ, f ks ρ = (do let (x, ρ1) ← argG fe var ks ρ; let (xs, ρ2) ← fr ks.tail ρ1; some (x :: xs, ρ2))) : DA X pn (e :: es) f := by
  intro ks
  by_cases hk : ∃ i r, var = some i ∧ ks = true :: r
  · obtain ⟨i, r, hi, hk⟩ := hk
    subst hi hk
    refine PA.imp (pa_cons (hv i rfl) (hr r) hs) fun σ H Q ⟨B, Z, ρ, as, ρ', hp, rl, e1, q⟩ => ?_
    rw [hf] at e1
    simp only [argG] at e1
    cases ho : getO ρ i with
    | none => rw [ho] at e1; cases e1
    | some ds =>
      rw [ho] at e1
      simp only [Option.map_some, Option.bind_eq_bind, Option.bind_some, List.tail_cons] at e1
      cases hx : fr r ρ with
      | none => rw [hx] at e1; cases e1
      | some p =>
        obtain ⟨xs, ρ2⟩ := p
        rw [hx] at e1; cases e1
        have ho' : ρ[i]? = some (some (.own ds)) := by
          unfold getO at ho
          split at ho
          · rename_i h; cases ho; exact h
          · cases ho
        obtain ⟨p, ys, h1, _⟩ := rl.own i ds ho'
        refine ⟨.ref p, h1, B, Z, ρ, xs, _, hp, rl, hx, fun vs H' Z' rl' sm ar => ?_⟩
        exact q (.ref p :: vs) H' Z' rl' sm ⟨h1, ar⟩
  · refine PA.imp (pa_cons he (hr ks.tail) hs) fun σ H Q ⟨B, Z, ρ, as, ρ', hp, rl, e1, q⟩ => ?_
    rw [hf] at e1
    cases hx : fe ρ with
    | none =>
      exfalso
      unfold argG at e1
      split at e1
      · exact hk ⟨_, _, rfl, rfl⟩
      · rw [hx] at e1; cases e1
      · rw [hx] at e1; cases e1
    | some p =>
      obtain ⟨x, ρ1⟩ := p
      -- data or a new list
      have way : argG fe var ks ρ = some (.dat x.d, ρ1) ∨ ∃ ds, x = .frs ds ∧ argG fe var ks ρ = some (.frs ds, ρ1) := by
        unfold argG
        split
        · exact absurd ⟨_, _, rfl, rfl⟩ hk
        · rw [hx]
          cases x with
          | dat d => exact .inl rfl
          | frs ds => exact .inr ⟨ds, rfl, rfl⟩
        · rw [hx]; exact .inl rfl
      rcases way with way | ⟨ds, hd, way⟩
      · rw [way] at e1
        simp only [Option.bind_eq_bind, Option.bind_some] at e1
        cases hy : fr ks.tail ρ1 with
        | none => rw [hy] at e1; cases e1
        | some p2 =>
          obtain ⟨xs, ρ2⟩ := p2
          rw [hy] at e1; cases e1
          refine tD_d hp rl hx fun v H1 Z1 rl1 sm1 dv => ?_
          refine ⟨B, Z1, ρ1, xs, _, hp, rl1, hy, fun vs H2 Z2 rl2 sm2 ar => ?_⟩
          exact q (v :: vs) H2 Z2 rl2 (sm1.trans sm2) ⟨dv.up sm2, ar⟩
      · subst hd
        rw [way] at e1
        simp only [Option.bind_eq_bind, Option.bind_some] at e1
        cases hy : fr ks.tail ρ1 with
        | none => rw [hy] at e1; cases e1
        | some p2 =>
          obtain ⟨xs, ρ2⟩ := p2
          rw [hy] at e1; cases e1
          refine tD_r hp rl hx fun v H1 Z1 rl1 sm1 rr => ?_
          obtain ⟨p, ys, rfl, f1, f2, f3, f4, f5, f6⟩ := rr
          refine ⟨B.push p ys, Z1, ρ1, xs, _, hp, rl1.push f1 f2 f6, hy, fun vs H2 Z2 rl2 sm2 ar => ?_⟩
          obtain ⟨rl3, g1, g2, g3⟩ := rl2.pop
          exact q (.ref p :: vs) H2 Z2 rl3 (sm1.trans sm2) ⟨p, ys, rfl, g1, g2, f3, f4, f5.up sm2, g3, ar⟩
end
end Dx

namespace Dx
open PySem PySem.Spec PyProof.Rows L2
/-! ## Calls -/
/-- the caller's slots that are handed over, as the callee's pins -/
def pinsF : List V → List Sl → Nat → List (Nat × Addr)
  | .ref p :: vs, .own _ :: ss, n => (n, p) :: pinsF vs ss (n + 1)
  | _ :: vs, _ :: ss, n => pinsF vs ss (n + 1)
  | _, _, _ => []
/-- what stands of the handed values: data, or a list at an address that is a slot's own or new -/
inductive Hn (K : PySem.W.Frag) (Z H : Hp) : List V → List Sl → List Addr → Prop
  | nil : Hn K Z H [] [] []
  | dat {v : V} {d : PyData} {vs : List V} {ss : List Sl} {ps : List Addr} : Dv K Z v d → Hn K Z H vs ss ps → Hn K Z H (v :: vs) (.dat d :: ss) ps
  | own {p : Addr} {xs : List V} {ds : List PyData} {vs : List V} {ss : List Sl} {ps : List Addr} : H p = some (.lst xs) → Z p = none → DvAll K Z xs ds → p ∉ ps → Hn K Z H vs ss ps → Hn K Z H (.ref p :: vs) (.own ds :: ss) (p :: ps)
section
variable {K : PySem.W.Frag} {B : Bs} {Z Z' H H' : Hp} {σ : L2.St} {ρ ρ' : Env1}
theorem Hn.len : ∀ {vs : List V} {ss : List Sl} {ps : List Addr}, Hn K Z H vs ss ps → vs.length = ss.length
  | _, _, _, .nil => rfl
  | _, _, _, .dat _ h => by simp [h.len]
  | _, _, _, .own _ _ _ _ h => by simp [h.len]
theorem Hn.datAt : ∀ {vs : List V} {ss : List Sl} {ps : List Addr} {i : Nat} {d : PyData}, Hn K Z H vs ss ps → ss[i]? = some (.dat d) → ∃ v, vs[i]? = some v ∧ Dv K Z v d
  | _, _, _, 0, d, .dat h _, e => by cases e; exact ⟨_, rfl, h⟩
  | _, _, _, i + 1, d, .dat _ t, e => by
    obtain ⟨v, h1, h2⟩ := Hn.datAt (i := i) (d := d) t (by simpa using e)
    exact ⟨v, by simpa using h1, h2⟩
  | _, _, _, 0, d, .own _ _ _ _ _, e => by cases e
  | _, _, _, i + 1, d, .own _ _ _ _ t, e => by
    obtain ⟨v, h1, h2⟩ := Hn.datAt (i := i) (d := d) t (by simpa using e)
    exact ⟨v, by simpa using h1, h2⟩
  | _, _, _, i, d, .nil, e => by simp at e
theorem Hn.ownAt : ∀ {vs : List V} {ss : List Sl} {ps : List Addr} {i : Nat} {ds : List PyData} (n : Nat), Hn K Z H vs ss ps → ss[i]? = some (.own ds) → ∃ p xs, vs[i]? = some (.ref p) ∧ H p = some (.lst xs) ∧ Z p = none ∧ DvAll K Z xs ds ∧ p ∈ ps ∧ (n + i, p) ∈ pinsF vs ss n
  | _, _, _, i, d, n, .nil, e => by simp at e
  | _, _, _, 0, d, n, .dat h _, e => by cases e
  | _, _, _, 0, d, n, .own a b c f t, e => by cases e; exact ⟨_, _, rfl, a, b, c, List.mem_cons_self, by unfold pinsF; exact List.mem_cons_self⟩
  | _, _, _, i + 1, d, n, .dat (v := v) _ t, e => by
    obtain ⟨p, xs, h1, h2, h3, h4, h5, h6⟩ := Hn.ownAt (i := i) (ds := d) (n + 1) t (by simpa using e)
    refine ⟨p, xs, by simpa using h1, h2, h3, h4, h5, ?_⟩
    have e1 : n + (i + 1) = n + 1 + i := by omega
    rw [e1]
    cases v <;> simpa [pinsF] using h6
  | _, _, _, i + 1, d, n, .own _ _ _ _ t, e => by
    obtain ⟨p, xs, h1, h2, h3, h4, h5, h6⟩ := Hn.ownAt (i := i) (ds := d) (n + 1) t (by simpa using e)
    refine ⟨p, xs, by simpa using h1, h2, h3, h4, List.mem_cons_of_mem _ h5, ?_⟩
    have e1 : n + (i + 1) = n + 1 + i := by omega
    rw [e1]
    unfold pinsF
    exact List.mem_cons_of_mem _ h6
theorem Hn.apart {vs : List V} {ss : List Sl} {ps : List Addr} (h : Hn K Z H vs ss ps) : ∀ {i j : Nat} {ds es : List PyData} {p : Addr}, ss[i]? = some (.own ds) → ss[j]? = some (.own es) → vs[i]? = some (.ref p) → vs[j]? = some (.ref p) → i = j := by
  induction h with
  | nil => intro i j ds es p e; simp at e
  | @dat v d vs ss ps _ t ih =>
    intro i j ds es p h1 h2 h3 h4
    cases i with
    | zero => cases h1
    | succ i =>
      cases j with
      | zero => cases h2
      | succ j =>
        have e : i = j := ih (i := i) (j := j) (by simpa using h1) (by simpa using h2) (by simpa using h3) (by simpa using h4)
        omega
  | @own p0 xs ds0 vs ss ps a b c f t ih =>
    intro i j ds es p h1 h2 h3 h4
    cases i with
    | zero =>
      cases j with
      | zero => rfl
      | succ j =>
        cases h3
        have h4' : vs[j]? = some (.ref p0) := by simpa using h4
        obtain ⟨q, xs, g1, _, _, _, g5, _⟩ := t.ownAt 0 (i := j) (by simpa using h2)
        rw [h4'] at g1; cases g1; exact absurd g5 f
    | succ i =>
      cases j with
      | zero =>
        cases h4
        have h3' : vs[i]? = some (.ref p0) := by simpa using h3
        obtain ⟨q, xs, g1, _, _, _, g5, _⟩ := t.ownAt 0 (i := i) (by simpa using h1)
        rw [h3'] at g1; cases g1; exact absurd g5 f
      | succ j =>
        have e : i = j := ih (i := i) (j := j) (by simpa using h1) (by simpa using h2) (by simpa using h3) (by simpa using h4)
        omega
theorem pinsF_mem {vs : List V} {ss : List Sl} {ps : List Addr} (h : Hn K Z H vs ss ps) : ∀ {n : Nat} {q : Nat × Addr}, q ∈ pinsF vs ss n → ∃ i, q.1 = n + i ∧ vs[i]? = some (.ref q.2) ∧ (∃ ds, ss[i]? = some (.own ds)) ∧ q.2 ∈ ps := by
  induction h with
  | nil => intro n q h; simp [pinsF] at h
  | @dat v d vs ss ps _ t ih =>
    intro n q h
    have h' : q ∈ pinsF vs ss (n + 1) := by cases v <;> simpa [pinsF] using h
    obtain ⟨i, h1, h2, ⟨ds, h3⟩, h4⟩ := ih h'
    exact ⟨i + 1, by omega, by simpa using h2, ⟨ds, by simpa using h3⟩, h4⟩
  | @own p0 xs ds0 vs ss ps a b c f t ih =>
    intro n q h
    unfold pinsF at h
    rcases List.mem_cons.mp h with e | h
    · subst e; exact ⟨0, rfl, rfl, ⟨_, rfl⟩, List.mem_cons_self⟩
    · obtain ⟨i, h1, h2, ⟨ds, h3⟩, h4⟩ := ih h
      exact ⟨i + 1, by omega, by simpa using h2, ⟨ds, by simpa using h3⟩, List.mem_cons_of_mem _ h4⟩
theorem pinsF_fst : ∀ {vs : List V} {ss : List Sl} {ps : List Addr} {n : Nat}, Hn K Z H vs ss ps → (pinsF vs ss n).map (·.1) = ownsAt ss n
  | _, _, _, n, .nil => rfl
  | _, _, _, n, .dat (v := v) _ t => by
    have := pinsF_fst (n := n + 1) t
    cases v <;> simpa [pinsF, ownsAt] using this
  | _, _, _, n, .own _ _ _ _ t => by
    have := pinsF_fst (n := n + 1) t
    simpa [pinsF, ownsAt] using this
/-- the callee's view at its entry -/
theorem Hn.entry {vs : List V} {ss : List Sl} {ps : List Addr} (h : Hn K Z H vs ss ps) (zh : Same Z H) : Rl K ⟨Z, H, pinsF vs ss 0, []⟩ Z H (vs.map some) (ss.map some) := by
  have gs : ∀ {i : Nat} {s : Sl}, (ss.map some)[i]? = some (some s) → ss[i]? = some s := fun {i s} e => by
    rw [List.getElem?_map] at e
    cases q : ss[i]? with
    | none => rw [q] at e; cases e
    | some t => rw [q] at e; cases e; rfl
  have gv : ∀ {i : Nat} {v : V}, vs[i]? = some v → (vs.map some)[i]? = some (some v) := fun {i v} e => by rw [List.getElem?_map, e]; rfl
  have gv' : ∀ {i : Nat} {v : V}, (vs.map some)[i]? = some (some v) → vs[i]? = some v := fun {i s} e => by
    rw [List.getElem?_map] at e
    cases q : vs[i]? with
    | none => rw [q] at e; cases e
    | some t => rw [q] at e; cases e; rfl
  refine ⟨by simp [h.len], Same.refl Z, zh, fun b o e => .inl e, fun b o e _ => e, fun i d e => ?_, fun i ds e => ?_, fun i j ds es p h1 h2 h3 h4 => h.apart (gs h1) (gs h2) (gv' h3) (gv' h4), fun q hq => ?_, fun q hq => nomatch hq⟩
  · obtain ⟨v, h1, h2⟩ := h.datAt (gs e)
    exact ⟨v, gv h1, h2⟩
  · obtain ⟨p, xs, h1, h2, h3, h4, _, h6⟩ := h.ownAt 0 (gs e)
    exact ⟨p, xs, gv h1, h2, h3, h4, .inl (by simpa using h6)⟩
  · obtain ⟨i, h1, h2, ⟨ds, h3⟩, _⟩ := pinsF_mem h hq
    have e : q.1 = i := by omega
    rw [e]
    exact ⟨gv h2, ds, by rw [List.getElem?_map, h3]; rfl⟩
/-- from evaluated arguments -/
theorem hn_of (rl : Rl K B Z H σ ρ) : ∀ {as : List Ar} {ks : List Bool} {vs : List V} {ss : List Sl} {B' : Bs}, B'.H = B.H → Rl K B' Z H σ ρ → ArR K Z H σ ρ B' vs as → slsOf ρ ks as = some ss → (refs as).Nodup →
    ∃ ps, Hn K Z H vs ss ps ∧ ∀ p ∈ ps, (∃ i ds, i ∈ refs as ∧ ρ[i]? = some (some (.own ds)) ∧ σ[i]? = some (some (.ref p))) ∨ (B.H p = none ∧ (∀ q ∈ B'.pend, q.1 ≠ p) ∧ ∀ (i : Nat) (es : List PyData), ρ[i]? = some (some (.own es)) → σ[i]? ≠ some (some (.ref p)))
  | [], ks, vs, ss, B', hB, rb, ha, hs, hn => by
    cases vs with
    | cons v vs => exact ha.elim
    | nil =>
      cases ks with
      | cons k ks => cases hs
      | nil => cases hs; exact ⟨[], .nil, fun p h => nomatch h⟩
  | a :: as, ks, vs, ss, B', hB, rb, ha, hs, hn => by
    cases ks with
    | nil => cases hs
    | cons k ks =>
    cases vs with
    | nil => cases a <;> exact ha.elim
    | cons v vs =>
    unfold slsOf at hs
    cases hs1 : slOf ρ k a with
    | none => rw [hs1] at hs; cases hs
    | some s =>
    rw [hs1] at hs
    cases hs2 : slsOf ρ ks as with
    | none => rw [hs2] at hs; cases hs
    | some ss' =>
    rw [hs2] at hs
    cases hs
    cases a with
    | dat d =>
      obtain ⟨h1, h2⟩ := ha
      obtain ⟨ps, g1, g2⟩ := hn_of rl hB rb h2 hs2 hn
      cases k with
      | true => cases hs1
      | false => cases hs1; exact ⟨ps, .dat h1 g1, g2⟩
    | frs ds =>
      obtain ⟨p, xs, rfl, f1, f2, f3, f4, f5, f6, f7⟩ := ha
      have hr : B'.push p xs = B'.push p xs := rfl
      obtain ⟨ps, g1, g2⟩ := hn_of rl (B' := B'.push p xs) hB (rb.push f1 f2 f6) f7 hs2 hn
      cases k with
      | false => cases hs1
      | true =>
        cases hs1
        refine ⟨p :: ps, .own f1 f2 f5 (fun hm => ?_) g1, fun q hq => ?_⟩
        · rcases g2 p hm with ⟨i, es, _, a1, a2⟩ | ⟨_, a2, _⟩
          · exact f6 i es a1 a2
          · exact a2 (p, xs) List.mem_cons_self rfl
        · rcases List.mem_cons.mp hq with e | hq
          · subst e; exact .inr ⟨by rw [← hB]; exact f3, f4, f6⟩
          · rcases g2 q hq with g | ⟨a1, a2, a3⟩
            · exact .inl g
            · exact .inr ⟨a1, fun x hx => a2 x (List.mem_cons_of_mem _ hx), a3⟩
    | ref i =>
      obtain ⟨h1, h2⟩ := ha
      have hn2 := List.nodup_cons.mp hn
      obtain ⟨ps, g1, g2⟩ := hn_of rl hB rb h2 hs2 hn2.2
      cases k with
      | false => cases hs1
      | true =>
        have hs1 : (getO ρ i).map Sl.own = some s := hs1
        unfold getO at hs1
        split at hs1
        · rename_i ds ho
          cases hs1
          obtain ⟨p, xs, a1, a2, a3, a4, a5⟩ := rl.own i ds ho
          rw [h1] at a1; cases a1
          refine ⟨p :: ps, .own a2 a3 a4 (fun hm => ?_) g1, fun q hq => ?_⟩
          · rcases g2 p hm with ⟨j, es, b1, b2, b3⟩ | ⟨_, _, b3⟩
            · exact hn2.1 (by rw [rl.apart i j ds es p ho b2 h1 b3]; exact b1)
            · exact b3 i ds ho h1
          · rcases List.mem_cons.mp hq with e | hq
            · subst e; exact .inl ⟨i, ds, List.mem_cons_self, ho, h1⟩
            · rcases g2 q hq with ⟨j, es, b1, b2⟩ | g
              · exact .inl ⟨j, es, List.mem_cons_of_mem _ b1, b2⟩
              · exact .inr g
        · cases hs1
end
end Dx

namespace Dx
open PySem PySem.Spec PyProof.Rows L2
section
variable {K : PySem.W.Frag} {B : Bs} {Z Z' H H' : Hp} {σ : L2.St} {ρ ρ' : Env1}
/-- what putBack leaves -/
theorem putBack_len : ∀ {ρ : Env1} {as : List Ar} {out : List Sl} {ρ' : Env1}, putBack ρ as out = some ρ' → ρ'.length = ρ.length
  | ρ, [], [], ρ', h => by cases h; rfl
  | ρ, .ref i :: as, .own ds :: out, ρ', h => by
    have := putBack_len (ρ := ρ.set i (some (.own ds))) (as := as) (out := out) h
    simpa using this
  | ρ, .ref _ :: as, .dat _ :: out, ρ', h => by cases h
  | ρ, .dat _ :: as, _ :: out, ρ', h => putBack_len (ρ := ρ) (as := as) (out := out) h
  | ρ, .frs _ :: as, _ :: out, ρ', h => putBack_len (ρ := ρ) (as := as) (out := out) h
  | ρ, [], _ :: _, ρ', h => by cases h
  | ρ, .ref _ :: _, [], ρ', h => by cases h
  | ρ, .dat _ :: _, [], ρ', h => by cases h
  | ρ, .frs _ :: _, [], ρ', h => by cases h
theorem putBack_at : ∀ {ρ : Env1} {as : List Ar} {out : List Sl} {ρ' : Env1}, putBack ρ as out = some ρ' → (refs as).Nodup → (∀ i ∈ refs as, i < ρ.length) → ∀ (i : Nat),
    (i ∉ refs as ∧ ρ'[i]? = ρ[i]?) ∨ ∃ (j : Nat) (ds : List PyData), as[j]? = some (.ref i) ∧ out[j]? = some (.own ds) ∧ ρ'[i]? = some (some (.own ds))
  | ρ, [], [], ρ', h, hn, hl, i => by cases h; exact .inl ⟨by simp [refs], rfl⟩
  | ρ, .ref k :: as, .own ds :: out, ρ', h, hn, hl, i => by
    have hn2 := List.nodup_cons.mp hn
    have hl2 : ∀ i ∈ refs as, i < (ρ.set k (some (.own ds))).length := fun i hi => by rw [List.length_set]; exact hl i (List.mem_cons_of_mem _ hi)
    rcases putBack_at (ρ := ρ.set k (some (.own ds))) (as := as) (out := out) h hn2.2 hl2 i with ⟨h1, h2⟩ | ⟨j, es, h1, h2, h3⟩
    · by_cases e : i = k
      · subst e
        exact .inr ⟨0, ds, rfl, rfl, by rw [h2, List.getElem?_set_self (hl i List.mem_cons_self)]⟩
      · refine .inl ⟨fun hm => ?_, by rw [h2, List.getElem?_set_ne (Ne.symm e)]⟩
        rcases List.mem_cons.mp hm with q | q
        · exact e q
        · exact h1 q
    · exact .inr ⟨j + 1, es, by simpa using h1, by simpa using h2, h3⟩
  | ρ, .ref _ :: as, .dat _ :: out, ρ', h, hn, hl, i => by cases h
  | ρ, .dat _ :: as, _ :: out, ρ', h, hn, hl, i => by
    rcases putBack_at (ρ := ρ) (as := as) (out := out) h hn hl i with ⟨h1, h2⟩ | ⟨j, es, h1, h2, h3⟩
    · exact .inl ⟨h1, h2⟩
    · exact .inr ⟨j + 1, es, by simpa using h1, by simpa using h2, h3⟩
  | ρ, .frs _ :: as, _ :: out, ρ', h, hn, hl, i => by
    rcases putBack_at (ρ := ρ) (as := as) (out := out) h hn hl i with ⟨h1, h2⟩ | ⟨j, es, h1, h2, h3⟩
    · exact .inl ⟨h1, h2⟩
    · exact .inr ⟨j + 1, es, by simpa using h1, by simpa using h2, h3⟩
  | ρ, [], _ :: _, ρ', h, _, _, _ => by cases h
  | ρ, .ref _ :: _, [], ρ', h, _, _, _ => by cases h
  | ρ, .dat _ :: _, [], ρ', h, _, _, _ => by cases h
  | ρ, .frs _ :: _, [], ρ', h, _, _, _ => by cases h
theorem ArR.refAt : ∀ {as : List Ar} {vs : List V} {B : Bs} {j i : Nat}, ArR K Z H σ ρ B vs as → as[j]? = some (.ref i) → ∃ v, vs[j]? = some v ∧ σ[i]? = some (some v)
  | [], vs, B, j, i, h, e => by simp at e
  | .dat d :: as, v :: vs, B, 0, i, h, e => by cases e
  | .frs d :: as, v :: vs, B, 0, i, h, e => by cases e
  | .ref k :: as, v :: vs, B, 0, i, h, e => by cases e; exact ⟨v, rfl, h.1⟩
  | .dat d :: as, v :: vs, B, j + 1, i, h, e => by
    obtain ⟨w, h1, h2⟩ := ArR.refAt (j := j) (i := i) h.2 (by simpa using e)
    exact ⟨w, by simpa using h1, h2⟩
  | .ref k :: as, v :: vs, B, j + 1, i, h, e => by
    obtain ⟨w, h1, h2⟩ := ArR.refAt (j := j) (i := i) h.2 (by simpa using e)
    exact ⟨w, by simpa using h1, h2⟩
  | .frs d :: as, v :: vs, B, j + 1, i, h, e => by
    obtain ⟨p, xs, _, _, _, _, _, _, _, h⟩ := h
    obtain ⟨w, h1, h2⟩ := ArR.refAt (j := j) (i := i) h (by simpa using e)
    exact ⟨w, by simpa using h1, h2⟩
  | .dat d :: as, [], B, j, i, h, e => h.elim
  | .ref d :: as, [], B, j, i, h, e => h.elim
  | .frs d :: as, [], B, j, i, h, e => h.elim
theorem mem_refs : ∀ {as : List Ar} {j i : Nat}, as[j]? = some (.ref i) → i ∈ refs as
  | [], j, i, e => by simp at e
  | .dat _ :: as, 0, i, e => by cases e
  | .frs _ :: as, 0, i, e => by cases e
  | .ref k :: as, 0, i, e => by cases e; exact List.mem_cons_self
  | .dat _ :: as, j + 1, i, e => mem_refs (as := as) (j := j) (by simpa using e)
  | .frs _ :: as, j + 1, i, e => mem_refs (as := as) (j := j) (by simpa using e)
  | .ref k :: as, j + 1, i, e => List.mem_cons_of_mem _ (mem_refs (as := as) (j := j) (by simpa using e))
theorem slsOf_ref : ∀ {as : List Ar} {ks : List Bool} {ss : List Sl}, slsOf ρ ks as = some ss → ∀ i ∈ refs as, ∃ ds, ρ[i]? = some (some (.own ds))
  | [], _, _, _, i, h => by simp [refs] at h
  | a :: as, [], ss, e, i, h => by cases e
  | a :: as, k :: ks, ss, e, i, h => by
    unfold slsOf at e
    cases hs1 : slOf ρ k a with
    | none => rw [hs1] at e; cases e
    | some s =>
    rw [hs1] at e
    cases hs2 : slsOf ρ ks as with
    | none => rw [hs2] at e; cases e
    | some ss' =>
    cases a with
    | dat d => exact slsOf_ref hs2 i h
    | frs d => exact slsOf_ref hs2 i h
    | ref k' =>
      rcases List.mem_cons.mp h with q | h
      · subst q
        cases k with
        | false => cases hs1
        | true =>
          have hs1 : (getO ρ i).map Sl.own = some s := hs1
          unfold getO at hs1
          split at hs1
          · exact ⟨_, by assumption⟩
          · cases hs1
      · exact slsOf_ref hs2 i h
/-- behind a call: the caller's view again -/
theorem Hn.back {vs : List V} {ss out : List Sl} {ps : List Addr} {as : List Ar} {ks : List Bool} {r : R} {v : V} (rl : Rl K B Z H σ ρ) (ar : ArR K Z H σ ρ B vs as) (hs : slsOf ρ ks as = some ss) (hn : (refs as).Nodup) (h : Hn K Z H vs ss ps)
    (hps : ∀ p ∈ ps, (∃ i ds, i ∈ refs as ∧ ρ[i]? = some (some (.own ds)) ∧ σ[i]? = some (some (.ref p))) ∨ (B.H p = none ∧ (∀ q ∈ B.pend, q.1 ≠ p) ∧ ∀ (i : Nat) (es : List PyData), ρ[i]? = some (some (.own es)) → σ[i]? ≠ some (some (.ref p))))
    (post : Rl K ⟨Z, H, pinsF vs ss 0, []⟩ Z' H' (vs.map some) (out.map some)) (hp : putBack ρ as out = some ρ') (rr : RR K ⟨Z, H, pinsF vs ss 0, []⟩ Z' H' (vs.map some) (out.map some) v r) : Rl K B Z' H' σ ρ' ∧ RR K B Z' H' σ ρ' v r := by
  have hrl : ∀ i ∈ refs as, i < ρ.length := fun i hi => by
    obtain ⟨ds, e⟩ := slsOf_ref hs i hi
    exact (List.getElem?_eq_some_iff.mp e).1
  have at' := putBack_at hp hn hrl
  have inps : ∀ q ∈ pinsF vs ss 0, q.2 ∈ ps := fun q hq => (pinsF_mem h hq).choose_spec.2.2.2
  have gv' : ∀ {i : Nat} {v : V}, (vs.map some)[i]? = some (some v) → vs[i]? = some v := fun {i s} e => by
    rw [List.getElem?_map] at e
    cases q : vs[i]? with
    | none => rw [q] at e; cases e
    | some t => rw [q] at e; cases e; rfl
  -- own in ρ' was own in ρ
  have was : ∀ {i : Nat} {ds : List PyData}, ρ'[i]? = some (some (.own ds)) → ∃ es, ρ[i]? = some (some (.own es)) := fun {i ds} e => by
    rcases at' i with ⟨_, h2⟩ | ⟨j, es, h1, _, _⟩
    · exact ⟨ds, by rw [← h2]; exact e⟩
    · exact slsOf_ref hs i (mem_refs h1)
  have keep : ∀ b o, H b = some o → b ∉ ps → H' b = some o := fun b o e nb => post.kp b o e fun q hq z => nb (z ▸ inps q hq)
  have nps : ∀ b o, B.H b = some o → (∀ q ∈ B.pins, q.2 ≠ b) → b ∉ ps := fun b o e n hm => by
    rcases hps b hm with ⟨i, ds, _, h1, h2⟩ | ⟨h1, _⟩
    · obtain ⟨p, xs, a1, _, _, _, a5⟩ := rl.own i ds h1
      rw [h2] at a1; cases a1
      rcases a5 with a5 | a5
      · exact n _ a5 rfl
      · rw [e] at a5; cases a5
    · rw [e] at h1; cases h1
  have zn : ∀ b, Z b = none → (∃ o, H b = some o) → Z' b = none := fun b e ⟨o, ho⟩ => by
    cases q : Z' b with
    | none => rfl
    | some u =>
      rcases post.zn b u q with z | z
      · rw [show (⟨Z, H, pinsF vs ss 0, []⟩ : Bs).Z b = Z b from rfl, e] at z; cases z
      · rw [show (⟨Z, H, pinsF vs ss 0, []⟩ : Bs).H b = H b from rfl, ho] at z; cases z
  have R1 : Rl K B Z' H' σ ρ' := by
    refine ⟨by rw [putBack_len hp]; exact rl.len, rl.bz.trans post.bz, post.zh, fun b o e => ?_, fun b o e n => keep b o (rl.kp b o e n) (nps b o e n), fun i d e => ?_, fun i ds e => ?_, fun i j ds es p h1 h2 h3 h4 => ?_, fun q hq => ?_, fun q hq => ?_⟩
    · rcases post.zn b o e with z | z
      · exact rl.zn b o z
      · exact .inr (rl.bfree z)
    · rcases at' i with ⟨_, h2⟩ | ⟨j, es, _, _, h3⟩
      · rw [h2] at e
        obtain ⟨v, a1, a2⟩ := rl.dat i d e
        exact ⟨v, a1, a2.up post.bz⟩
      · rw [h3] at e; cases e
    · rcases at' i with ⟨hni, h2⟩ | ⟨j, es, h1, h2, h3⟩
      · rw [h2] at e
        obtain ⟨p, xs, a1, a2, a3, a4, a5⟩ := rl.own i ds e
        refine ⟨p, xs, a1, keep p _ a2 (fun hm => ?_), zn p a3 ⟨_, a2⟩, a4.up post.bz, a5⟩
        rcases hps p hm with ⟨k, es, b1, b2, b3⟩ | ⟨_, _, b3⟩
        · exact hni (by rw [rl.apart i k ds es p e b2 a1 b3]; exact b1)
        · exact b3 i ds e a1
      · rw [h3] at e; cases e
        obtain ⟨w, b1, b2⟩ := ar.refAt h1
        obtain ⟨p, xs, c1, c2, c3, c4, c5⟩ := post.own j _ (by rw [List.getElem?_map, h2]; rfl)
        have c1 := gv' c1
        rw [b1] at c1; cases c1
        obtain ⟨ds0, d0⟩ := slsOf_ref hs i (mem_refs h1)
        obtain ⟨p', xs', e1, e2, e3, e4, e5⟩ := rl.own i ds0 d0
        rw [b2] at e1; cases e1
        exact ⟨p, xs, b2, c2, c3, c4, e5⟩
    · obtain ⟨_, h1⟩ := was h1
      obtain ⟨_, h2⟩ := was h2
      exact rl.apart i j _ _ p h1 h2 h3 h4
    · obtain ⟨a1, ds, a2⟩ := rl.pin q hq
      refine ⟨a1, ?_⟩
      rcases at' q.1 with ⟨_, h2⟩ | ⟨j, es, _, _, h3⟩
      · exact ⟨ds, by rw [h2]; exact a2⟩
      · exact ⟨es, h3⟩
    · obtain ⟨a1, a2, a3⟩ := rl.pd q hq
      refine ⟨keep _ _ a1 (fun hm => ?_), zn _ a2 ⟨_, a1⟩, fun i ds e => ?_⟩
      · rcases hps q.1 hm with ⟨k, es, b1, b2, b3⟩ | ⟨_, b2, _⟩
        · exact a3 k es b2 b3
        · exact b2 q hq rfl
      · obtain ⟨es, e⟩ := was e
        exact a3 i es e
  refine ⟨R1, ?_⟩
  cases r with
  | dat d => exact rr
  | frs ds =>
    obtain ⟨p, xs, rfl, f1, f2, f3, f4, f5, f6⟩ := rr
    refine ⟨p, xs, rfl, f1, f2, rl.bfree f3, rl.npend f3, f5, fun i es e z => ?_⟩
    obtain ⟨es', e⟩ := was e
    obtain ⟨p', xs', e1, e2, _⟩ := rl.own i es' e
    rw [z] at e1; cases e1
    rw [show H p = none from f3] at e2; cases e2
end
end Dx

namespace Dx
open PySem PySem.Spec PyProof.Rows L2
section
variable {G : Gx} {N : List Str} {k : Nat} {X : Cx} {pn : List Nat}
theorem noStar {f : Expr → Option I} {e : Expr} {i : I} (hf : ∀ v p, f (.Starred v p) = none) (h : f e = some i) (es : List Expr) (env : Env) : starEach (e :: es) env = (false, eval e env) :: starEach es env := by
  cases e <;> first
    | rfl
    | (rw [hf] at h; cases h)
theorem noStars {f : Expr → Option I} (hf : ∀ v p, f (.Starred v p) = none) (pos : Pos) (env : Env) : ∀ (es : List Expr) (i : I), lsG f es = some i → (backTo pos (starEach es env)).any (·.1) = false
  | [], i, _ => rfl
  | e :: es, i, h => by
    unfold lsG at h
    cases h1 : f e with
    | none => rw [h1] at h; cases h
    | some a =>
      rw [h1] at h
      cases h2 : lsG f es with
      | none => rw [h2] at h; cases h
      | some b =>
        rw [noStar hf h1 es env]
        have := noStars hf pos env es b h2
        show (false || (backTo pos (starEach es env)).any (·.1)) = false
        rw [this]; rfl
/-- a def of the module called by places -/
theorem run_ct {f : Addr} {fd : FuncData} {ps : List Str} {g : Gf} {pins : List (Addr × Obj)} {σ : L2.St} {H : Hp} {s : Shared} {Q : VK} {us : List Value} {vs : List V}
    (F : Ct X.prog X.w X.K X.mg X.base k f fd ps (spR X.K g)) (hr : GRoom k X.A) (hb : Binds X.K fd ps []) (hl : ps.length = g.kinds.length) (I : Inv X pins σ H s) (r : Vals vs us) (h : spR X.K g vs H Q E0) :
    wpAny (model X.prog X.w) X.A (PySem.call (.ref f) us) (EP X pins σ Q) X.xe s := by
  have e1 : us.length = ps.length := by rw [← r.length, hl]; exact h.1
  have bt : BindsTo s fd ⟨us, []⟩ (ps.zip us) := by
    have z := hb s us I.kIn (by simpa using e1)
    rw [List.append_nil] at z
    exact z
  refine wpAny_call (codeAny_mono (F.run X.A X.stack s H ⟨us, []⟩ us vs Q hr I.env0 bt r h) fun r' s' hq => ?_)
  cases r' with
  | error e => exact False.elim hq
  | ok fl =>
    cases fl with
    | ret u => exact I.after hq
    | next => exact False.elim hq
    | brk => exact False.elim hq
    | cont => exact False.elim hq
theorem pe_ct {f : Addr} {fd : FuncData} {ps : List Str} {g : Gf} {x : Str} {p pos : Pos} {e : Expr} {es : List Expr} {t : TA} (F : Ct X.prog X.w X.K X.mg X.base k f fd ps (spR X.K g)) (hr : GRoom k X.A) (hl : ps.length = g.kinds.length) (hb : Binds X.K fd ps [])
    (hg : Gl X x) (hm : X.mg x = some (.ref f)) (hk : PySem.W.keepIn X.K (.ref f) = true) (ha : PA X (e :: es) t) (hd : (x == ("__debug__" : Str)) = false) (he : starEach (e :: es) X.env = (false, eval e X.env) :: starEach es X.env) (hpl : (backTo pos (starEach es X.env)).any (·.1) = false) :
    PE X (.Call (.Name x p) (e :: es) [] pos) (fun σ H Q => t σ H fun vs H1 => spR X.K g vs H1 Q E0) := by
  refine ⟨fun pins s σ H Q I h => ?_⟩
  refine wpAny_Call_Name_kw (ld_glob I hg hm ?_ hd)
  exact PySem.W.callWith_K (h₀ := X.base) I.ok.mod.kin hk (thn (ha.run pos pins s σ H _ I h) fun us s1 ⟨vs, H1, I1, r, q⟩ => ⟨I1.kIn, run_ct F hr hb hl I1 r q⟩) he hpl
theorem de_call (gd : Gd G N k X) {x : Str} {g : Gf} (hgf : G.fns x = some g) {p pos : Pos} {e : Expr} {es : List Expr} {fa : List Bool → Env1 → Option (List Ar × Env1)} {fe : Env1 → Option (R × Env1)} (ha : DA X pn (e :: es) fa)
    (hg : Gl X x) (hd : (x == ("__debug__" : Str)) = false) (he : starEach (e :: es) X.env = (false, eval e X.env) :: starEach es X.env) (hpl : (backTo pos (starEach es X.env)).any (·.1) = false)
    (hf : ∀ ρ, fe ρ = (do
      let (xs, ρ1) ← fa g.kinds ρ
      if (refs xs).Nodup then do
        let ss ← slsOf ρ1 g.kinds xs
        let (r, out) ← g.f ss
        let ρ2 ← putBack ρ1 xs out
        some (r, ρ2)
      else none)) : DE X pn (.Call (.Name x p) (e :: es) [] pos) fe := by
  obtain ⟨a, fd, ps, h1, h2, h3, h4, h5, _⟩ := gd.fns x g hgf
  refine PE.imp (pe_ct h5 gd.room h3 h4 hg h1 h2 (ha g.kinds) hd he hpl) fun σ H Q ⟨B, Z, ρ, r, ρ', hp, rl, e1, q⟩ => ?_
  rw [hf] at e1
  cases c1 : fa g.kinds ρ with
  | none => rw [c1] at e1; cases e1
  | some w =>
  obtain ⟨xs, ρ1⟩ := w
  rw [c1] at e1
  simp only [Option.bind_eq_bind, Option.bind_some] at e1
  split at e1
  case isFalse => cases e1
  case isTrue hn =>
  cases c2 : slsOf ρ1 g.kinds xs with
  | none => rw [c2] at e1; cases e1
  | some ss =>
  rw [c2] at e1
  simp only [Option.bind_some] at e1
  cases c3 : g.f ss with
  | none => rw [c3] at e1; cases e1
  | some w =>
  obtain ⟨r1, out⟩ := w
  rw [c3] at e1
  simp only [Option.bind_some] at e1
  cases c4 : putBack ρ1 xs out with
  | none => rw [c4] at e1; cases e1
  | some ρ2 =>
  rw [c4] at e1
  cases e1
  refine ⟨B, Z, ρ, xs, ρ1, hp, rl, c1, fun vs H1 Z1 rl1 sm1 ar => ?_⟩
  obtain ⟨pads, hh, hps⟩ := hn_of rl1 rfl rl1 ar c2 hn
  have sl : ∀ {ks : List Bool} {as : List Ar} {ss : List Sl}, slsOf ρ1 ks as = some ss → ss.length = ks.length := fun {ks} => by
    induction ks with
    | nil => intro as ss h; cases as <;> cases h; rfl
    | cons k ks ih =>
      intro as ss h
      cases as with
      | nil => cases h
      | cons a as =>
        unfold slsOf at h
        cases q1 : slOf ρ1 k a with
        | none => rw [q1] at h; cases h
        | some s =>
          rw [q1] at h
          cases q2 : slsOf ρ1 ks as with
          | none => rw [q2] at h; cases h
          | some t => rw [q2] at h; cases h; simp [ih q2]
  refine ⟨by rw [hh.len, sl c2], ⟨Z1, H1, pinsF vs ss 0, []⟩, ss, out, _, rfl, rfl, pinsF_fst hh, hh.entry rl1.zh, c3, fun v H2 Z2 post sm2 rr => ?_⟩
  obtain ⟨b1, b2⟩ := Hn.back rl1 ar c2 hn hh hps post c4 rr
  exact q v H2 Z2 b1 (sm1.trans sm2) b2
/-- all-data arguments -/
theorem hn_dat {K : PySem.W.Frag} {Z H : Hp} : ∀ {vs : List V} {ds : List PyData}, DvAll K Z vs ds → Hn K Z H vs (ds.map .dat) []
  | _, _, .nil => .nil
  | _, _, .cons a t => .dat a (hn_dat t)
theorem arR_dat {K : PySem.W.Frag} {Z H : Hp} {σ : L2.St} {ρ : Env1} : ∀ {vs : List V} {ds : List PyData} (B : Bs), DvAll K Z vs ds → ArR K Z H σ ρ B vs (ds.map .dat)
  | _, _, _, .nil => True.intro
  | _, _, B, .cons a t => ⟨a, arR_dat B t⟩
theorem sls_dat {ρ : Env1} : ∀ (ds : List PyData), slsOf ρ (ds.map fun _ => false) (ds.map .dat) = some (ds.map .dat)
  | [] => rfl
  | d :: ds => by
    show (do let s ← slOf ρ false (.dat d); let t ← slsOf ρ (ds.map fun _ => false) (ds.map .dat); some (s :: t)) = _
    rw [sls_dat ds]; rfl
theorem refs_dat : ∀ (ds : List PyData), refs (ds.map .dat) = []
  | [] => rfl
  | d :: ds => refs_dat ds
theorem back_dat {ρ : Env1} : ∀ (ds : List PyData) (out : List Sl), out.length = ds.length → putBack ρ (ds.map .dat) out = some ρ
  | [], [], _ => rfl
  | [], _ :: _, h => by cases h
  | _ :: _, [], h => by cases h
  | d :: ds, o :: out, h => by
    show putBack ρ (ds.map .dat) out = some ρ
    exact back_dat ds out (Nat.succ.inj h)
theorem own_dat : ∀ (ds : List PyData) (n : Nat), ownsAt (ds.map .dat) n = []
  | [], _ => rfl
  | _ :: ds, n => own_dat ds (n + 1)
theorem pinsF_dat : ∀ (vs : List V) (ds : List PyData) (n : Nat), pinsF vs (ds.map .dat) n = []
  | [], [], _ => rfl
  | [], _ :: _, _ => rfl
  | v :: vs, [], _ => by cases v <;> rfl
  | v :: vs, d :: ds, n => by
    have := pinsF_dat vs ds (n + 1)
    cases v <;> exact this
theorem DvAll.pick {K : PySem.W.Frag} {Z : Hp} {vs : List V} {ds : List PyData} (h : DvAll K Z vs ds) : ∀ {pm : List Nat}, (∀ i ∈ pm, i < ds.length) → DvAll K Z (pm.map fun i => vs.getD i .non) (pm.map fun i => ds.getD i .none)
  | [], _ => .nil
  | i :: pm, hl => by
    have hi := hl i List.mem_cons_self
    obtain ⟨v, h1, h2⟩ := h.get (List.getElem?_eq_getElem hi)
    refine .cons ?_ (DvAll.pick h fun j hj => hl j (List.mem_cons_of_mem _ hj))
    show Dv K Z (vs.getD i .non) (ds.getD i .none)
    rw [List.getD_eq_getElem?_getD, List.getD_eq_getElem?_getD, h1, List.getElem?_eq_getElem hi]
    exact h2
theorem vals_pick {vs : List V} {us : List Value} (h : Vals vs us) : ∀ {pm : List Nat}, (∀ i ∈ pm, i < vs.length) → Vals (pm.map fun i => vs.getD i .non) (pm.map fun i => us.getD i .none)
  | [], _ => .nil
  | i :: pm, hl => by
    refine .cons ?_ (vals_pick h fun j hj => hl j (List.mem_cons_of_mem _ hj))
    have hi := hl i List.mem_cons_self
    have at' : ∀ {vs : List V} {us : List Value} (i : Nat), Vals vs us → i < vs.length → RelV (vs.getD i .non) (us.getD i .none) := by
      intro vs us i h
      induction h generalizing i with
      | nil => intro z; cases z
      | cons a t ih =>
        intro z
        cases i with
        | zero => exact a
        | succ i => exact ih i (Nat.lt_of_succ_lt_succ z)
    exact at' i h hi
theorem kwEach_all (pos : Pos) (env : Env) : ∀ (kws : List Keyword) (ks : List Str), kwN kws = some ks → (backToKw pos (keywordEach kws env)).all (·.1.isSome) = true ∧ (backToKw pos (keywordEach kws env)).filterMap (·.1) = ks ∧ (backToKw pos (keywordEach kws env)).any (·.1.isNone) = false
  | [], ks, h => by cases h; exact ⟨rfl, rfl, rfl⟩
  | ⟨none, e, p⟩ :: r, ks, h => by cases h
  | ⟨some x, e, p⟩ :: r, ks, h => by
    unfold kwN at h
    cases q : kwN r with
    | none => rw [q] at h; cases h
    | some ks' =>
      rw [q] at h; cases h
      obtain ⟨h1, h2, h3⟩ := kwEach_all pos env r ks' q
      refine ⟨?_, ?_, ?_⟩
      · show (true && (backToKw pos (keywordEach r env)).all (·.1.isSome)) = true
        rw [h1]; rfl
      · show x :: (backToKw pos (keywordEach r env)).filterMap (·.1) = x :: ks'
        rw [h2]
      · show (false || (backToKw pos (keywordEach r env)).any (·.1.isNone)) = false
        rw [h3]; rfl
theorem pk_imp {X : Cx} {e : List Keyword} {t t' : TA} (h : PK X e t) (q : ∀ σ H Q, t' σ H Q → t σ H Q) : PK X e t' := ⟨fun pos pins s σ H Q I z => h.run pos pins s σ H Q I (q σ H Q z)⟩
theorem dk_cons {e : Expr} {kpos : Pos} {nm : Option Str} {kws : List Keyword} {fe : Env1 → Option (R × Env1)} {fr f : List Bool → Env1 → Option (List Ar × Env1)} {var : Option Nat} (he : DE X pn e fe) (hr : PK X kws (tDA X.K pn [] fr))
    (hf : ∀ ks ρ, f ks ρ = (do let (x, ρ1) ← argG fe var ks ρ; let (xs, ρ2) ← fr ks.tail ρ1; some (x :: xs, ρ2))) : PK X (⟨nm, e, kpos⟩ :: kws) (tDA X.K pn [] f) := pk_imp (pk_cons he hr) fun σ H Q ⟨B, Z, ρ, as, ρ', hp, rl, e1, q⟩ => by
  rw [hf] at e1
  simp only [argG, Option.bind_eq_bind, List.tail_nil] at e1
  cases hx : fe ρ with
  | none => rw [hx] at e1; cases e1
  | some p =>
  obtain ⟨x, ρ1⟩ := p
  rw [hx] at e1
  simp only [Option.bind_some] at e1
  cases hy : fr [] ρ1 with
  | none => rw [hy] at e1; cases e1
  | some p2 =>
  obtain ⟨xs, ρ2⟩ := p2
  rw [hy] at e1; cases e1
  refine tD_d hp rl hx fun v H1 Z1 rl1 sm1 dv => ?_
  refine ⟨B, Z1, ρ1, xs, _, hp, rl1, hy, fun vs H2 Z2 rl2 sm2 ar => ?_⟩
  exact q (v :: vs) H2 Z2 rl2 (sm1.trans sm2) ⟨dv.up sm2, ar⟩
theorem de_callK (gd : Gd G N k X) {x : Str} {g : Gf} (hgf : G.fns x = some g) {p pos : Pos} {kws : List Keyword} {ks : List Str} {pm : List Nat} {fa : List Bool → Env1 → Option (List Ar × Env1)} {fe : Env1 → Option (R × Env1)} (ha : PK X kws (tDA X.K pn [] fa))
    (hg : Gl X x) (hd : (x == ("__debug__" : Str)) = false) (hks : kwN kws = some ks) (hm : (x, ks, pm) ∈ G.kw)
    (hf : ∀ ρ, fe ρ = (do
        let (xs, ρ1) ← fa [] ρ
        let ds ← arsD xs
        if ds.length = pm.length then do
          let (r, _) ← g.f (pm.map fun i => .dat (ds.getD i .none))
          some (r, ρ1)
        else none)) : DE X pn (.Call (.Name x p) [] kws pos) fe := by
  obtain ⟨a, fd, ps, h1, h2, h3, h4, h5, h6⟩ := gd.fns x g hgf
  obtain ⟨k1, k2, k3, k4⟩ := h6 ks pm hm
  obtain ⟨e1, e2, e3⟩ := kwEach_all pos X.env kws ks hks
  refine ⟨fun pins s σ H Q I h => ?_⟩
  obtain ⟨B, Z, ρ, r, ρ', hp, rl, e, q⟩ := h
  rw [hf] at e
  cases c1 : fa [] ρ with
  | none => rw [c1] at e; cases e
  | some w =>
  obtain ⟨xs, ρ1⟩ := w
  rw [c1] at e
  simp only [Option.bind_eq_bind, Option.bind_some] at e
  cases c2 : arsD xs with
  | none => rw [c2] at e; cases e
  | some ds =>
  rw [c2] at e
  simp only [Option.bind_some] at e
  split at e
  case isFalse => cases e
  rename_i hlen
  cases c3 : g.f (pm.map fun i => .dat (ds.getD i .none)) with
  | none => rw [c3] at e; cases e
  | some w =>
  obtain ⟨r1, out⟩ := w
  rw [c3] at e; cases e
  refine wpAny_Call_Name_kw (ld_glob I hg h1 ?_ hd)
  refine PySem.W.callWith_KW0 (h₀ := X.base) I.ok.mod.kin h2 e1 ?_ (by rw [e3]; rfl)
  refine thn (ha.run pos pins s σ H (fun vs H1 => vs.length = ks.length ∧ spR X.K g (pm.map fun i => vs.getD i .non) H1 Q E0) I ⟨B, Z, ρ, xs, _, hp, rl, c1, fun vs H1 Z1 rl1 sm1 ar => ?_⟩) fun ws s2 ⟨zs, H2, I2, rz, q1, q2⟩ => ⟨I2.kIn, ?_⟩
  · have dv : DvAll X.K Z1 vs ds := ar.data c2
    have hl : ∀ i ∈ pm, i < ds.length := fun i hi => by
      have := k3 i hi
      omega
    have dp := dv.pick hl
    have eqm : (pm.map fun i => Sl.dat (ds.getD i .none)) = (pm.map fun i => ds.getD i .none).map Sl.dat := by rw [List.map_map]; rfl
    rw [eqm] at c3
    generalize (pm.map fun i => ds.getD i .none) = es at dp c3
    show vs.length = ks.length ∧ spR X.K g (pm.map fun i => vs.getD i .non) H1 Q E0
    have lenP : (pm.map fun i => vs.getD i .non).length = pm.length := List.length_map _
    generalize (pm.map fun i => vs.getD i .non) = us at dp lenP
    refine ⟨by rw [dv.len]; omega, by omega, ⟨Z1, H1, [], []⟩, es.map .dat, out, r1, rfl, rfl, ?_, ?_, c3, fun v H3 Z3 post sm3 rr => ?_⟩
    · rw [own_dat]; rfl
    · have := (hn_dat (H := H1) dp).entry rl1.zh
      rw [pinsF_dat] at this
      exact this
    · have pq := pinsF_dat us es 0
      have lo : out.length = es.length := by
        have h1 := post.len
        have h2 := dp.len
        rw [List.length_map, List.length_map] at h1
        omega
      obtain ⟨b1, b2⟩ := Hn.back (H' := H3) (Z' := Z3) (out := out) (r := r1) (v := v) rl1 (arR_dat B dp) (sls_dat es) (by rw [refs_dat]; exact List.nodup_nil) (hn_dat dp) (fun p hp => by cases hp) (by rw [pq]; exact post) (back_dat es out lo) (by rw [pq]; exact rr)
      exact q v H3 Z3 b1 (sm1.trans sm3) b2
  · rw [e2]
    have lw : ws.length = ks.length := by rw [← rz.length, q1]
    have bt := k4 s2 ws I2.kIn lw
    have vr : Vals (pm.map fun i => zs.getD i .non) (pm.map fun i => ws.getD i .none) := vals_pick rz fun i hi => by rw [q1]; exact k3 i hi
    refine wpAny_call (codeAny_mono (h5.run X.A X.stack s2 H2 ⟨[], ks.zip ws⟩ _ _ Q gd.room I2.env0 bt vr q2) fun r' s' hq => ?_)
    cases r' with
    | error e => exact False.elim hq
    | ok fl =>
      cases fl with
      | ret u => exact I2.after hq
      | next => exact False.elim hq
      | brk => exact False.elim hq
      | cont => exact False.elim hq
end
end Dx

namespace Dx
open PySem PySem.Spec PyProof.Rows L2
/-! ## Iterables -/
structure ItOk (K : PySem.W.Frag) (Z : Hp) (J : It) (items : List PyData) : Prop where
  go : ∀ i H, Same Z H → i < items.length → J.go i H
  stop : ∀ H, Same Z H → J.stop items.length H
  yld : ∀ i d H x H', Same Z H → items[i]? = some d → J.yld i H x H' → (H' = H ∧ Dv K Z x d) ∨ ∃ T xs ds, H T = none ∧ H' = upd H T (.tup xs) ∧ x = .ref T ∧ d = .tuple ds ∧ DvAll K Z xs ds
def tDI (K : PySem.W.Frag) (pn : List Nat) (f : Env1 → Option (List PyData × Env1)) : TI := fun σ H Q =>
  ∃ B Z ρ is ρ', pnOf B = pn ∧ Rl K B Z H σ ρ ∧ f ρ = some (is, ρ') ∧ ∀ J H' Z', Rl K B Z' H' σ ρ' → Same Z Z' → ItOk K Z' J is → Q J H'
def DI (X : Cx) (pn : List Nat) (tg e : Expr) (f : Env1 → Option (List PyData × Env1)) : Prop := PI X tg e (tDI X.K pn f)
theorem PI.imp {X : Cx} {tg e : Expr} {t t' : TI} (h : PI X tg e t) (q : ∀ σ H Q, t' σ H Q → t σ H Q) : PI X tg e t' := ⟨fun pins s σ H Q I z => h.run pins s σ H Q I (q σ H Q z)⟩
theorem PI.or {X : Cx} {tg e : Expr} {t t' : TI} (h : PI X tg e t) (h' : PI X tg e t') : PI X tg e (fun σ H Q => t σ H Q ∨ t' σ H Q) := ⟨fun pins s σ H Q I z => by
  rcases z with z | z
  · exact h.run pins s σ H Q I z
  · exact h'.run pins s σ H Q I z⟩
section
variable {K : PySem.W.Frag} {Z H : Hp} {a b : Addr} {xs ys : List V} {ds es : List PyData}
theorem okL (h : SqL K Z a xs) (hd : DvAll K Z xs ds) : ItOk K Z (Itl K a) ds where
  go := fun i H sm hi => by
    obtain ⟨v, h1, _⟩ := hd.get (List.getElem?_eq_getElem hi)
    exact ⟨xs, v, Same.seq sm h, h1⟩
  stop := fun H sm => ⟨xs, Same.seq sm h, by rw [hd.len]; exact Nat.le_refl _⟩
  yld := fun i d H x H' sm e y => by
    obtain ⟨h1, h2⟩ := y
    obtain ⟨v, h3, h4⟩ := hd.get e
    have := h2 xs (Same.seq sm h)
    rw [h3] at this; cases this
    exact .inl ⟨h1, h4⟩
theorem okT (h : SqT K Z a xs) (hd : DvAll K Z xs ds) : ItOk K Z (Itt K a) ds where
  go := fun i H sm hi => by
    obtain ⟨v, h1, _⟩ := hd.get (List.getElem?_eq_getElem hi)
    exact ⟨xs, v, sameT sm h, h1⟩
  stop := fun H sm => ⟨xs, sameT sm h, by rw [hd.len]; exact Nat.le_refl _⟩
  yld := fun i d H x H' sm e y => by
    obtain ⟨h1, h2⟩ := y
    obtain ⟨v, h3, h4⟩ := hd.get e
    have := h2 xs (sameT sm h)
    rw [h3] at this; cases this
    exact .inl ⟨h1, h4⟩
theorem okE (h : SqL K Z a xs) (hd : DvAll K Z xs ds) : ItOk K Z (Ite K a) (ds.mapIdx fun (i : Nat) x => .tuple [.int i, x]) where
  go := fun i H sm hi => by
    obtain ⟨v, h1, _⟩ := hd.get (List.getElem?_eq_getElem (show i < ds.length by simpa using hi))
    exact ⟨xs, v, Same.seq sm h, h1⟩
  stop := fun H sm => ⟨xs, Same.seq sm h, by rw [List.length_mapIdx, hd.len]; exact Nat.le_refl _⟩
  yld := fun i d H x H' sm e y => by
    obtain ⟨T, x0, h1, h2, h3, h4⟩ := y
    rw [List.getElem?_mapIdx] at e
    cases q : ds[i]? with
    | none => rw [q] at e; cases e
    | some d0 =>
      rw [q] at e; cases e
      obtain ⟨v, h5, h6⟩ := hd.get q
      have := h4 xs (Same.seq sm h)
      rw [h5] at this; cases this
      exact .inr ⟨T, _, _, h2, h3, h1, rfl, .cons (.int _) (.cons h6 .nil)⟩
theorem okET (h : SqT K Z a xs) (hd : DvAll K Z xs ds) : ItOk K Z (IteT K a) (ds.mapIdx fun (i : Nat) x => .tuple [.int i, x]) where
  go := fun i H sm hi => by
    obtain ⟨v, h1, _⟩ := hd.get (List.getElem?_eq_getElem (show i < ds.length by simpa using hi))
    exact ⟨xs, v, sameT sm h, h1⟩
  stop := fun H sm => ⟨xs, sameT sm h, by rw [List.length_mapIdx, hd.len]⟩
  yld := fun i d H x H' sm e y => by
    obtain ⟨T, x0, h1, h2, h3, h4⟩ := y
    rw [List.getElem?_mapIdx] at e
    cases q : ds[i]? with
    | none => rw [q] at e; cases e
    | some d0 =>
      rw [q] at e; cases e
      obtain ⟨v, h5, h6⟩ := hd.get q
      have := h4 xs (sameT sm h)
      rw [h5] at this; cases this
      exact .inr ⟨T, _, _, h2, h3, h1, rfl, .cons (.int _) (.cons h6 .nil)⟩
theorem okZ (h : SqL K Z a xs) (hd : DvAll K Z xs ds) (h' : SqL K Z b ys) (hd' : DvAll K Z ys es) : ItOk K Z (Itz K a b) (List.zipWith (fun x y => .tuple [x, y]) ds es) where
  go := fun i H sm hi => by
    have hi : i < min ds.length es.length := by simpa using hi
    obtain ⟨v, h1, _⟩ := hd.get (List.getElem?_eq_getElem (show i < ds.length by omega))
    obtain ⟨w, h2, _⟩ := hd'.get (List.getElem?_eq_getElem (show i < es.length by omega))
    exact ⟨xs, ys, v, w, Same.seq sm h, Same.seq sm h', h1, h2⟩
  stop := fun H sm => ⟨xs, ys, Same.seq sm h, Same.seq sm h', by rw [List.length_zipWith, hd.len, hd'.len]; omega⟩
  yld := fun i d H x H' sm e y => by
    obtain ⟨T, x0, y0, h1, h2, h3, h4, h5⟩ := y
    rw [List.getElem?_zipWith] at e
    cases q : ds[i]? with
    | none => rw [q] at e; cases e
    | some d0 =>
      rw [q] at e
      cases q' : es[i]? with
      | none => rw [q'] at e; cases e
      | some e0 =>
        rw [q'] at e; cases e
        obtain ⟨v, h6, h7⟩ := hd.get q
        obtain ⟨w, h8, h9⟩ := hd'.get q'
        have t1 := h4 xs (Same.seq sm h)
        have t2 := h5 ys (Same.seq sm h')
        rw [h6] at t1; cases t1
        rw [h8] at t2; cases t2
        exact .inr ⟨T, _, _, h2, h3, h1, rfl, .cons h7 (.cons h9 .nil)⟩
theorem okZT (h : SqT K Z a xs) (hd : DvAll K Z xs ds) (h' : SqT K Z b ys) (hd' : DvAll K Z ys es) : ItOk K Z (RZ.ItzT K a b) (List.zipWith (fun x y => .tuple [x, y]) ds es) where
  go := fun i H sm hi => by
    have hi : i < min ds.length es.length := by simpa using hi
    obtain ⟨v, h1, _⟩ := hd.get (List.getElem?_eq_getElem (show i < ds.length by omega))
    obtain ⟨w, h2, _⟩ := hd'.get (List.getElem?_eq_getElem (show i < es.length by omega))
    exact ⟨xs, ys, v, w, sameT sm h, sameT sm h', h1, h2⟩
  stop := fun H sm => ⟨xs, ys, sameT sm h, sameT sm h', by rw [List.length_zipWith, hd.len, hd'.len]; omega⟩
  yld := fun i d H x H' sm e y => by
    obtain ⟨T, x0, y0, h1, h2, h3, h4, h5⟩ := y
    rw [List.getElem?_zipWith] at e
    cases q : ds[i]? with
    | none => rw [q] at e; cases e
    | some d0 =>
      rw [q] at e
      cases q' : es[i]? with
      | none => rw [q'] at e; cases e
      | some e0 =>
        rw [q'] at e; cases e
        obtain ⟨v, h6, h7⟩ := hd.get q
        obtain ⟨w, h8, h9⟩ := hd'.get q'
        have t1 := h4 xs (sameT sm h)
        have t2 := h5 ys (sameT sm h')
        rw [h6] at t1; cases t1
        rw [h8] at t2; cases t2
        exact .inr ⟨T, _, _, h2, h3, h1, rfl, .cons h7 (.cons h9 .nil)⟩
theorem okR {lo : Int} {n : Nat} : ItOk K Z (Itr lo n) ((List.range n).map fun (i : Nat) => .int (lo + i)) where
  go := fun i H sm hi => by show i < n; simpa using hi
  stop := fun H sm => by show n ≤ _; simp
  yld := fun i d H x H' sm e y => by
    obtain ⟨h1, h2⟩ := y
    rw [List.getElem?_map] at e
    cases q : (List.range n)[i]? with
    | none => rw [q] at e; cases e
    | some j =>
      rw [q] at e; cases e
      obtain ⟨hl, hj⟩ := List.getElem?_eq_some_iff.mp q
      rw [List.getElem_range] at hj
      subst hj h2
      exact .inl ⟨h1, .int _⟩
end
section
variable {X : Cx} {pn : List Nat} {tg : Expr} {G : Gx} {N : List Str} {k : Nat}
theorem di_iv {e : Expr} {f : Env1 → Option (R × Env1)} {fi : Env1 → Option (List PyData × Env1)} (he : DE X pn e f) (hf : ∀ ρ, fi ρ = (do let (x, ρ1) ← f ρ; let xs ← seqD x.d; some (xs, ρ1))) : DI X pn tg e fi := by
  refine PI.imp (PI.or (pi_list he) (pi_tup he)) fun σ H Q ⟨B, Z, ρ, is, ρ', hp, rl, e1, q⟩ => ?_
  rw [hf] at e1
  cases c1 : f ρ with
  | none => rw [c1] at e1; cases e1
  | some w =>
  obtain ⟨x, ρ1⟩ := w
  rw [c1] at e1
  simp only [Option.bind_eq_bind, Option.bind_some] at e1
  cases c2 : seqD x.d with
  | none => rw [c2] at e1; cases e1
  | some xs =>
  rw [c2] at e1; cases e1
  unfold seqD at c2
  split at c2
  · rename_i ys hx
    cases c2
    refine .inl (tD_d hp rl c1 fun v H' Z' rl' sm dv => ?_)
    rw [hx] at dv
    cases dv with | lst a b => exact ⟨_, rfl, ⟨_, (Same.seq rl'.zh a)⟩, q _ _ _ rl' sm (okL a b)⟩
  · rename_i ys hx
    cases c2
    refine .inr (tD_d hp rl c1 fun v H' Z' rl' sm dv => ?_)
    rw [hx] at dv
    cases dv with | tup a b => exact ⟨_, rfl, ⟨_, sameT rl'.zh a⟩, q _ _ _ rl' sm (okT a b)⟩
  · cases c2
theorem di_rng1 {a : Expr} {p pos : Pos} {fa : Env1 → Option (R × Env1)} {fi : Env1 → Option (List PyData × Env1)} (hg : Gl X "range") (hm : X.mg "range" = none) (ha : DE X pn a fa) (hs : starEach [a] X.env = [(false, eval a X.env)])
    (hf : ∀ ρ, fi ρ = (do let (x, ρ1) ← fa ρ; let is ← rngD [x.d]; some (is, ρ1))) : DI X pn tg (.Call (.Name "range" p) [a] [] pos) fi := by
  refine PI.imp (pi_range1 hg hm (pa_cons ha pa_nil hs) hs) fun σ H Q ⟨B, Z, ρ, is, ρ', hp, rl, e1, q⟩ => ?_
  rw [hf] at e1
  cases c1 : fa ρ with
  | none => rw [c1] at e1; cases e1
  | some w =>
  obtain ⟨x, ρ1⟩ := w
  rw [c1] at e1
  simp only [Option.bind_eq_bind, Option.bind_some] at e1
  cases c3 : rngD [x.d] with
  | none => rw [c3] at e1; cases e1
  | some js =>
  rw [c3] at e1; cases e1
  refine tD_d hp rl c1 fun v H' Z' rl' sm dv => ?_
  unfold rngD at c3
  split at c3
  · rename_i n hn
    injection hn with hn _
    rw [hn] at dv
    cases dv
    split at c3
    · rename_i c
      cases c3
      refine ⟨_, rfl, by omega, by omega, ?_⟩
      have z := okR (K := X.K) (Z := Z') (lo := 0) (n := n.toNat)
      simp only [Int.zero_add] at z
      exact q _ _ _ rl' sm z
    · cases c3
  · rename_i hn
    injection hn with hn h2
    cases h2
  · cases c3
theorem di_rng2 {a b : Expr} {p pos : Pos} {fa fb : Env1 → Option (R × Env1)} {fi : Env1 → Option (List PyData × Env1)} (hg : Gl X "range") (hm : X.mg "range" = none) (ha : DE X pn a fa) (hb : DE X pn b fb)
    (hs : starEach [a, b] X.env = [(false, eval a X.env), (false, eval b X.env)]) (hs2 : starEach [b] X.env = [(false, eval b X.env)])
    (hf : ∀ ρ, fi ρ = (do let (x, ρ1) ← fa ρ; let (y, ρ2) ← fb ρ1; let is ← rngD [x.d, y.d]; some (is, ρ2))) : DI X pn tg (.Call (.Name "range" p) [a, b] [] pos) fi := by
  refine PI.imp (pi_range2 hg hm (pa_cons ha (pa_cons hb pa_nil hs2) (by rw [hs, hs2])) hs hs2) fun σ H Q ⟨B, Z, ρ, is, ρ', hp, rl, e1, q⟩ => ?_
  rw [hf] at e1
  cases c1 : fa ρ with
  | none => rw [c1] at e1; cases e1
  | some w =>
  obtain ⟨x, ρ1⟩ := w
  rw [c1] at e1
  simp only [Option.bind_eq_bind, Option.bind_some] at e1
  cases c2 : fb ρ1 with
  | none => rw [c2] at e1; cases e1
  | some w =>
  obtain ⟨y, ρ2⟩ := w
  rw [c2] at e1
  simp only [Option.bind_some] at e1
  cases c3 : rngD [x.d, y.d] with
  | none => rw [c3] at e1; cases e1
  | some js =>
  rw [c3] at e1; cases e1
  refine tD_d hp rl c1 fun v H1 Z1 rl1 sm1 dv => tD_d hp rl1 c2 fun w H2 Z2 rl2 sm2 dw => ?_
  unfold rngD at c3
  split at c3
  · rename_i n hn
    injection hn with hn h2
    cases h2
  · rename_i lo hi hn
    injection hn with hn h2
    injection h2 with h2 _
    rw [hn] at dv
    rw [h2] at dw
    cases dv; cases dw
    split at c3
    · rename_i c
      cases c3
      exact ⟨_, _, rfl, ⟨by omega, by omega, by omega, by omega⟩, q _ _ _ rl2 (sm1.trans sm2) okR⟩
    · cases c3
  · cases c3
theorem di_enum {a : Expr} {elts : List Expr} {kk : Nat} {tpos p pos : Pos} {fa : Env1 → Option (R × Env1)} {fi : Env1 → Option (List PyData × Env1)} (hg : Gl X "enumerate") (hm : X.mg "enumerate" = none) (ha : DE X pn a fa) (hs : starEach [a] X.env = [(false, eval a X.env)])
    (hf : ∀ ρ, fi ρ = (do let (x, ρ1) ← fa ρ; let xs ← seqD x.d; some (xs.mapIdx fun (i : Nat) x => .tuple [.int i, x], ρ1))) : DI X pn (.Tuple elts kk tpos) (.Call (.Name "enumerate" p) [a] [] pos) fi := by
  refine PI.imp (pi_enumT hg hm (pa_cons ha pa_nil hs) hs) fun σ H Q ⟨B, Z, ρ, is, ρ', hp, rl, e1, q⟩ => ?_
  rw [hf] at e1
  cases c1 : fa ρ with
  | none => rw [c1] at e1; cases e1
  | some w =>
  obtain ⟨x, ρ1⟩ := w
  rw [c1] at e1
  simp only [Option.bind_eq_bind, Option.bind_some] at e1
  cases c2 : seqD x.d with
  | none => rw [c2] at e1; cases e1
  | some xs =>
  rw [c2] at e1; cases e1
  refine tD_d hp rl c1 fun v H' Z' rl' sm dv => ?_
  unfold seqD at c2
  split at c2
  · rename_i ys hx
    cases c2
    rw [hx] at dv
    cases dv with | lst a b => exact ⟨_, _, rfl, .inl ⟨(Same.seq rl'.zh a), q _ _ _ rl' sm (okE a b)⟩⟩
  · rename_i ys hx
    cases c2
    rw [hx] at dv
    cases dv with | tup a b => exact ⟨_, _, rfl, .inr ⟨sameT rl'.zh a, q _ _ _ rl' sm (okET a b)⟩⟩
  · cases c2
theorem di_zip {a b : Expr} {elts : List Expr} {kk : Nat} {tpos p pos : Pos} {fa fb : Env1 → Option (R × Env1)} {fi : Env1 → Option (List PyData × Env1)} (hg : Gl X "zip") (hm : X.mg "zip" = none) (ha : DE X pn a fa) (hb : DE X pn b fb)
    (hs : starEach [a, b] X.env = (false, eval a X.env) :: starEach [b] X.env) (hs2 : starEach [b] X.env = (false, eval b X.env) :: starEach [] X.env) (hpl : (backTo pos (starEach [b] X.env)).any (·.1) = false)
    (hf : ∀ ρ, fi ρ = (do let (x, ρ1) ← fa ρ; let (y, ρ2) ← fb ρ1; let is ← zipD x.d y.d; some (is, ρ2))) : DI X pn (.Tuple elts kk tpos) (.Call (.Name "zip" p) [a, b] [] pos) fi := by
  refine PI.imp (RZ.pi_zipA hg hm (pa_cons ha (pa_cons hb pa_nil hs2) hs) hs hpl) fun σ H Q ⟨B, Z, ρ, is, ρ', hp, rl, e1, q⟩ => ?_
  rw [hf] at e1
  cases c1 : fa ρ with
  | none => rw [c1] at e1; cases e1
  | some w =>
  obtain ⟨x, ρ1⟩ := w
  rw [c1] at e1
  simp only [Option.bind_eq_bind, Option.bind_some] at e1
  cases c2 : fb ρ1 with
  | none => rw [c2] at e1; cases e1
  | some w =>
  obtain ⟨y, ρ2⟩ := w
  rw [c2] at e1
  simp only [Option.bind_some] at e1
  cases c3 : zipD x.d y.d with
  | none => rw [c3] at e1; cases e1
  | some js =>
  rw [c3] at e1; cases e1
  refine tD_d hp rl c1 fun v H1 Z1 rl1 sm1 dv => tD_d hp rl1 c2 fun w H2 Z2 rl2 sm2 dw => ?_
  have dv := dv.up sm2
  unfold zipD at c3
  split at c3
  · rename_i hx hy
    cases c3
    rw [hx] at dv; rw [hy] at dw
    cases dv with | lst a b => cases dw with | lst a' b' => exact ⟨_, _, _, _, rfl, .inl ⟨(Same.seq rl2.zh a), (Same.seq rl2.zh a'), q _ _ _ rl2 (sm1.trans sm2) (okZ a b a' b')⟩⟩
  · rename_i hx hy
    cases c3
    rw [hx] at dv; rw [hy] at dw
    cases dv with | tup a b => cases dw with | tup a' b' => exact ⟨_, _, _, _, rfl, .inr ⟨sameT rl2.zh a, sameT rl2.zh a', q _ _ _ rl2 (sm1.trans sm2) (okZT a b a' b')⟩⟩
  · cases c3
end
end Dx

namespace Dx
open PySem PySem.Spec PyProof.Rows L2
/-! ## Comprehensions -/
theorem wipe_out {σ : L2.St} {i : Nat} : ∀ {vs : List Nat}, i ∉ vs → (wipe σ vs)[i]? = σ[i]?
  | [], _ => rfl
  | v :: vs, h => by
    simp only [List.mem_cons, not_or] at h
    unfold wipe
    rw [List.getElem?_set_ne (Ne.symm h.1)]
    exact wipe_out h.2
theorem wipe_in {σ : L2.St} {i : Nat} : ∀ {vs : List Nat}, i ∈ vs → i < σ.length → (wipe σ vs)[i]? = some none
  | v :: vs, h, hl => by
    unfold wipe
    by_cases e : v = i
    · subst e; rw [List.getElem?_set_self (by rw [wipe_length]; exact hl)]
    · rw [List.getElem?_set_ne e]
      exact wipe_in ((List.mem_cons.mp h).resolve_left (Ne.symm e)) hl
theorem wipeE_len (ρ : Env1) : ∀ vs : List Nat, (wipeE ρ vs).length = ρ.length
  | [] => rfl
  | v :: vs => by unfold wipeE; rw [List.length_set, wipeE_len ρ vs]
theorem wipeE_some {ρ : Env1} {i : Nat} {s : Sl} : ∀ {vs : List Nat}, (wipeE ρ vs)[i]? = some (some s) → i ∉ vs ∧ ρ[i]? = some (some s)
  | [], h => ⟨by simp, h⟩
  | v :: vs, h => by
    unfold wipeE at h
    rcases set_get h with ⟨_, q, _⟩ | ⟨ne, h⟩
    · cases q
    · obtain ⟨h1, h2⟩ := wipeE_some h
      exact ⟨by simp only [List.mem_cons, not_or]; exact ⟨ne, h1⟩, h2⟩
theorem wipeE_out {ρ : Env1} {i : Nat} : ∀ {vs : List Nat}, i ∉ vs → (wipeE ρ vs)[i]? = ρ[i]?
  | [], _ => rfl
  | v :: vs, h => by
    simp only [List.mem_cons, not_or] at h
    unfold wipeE
    rw [List.getElem?_set_ne (Ne.symm h.1)]
    exact wipeE_out h.2
theorem backE_len (ρ0 ρ : Env1) : ∀ vs : List Nat, (backE ρ0 ρ vs).length = ρ.length
  | [] => rfl
  | v :: vs => by unfold backE; rw [List.length_set, backE_len ρ0 ρ vs]
theorem backE_some {ρ0 ρ : Env1} {i : Nat} {s : Sl} : ∀ {vs : List Nat}, (backE ρ0 ρ vs)[i]? = some (some s) → (i ∈ vs ∧ ρ0[i]? = some (some s)) ∨ (i ∉ vs ∧ ρ[i]? = some (some s))
  | [], h => .inr ⟨by simp, h⟩
  | v :: vs, h => by
    unfold backE at h
    rcases set_get h with ⟨e, q, _⟩ | ⟨ne, h⟩
    · subst e
      refine .inl ⟨List.mem_cons_self, ?_⟩
      cases z : ρ0[i]? with
      | none => rw [z] at q; cases q
      | some w => rw [z] at q; rw [← q]; rfl
    · rcases backE_some h with ⟨h1, h2⟩ | ⟨h1, h2⟩
      · exact .inl ⟨List.mem_cons_of_mem _ h1, h2⟩
      · exact .inr ⟨by simp only [List.mem_cons, not_or]; exact ⟨ne, h1⟩, h2⟩
theorem backE_out {ρ0 ρ : Env1} {i : Nat} : ∀ {vs : List Nat}, i ∉ vs → (backE ρ0 ρ vs)[i]? = ρ[i]?
  | [], _ => rfl
  | v :: vs, h => by
    simp only [List.mem_cons, not_or] at h
    unfold backE
    rw [List.getElem?_set_ne (Ne.symm h.1)]
    exact backE_out h.2
theorem wipe_eq {σ σ2 : L2.St} {vs : List Nat} (hl : σ2.length = σ.length) (h : ∀ i, i ∉ vs → σ2[i]? = (wipe σ vs)[i]?) : wipe σ2 vs = wipe σ vs := by
  refine List.ext_getElem? fun i => ?_
  by_cases hi : i ∈ vs
  · by_cases hlt : i < σ.length
    · rw [wipe_in hi hlt, wipe_in hi (by omega)]
    · rw [List.getElem?_eq_none (by rw [wipe_length]; omega), List.getElem?_eq_none (by rw [wipe_length]; omega)]
  · rw [wipe_out hi, h i hi]
section
variable {K : PySem.W.Frag} {B B' : Bs} {Z Z0 Z' H H0 H' : Hp} {σ σ2 : L2.St} {ρ ρ0 ρ3 : Env1} {vs : List Nat}
theorem Rl.wipe (r : Rl K B Z H σ ρ) (hv : ∀ v ∈ vs, ∀ ds, ρ[v]? ≠ some (some (.own ds))) : Rl K B Z H (L2.wipe σ vs) (wipeE ρ vs) := by
  have np : ∀ q ∈ B.pins, q.1 ∉ vs := fun q hq hm => by
    obtain ⟨_, ds, h⟩ := r.pin q hq
    exact hv q.1 hm ds h
  refine ⟨by rw [wipe_length, wipeE_len]; exact r.len, r.bz, r.zh, r.zn, r.kp, fun i d e => ?_, fun i ds e => ?_, fun i j ds es p h1 h2 h3 h4 => ?_, fun q hq => ?_, fun q hq => ?_⟩
  · obtain ⟨h1, h2⟩ := wipeE_some e
    obtain ⟨v, a1, a2⟩ := r.dat i d h2
    exact ⟨v, by rw [wipe_out h1]; exact a1, a2⟩
  · obtain ⟨h1, h2⟩ := wipeE_some e
    obtain ⟨p, xs, a1, a2⟩ := r.own i ds h2
    exact ⟨p, xs, by rw [wipe_out h1]; exact a1, a2⟩
  · obtain ⟨a1, a2⟩ := wipeE_some h1
    obtain ⟨b1, b2⟩ := wipeE_some h2
    rw [wipe_out a1] at h3
    rw [wipe_out b1] at h4
    exact r.apart i j ds es p a2 b2 h3 h4
  · obtain ⟨a1, ds, a2⟩ := r.pin q hq
    exact ⟨by rw [wipe_out (np q hq)]; exact a1, ds, by rw [wipeE_out (np q hq)]; exact a2⟩
  · obtain ⟨a1, a2, a3⟩ := r.pd q hq
    refine ⟨a1, a2, fun i ds e => ?_⟩
    obtain ⟨h1, h2⟩ := wipeE_some e
    rw [wipe_out h1]
    exact a3 i ds h2
theorem Rl.unwipe (r0 : Rl K B Z0 H0 σ ρ0) (hv : ∀ v ∈ vs, ∀ ds, ρ0[v]? ≠ some (some (.own ds))) (r : Rl K B' Z' H' σ2 ρ3) (sm : Same Z0 Z') (hp : B'.pins = B.pins) (ag : ∀ i, i ∉ vs → σ2[i]? = σ[i]?) (hl : σ2.length = σ.length) : Rl K B' Z' H' σ (backE ρ0 ρ3 vs) := by
  have np : ∀ q ∈ B.pins, q.1 ∉ vs := fun q hq hm => by
    obtain ⟨_, ds, h⟩ := r0.pin q hq
    exact hv q.1 hm ds h
  have ow : ∀ {i : Nat} {ds : List PyData}, (backE ρ0 ρ3 vs)[i]? = some (some (.own ds)) → i ∉ vs ∧ ρ3[i]? = some (some (.own ds)) := fun {i ds} e => by
    rcases backE_some e with ⟨h1, h2⟩ | h
    · exact absurd h2 (hv i h1 ds)
    · exact h
  refine ⟨by rw [backE_len, ← r.len, hl], r.bz, r.zh, r.zn, r.kp, fun i d e => ?_, fun i ds e => ?_, fun i j ds es p h1 h2 h3 h4 => ?_, fun q hq => ?_, fun q hq => ?_⟩
  · rcases backE_some e with ⟨h1, h2⟩ | ⟨h1, h2⟩
    · obtain ⟨v, a1, a2⟩ := r0.dat i d h2
      exact ⟨v, a1, a2.up sm⟩
    · obtain ⟨v, a1, a2⟩ := r.dat i d h2
      exact ⟨v, by rw [← ag i h1]; exact a1, a2⟩
  · obtain ⟨h1, h2⟩ := ow e
    obtain ⟨p, xs, a1, a2⟩ := r.own i ds h2
    exact ⟨p, xs, by rw [← ag i h1]; exact a1, a2⟩
  · obtain ⟨a1, a2⟩ := ow h1
    obtain ⟨b1, b2⟩ := ow h2
    rw [← ag i a1] at h3
    rw [← ag j b1] at h4
    exact r.apart i j ds es p a2 b2 h3 h4
  · have hq' : q ∈ B.pins := by rw [← hp]; exact hq
    obtain ⟨a1, ds, a2⟩ := r.pin q hq
    exact ⟨by rw [← ag _ (np q hq')]; exact a1, ds, by rw [backE_out (np q hq')]; exact a2⟩
  · obtain ⟨a1, a2, a3⟩ := r.pd q hq
    refine ⟨a1, a2, fun i ds e => ?_⟩
    obtain ⟨h1, h2⟩ := ow e
    rw [← ag i h1]
    exact a3 i ds h2
/-- the pending list changes -/
theorem Rl.repend {p : Addr} {xs ys : List V} (r : Rl K (B.push p xs) Z H σ ρ) (hb : B.H p = none) (hq : ∀ q ∈ B.pend, q.1 ≠ p) : Rl K (B.push p ys) Z (upd H p (.lst ys)) σ ρ := by
  obtain ⟨r1, h1, h2, h3⟩ := r.pop
  have nz : ∀ b o, Z b = some o → b ≠ p := fun b o e z => by rw [z, h2] at e; cases e
  have nown : ∀ (i : Nat) (ds : List PyData) (q : Addr), ρ[i]? = some (some (.own ds)) → σ[i]? = some (some (.ref q)) → q ≠ p := fun i ds q a b z => h3 i ds a (by rw [b, z])
  refine ⟨r.len, r.bz, fun b o e => by rw [upd_ne (nz b o e)]; exact r.zh b o e, r.zn, fun b o e n => ?_, r.dat, fun i ds e => ?_, r.apart, r.pin, fun q hm => ?_⟩
  · have ne : b ≠ p := fun z => by rw [z] at e; rw [show (B.push p ys).H p = B.H p from rfl, hb] at e; cases e
    rw [upd_ne ne]
    exact r.kp b o e n
  · obtain ⟨q, zs, a1, a2, a3⟩ := r.own i ds e
    exact ⟨q, zs, a1, by rw [upd_ne (nown i ds q e a1)]; exact a2, a3⟩
  · rcases List.mem_cons.mp hm with e | hm
    · subst e; exact ⟨upd_same, h2, h3⟩
    · obtain ⟨a1, a2, a3⟩ := r1.pd q hm
      exact ⟨by rw [upd_ne (hq q hm)]; exact a1, a2, a3⟩
end
section
variable {X : Cx} {pn : List Nat}
theorem lc_read {K : PySem.W.Frag} {vs : List Nat} {fi : Env1 → Option (List PyData × Env1)} {ft : PyData → Env1 → Option Env1} {fc fe f : Env1 → Option (R × Env1)}
    (hf : ∀ ρ, f ρ = (do
      let (xs, ρ1) ← fi ρ
      if (vs.all fun v => match ρ1[v]? with | some (some (.own _)) => false | _ => true) then do
        let (acc, ρ2) ← lcG vs ρ1 ft fc fe xs ρ1 []
        some (.frs acc, ρ2)
      else none)) (σ : L2.St) (H : Hp) (Q : VK) (h0 : tD K pn f σ H Q) : tLc (tDI K pn fi) (tDG K pn vs ft) (tDT K pn fc) (tD K pn fe) vs σ H Q := by
  obtain ⟨B, Z, ρ, r, ρ', hp, rl, e1, q⟩ := h0
  rw [hf] at e1
  cases c1 : fi ρ with
  | none => rw [c1] at e1; cases e1
  | some w =>
  obtain ⟨xs, ρ1⟩ := w
  rw [c1] at e1
  simp only [Option.bind_eq_bind, Option.bind_some] at e1
  split at e1
  case isFalse => cases e1
  case isTrue hall =>
  have hv : ∀ v ∈ vs, ∀ ds, ρ1[v]? ≠ some (some (.own ds)) := fun v hm ds e => by
    have := List.all_eq_true.mp hall v hm
    rw [e] at this; cases this
  cases c2 : lcG vs ρ1 ft fc fe xs ρ1 [] with
  | none => rw [c2] at e1; cases e1
  | some w =>
  obtain ⟨acc, ρ2⟩ := w
  rw [c2] at e1
  cases e1
  refine ⟨B, Z, ρ, xs, ρ1, hp, rl, c1, fun J H1 Z1 rl1 sm1 it D hD => ?_⟩
  obtain ⟨zD, nD⟩ := rl1.free hD
  have bD := rl1.bfree hD
  have qD := rl1.npend hD
  have rD : Rl K (B.push D []) Z1 (upd H1 D (.lst [])) σ ρ1 := (rl1.more hD).push upd_same zD nD
  refine ⟨fun i m H => m = xs.length - i ∧ i ≤ xs.length ∧ ∃ (Z' : Hp) (ρ' : Env1) (ys : List V) (a : List PyData), Rl K (B.push D ys) Z' H σ ρ' ∧ Same Z1 Z' ∧ DvAll K Z' ys a ∧ (∀ v ∈ vs, ∀ ds, ρ'[v]? ≠ some (some (.own ds))) ∧ lcG vs ρ1 ft fc fe (xs.drop i) ρ' a = some (acc, ρ2),
    ⟨xs.length, by simp, Nat.zero_le _, Z1, ρ1, [], [], rD, Same.refl _, .nil, hv, by simpa using c2⟩, ?_⟩
  rintro i m H2 ⟨rfl, hle, Z2, ρ3, ys, a, r2, sm2, hd, hv2, c3⟩
  by_cases hlt : i < xs.length
  · right
    have hx := List.getElem?_eq_getElem hlt
    generalize xs[i] = d at hx
    have hdrop : xs.drop i = d :: xs.drop (i + 1) := by
      rw [List.drop_eq_getElem_cons hlt]
      have : xs[i] = d := by rw [List.getElem?_eq_getElem hlt] at hx; exact Option.some.inj hx
      rw [this]
    rw [hdrop] at c3
    simp only [lcG, Option.bind_eq_bind] at c3
    have zh2 : Same Z1 H2 := sm2.trans r2.zh
    refine ⟨it.go i H2 zh2 hlt, fun H' => ∃ (Z' : Hp) (ρ' : Env1) (ys : List V) (a : List PyData), Rl K (B.push D ys) Z' H' σ ρ' ∧ Same Z1 Z' ∧ DvAll K Z' ys a ∧ (∀ v ∈ vs, ∀ ds, ρ'[v]? ≠ some (some (.own ds))) ∧ lcG vs ρ1 ft fc fe (xs.drop (i + 1)) ρ' a = some (acc, ρ2), fun H' hN => ⟨xs.length - (i + 1), by omega, rfl, hlt, hN⟩, fun x H3 hy => ?_⟩
    -- the item's value
    have item : ∃ Z3, Rl K (B.push D ys) Z3 H3 σ ρ3 ∧ Same Z2 Z3 ∧ Dv K Z3 x d := by
      rcases it.yld i d H2 x H3 zh2 hx hy with ⟨rfl, hv3⟩ | ⟨T, ts, es, hT, rfl, rfl, rfl, hd3⟩
      · exact ⟨Z2, r2, Same.refl _, hv3.up sm2⟩
      · obtain ⟨g1, g2, g3⟩ := r2.newT hT (hd3.up sm2)
        exact ⟨_, g1, g2, g3⟩
    obtain ⟨Z3, r3, sm3, dx⟩ := item
    cases c4 : ft d (wipeE ρ3 vs) with
    | none => rw [c4] at c3; cases c3
    | some ρ4 =>
    rw [c4] at c3
    simp only [Option.bind_some] at c3
    refine ⟨B.push D ys, Z3, wipeE ρ3 vs, d, ρ4, hp, r3.wipe hv2, dx, c4, fun σ2 H4 Z4 r4 sm4 ag l2 => ?_⟩
    have ag' : ∀ i, i ∉ vs → σ2[i]? = σ[i]? := fun i hi => by rw [ag i hi, wipe_out hi]
    rw [wipe_length] at l2
    refine ⟨wipe_eq l2 ag, ?_⟩
    cases c5 : fc ρ4 with
    | none => rw [c5] at c3; cases c3
    | some w =>
    obtain ⟨kr, ρ5⟩ := w
    rw [c5] at c3
    simp only [Option.bind_some] at c3
    cases c6 : truD kr.d with
    | none => rw [c6] at c3; cases c3
    | some kb =>
    rw [c6] at c3
    simp only [Option.bind_some] at c3
    refine tDT_k (B := B.push D ys) hp r4 c5 c6 fun H5 Z5 r5 sm5 => ?_
    cases kb with
    | false =>
      rw [if_neg Bool.false_ne_true]
      have z5 := sm3.trans (sm4.trans sm5)
      have r6 := Rl.unwipe rl1 hv r5 (sm2.trans z5) rfl ag' l2
      refine ⟨Z5, backE ρ1 ρ5 vs, ys, a, r6, sm2.trans z5, hd.up z5, fun v hm ds e => ?_, c3⟩
      rcases backE_some e with ⟨_, h⟩ | ⟨h, _⟩
      · exact hv v hm ds h
      · exact h hm
    | true =>
      rw [if_pos rfl]
      simp only at c3
      cases c7 : fe ρ5 with
      | none => rw [c7] at c3; cases c3
      | some w =>
      obtain ⟨yr, ρ6⟩ := w
      rw [c7] at c3
      simp only [Option.bind_some] at c3
      split at c3
      case isFalse => cases c3
      case isTrue hsz =>
      refine tD_d (B := B.push D ys) hp r5 c7 fun y H6 Z6 r6 sm6 dy => ?_
      have z6 := sm3.trans (sm4.trans (sm5.trans sm6))
      refine ⟨ys, r6.pop.2.1, by rw [hd.len]; exact hsz, ?_⟩
      have r7 := Rl.unwipe rl1 hv (r6.repend (ys := ys ++ [y]) bD qD) (sm2.trans z6) rfl ag' l2
      refine ⟨Z6, backE ρ1 ρ6 vs, ys ++ [y], a ++ [yr.d], r7, sm2.trans z6, (hd.up z6).append (DvAll.one dy), fun v hm ds e => ?_, c3⟩
      rcases backE_some e with ⟨_, h⟩ | ⟨h, _⟩
      · exact hv v hm ds h
      · exact h hm
  · left
    have e : i = xs.length := by omega
    subst e
    rw [List.drop_length] at c3
    cases c3
    obtain ⟨g1, g2, g3, g4⟩ := r2.pop
    refine ⟨it.stop H2 (sm2.trans r2.zh), q _ H2 Z2 g1 (sm1.trans sm2) ⟨D, ys, rfl, g2, g3, bD, qD, hd, g4⟩⟩
theorem de_lc {elt tg iter : Expr} {ifs : List Expr} {scope : Scope} {own : List (Str × Nat)} {pos : Pos} {vs : List Nat} {fi : Env1 → Option (List PyData × Env1)} {ft : PyData → Env1 → Option Env1} {fc fe f : Env1 → Option (R × Env1)}
    (hc : X.calm = true) (hN : X.N.Nodup) (hi : DI X pn tg iter fi) (ok : BlkOk X.N X.env.scope scope own) (hvs : own.map (·.2) = vs)
    (hg : ∀ (s : Shared) (H : Hp) (C : Addr) (cl : List (Str × Addr)) (fp : List Addr), DG (X.blk s H scope (compEnvC scope cl C X.env) fp) pn vs tg ft)
    (ht : ∀ (s : Shared) (H : Hp) (C : Addr) (cl : List (Str × Addr)) (fp : List Addr), PTs (X.blk s H scope (compEnvC scope cl C X.env) fp) ifs (tDT X.K pn fc))
    (he : ∀ (s : Shared) (H : Hp) (C : Addr) (cl : List (Str × Addr)) (fp : List Addr), DE (X.blk s H scope (compEnvC scope cl C X.env) fp) pn elt fe)
    (hs : ∀ x, foldedSetIterable iter X.env x = pure x)
    (hf : ∀ ρ, f ρ = (do
      let (xs, ρ1) ← fi ρ
      if (vs.all fun v => match ρ1[v]? with | some (some (.own _)) => false | _ => true) then do
        let (acc, ρ2) ← lcG vs ρ1 ft fc fe xs ρ1 []
        some (.frs acc, ρ2)
      else none)) : DE X pn (.ListComp elt [⟨tg, iter, ifs, 0⟩] scope pos) f :=
  PE.imp (pe_lc (g := tDG X.K pn vs ft) (tt := tDT X.K pn fc) (te := tD X.K pn fe) hc hN hi ok hg ht he hs) fun σ H Q h => by
    rw [hvs]
    exact lc_read hf σ H Q h
theorem set_lc {i : Nat} {y : Str} {py spos : Pos} {elt tg iter : Expr} {ifs : List Expr} {scope : Scope} {own : List (Str × Nat)} {pos : Pos} {vs : List Nat} {fi : Env1 → Option (List PyData × Env1)} {ft : PyData → Env1 → Option Env1} {fc fe f : Env1 → Option (R × Env1)}
    (hy : X.N[i]? = some y) (hyl : X.env.scope.names.lookup y = some .local) (hsw : swapsWith (.ListComp elt [⟨tg, iter, ifs, 0⟩] scope pos) (some (.Name y py)) spos.line X.env = pure true)
    (hc : X.calm = true) (hN : X.N.Nodup) (hi : DI X pn tg iter fi) (ok : BlkOk X.N X.env.scope scope own) (hvs : own.map (·.2) = vs)
    (hg : ∀ (s : Shared) (H : Hp) (C : Addr) (cl : List (Str × Addr)) (fp : List Addr), DG (X.blk s H scope (compEnvC scope cl C X.env) fp) pn vs tg ft)
    (ht : ∀ (s : Shared) (H : Hp) (C : Addr) (cl : List (Str × Addr)) (fp : List Addr), PTs (X.blk s H scope (compEnvC scope cl C X.env) fp) ifs (tDT X.K pn fc))
    (he : ∀ (s : Shared) (H : Hp) (C : Addr) (cl : List (Str × Addr)) (fp : List Addr), DE (X.blk s H scope (compEnvC scope cl C X.env) fp) pn elt fe)
    (hs : ∀ x, foldedSetIterable iter X.env x = pure x)
    (hf : ∀ ρ, f ρ = (do
      let (xs, ρ1) ← fi ρ
      if (vs.all fun v => match ρ1[v]? with | some (some (.own _)) => false | _ => true) then do
        let (acc, ρ2) ← lcG vs ρ1 ft fc fe xs ρ1 []
        some (.frs acc, ρ2)
      else none)) : PS X (.Assign [.Name y py] (.ListComp elt [⟨tg, iter, ifs, 0⟩] scope pos) spos) (tAsg (tD X.K pn f) (gName i)) :=
  PS.imp (ps_setLc (g := tDG X.K pn vs ft) (tt := tDT X.K pn fc) (te := tD X.K pn fe) hc hN hy hyl hsw hi ok hg ht he hs) fun D σ H h => by
    rw [hvs]
    exact lc_read hf σ H _ h
end
end Dx

namespace Dx
open PySem PySem.Spec PyProof.Rows L2
abbrev ME := Env1 → Option (R × Env1)
section
variable {X : Cx} {pn : List Nat} {G : Gx} {N : List Str} {k : Nat} {fa fb fc f : ME} {a b c : Expr} {pos : Pos}
theorem getD_dv {B : Bs} {Z H : Hp} {σ : L2.St} {ρ : Env1} {i : Nat} {d : PyData} (rl : Rl X.K B Z H σ ρ) (h : getD ρ i = some d) : ∃ v, σ[i]? = some (some v) ∧ Dv X.K H v d := by
  unfold getD at h
  split at h
  · rename_i e; cases h
    obtain ⟨v, h1, h2⟩ := rl.dat i _ e
    exact ⟨v, h1, h2.up rl.zh⟩
  · rename_i e; cases h
    obtain ⟨p, xs, h1, h2, h3, h4, _⟩ := rl.own i _ e
    exact ⟨_, h1, .lst (.inl (.inl h2)) (h4.up rl.zh)⟩
  · cases h
theorem de_var {i : Nat} {x : Str} (h : PE X (.Name x pos) (tVar i)) (hf : ∀ ρ, f ρ = (pubD pn ρ i).map fun p => (.dat p.1, p.2)) : DE X pn (.Name x pos) f := PE.imp h fun σ H Q ⟨B, Z, ρ, r, ρ', hp, rl, e, q⟩ => by
  rw [hf] at e
  unfold pubD at e
  split at e
  · rename_i d hd
    cases e
    obtain ⟨v, h1, h2⟩ := rl.dat i d hd
    exact ⟨v, h1, q v H Z rl (Same.refl _) h2⟩
  · rename_i ds hd
    split at e
    · cases e
    · rename_i hn
      cases e
      obtain ⟨v, Z', h1, r2, sm, dv⟩ := rl.give hd (by rw [hp]; simpa using hn)
      exact ⟨v, h1, q v H Z' r2 sm dv⟩
  · cases e
theorem de_c {e : Expr} {v : V} {d : PyData} (h : PE X e (tC v)) (hd : ∀ Z, Dv X.K Z v d) (hf : ∀ ρ, f ρ = some (.dat d, ρ)) : DE X pn e f := PE.imp h fun σ H Q ⟨B, Z, ρ, r, ρ', hp, rl, e, q⟩ => by
  rw [hf] at e; cases e
  exact q v H Z rl (Same.refl _) (hd Z)
theorem de_bin (g : Gd G N k X) {op : Operator} (ha : DE X pn a fa) (hb : DE X pn b fb) (hf : ∀ ρ, f ρ = (do
      let (x, ρ1) ← fa ρ
      let (y, ρ2) ← fb ρ1
      let r ← binD op x.d y.d
      some (r, ρ2))) : DE X pn (.BinOp a op b pos) f := PE.imp (pe_op (op_any X _) ha hb) fun σ H Q ⟨B, Z, ρ, r, ρ', hp, rl, e, q⟩ => by
  rw [hf] at e
  cases c1 : fa ρ with
  | none => rw [c1] at e; cases e
  | some w =>
  obtain ⟨x, ρ1⟩ := w
  rw [c1] at e
  simp only [Option.bind_eq_bind, Option.bind_some] at e
  cases c2 : fb ρ1 with
  | none => rw [c2] at e; cases e
  | some w =>
  obtain ⟨y, ρ2⟩ := w
  rw [c2] at e
  simp only [Option.bind_some] at e
  cases c3 : binD op x.d y.d with
  | none => rw [c3] at e; cases e
  | some r3 =>
  rw [c3] at e; cases e
  exact tD_d hp rl c1 fun v H1 Z1 rl1 sm1 dv => tD_d hp rl1 c2 fun w H2 Z2 rl2 sm2 dw =>
    bin_ok g c3 rl2 (dv.up sm2) dw fun u H3 Z3 rl3 sm3 rr => q u H3 Z3 rl3 (sm1.trans (sm2.trans sm3)) rr
theorem de_not (ha : DT X pn a fa) (hp' : PE X (.UnaryOp .Not a pos) (fun σ H Q => tDT X.K pn fa σ H fun k H1 => Q (.bl (!k)) H1)) (hf : ∀ ρ, f ρ = (do
      let (x, ρ1) ← fa ρ
      let k ← truD x.d
      some (.dat (.bool (!k)), ρ1))) : DE X pn (.UnaryOp .Not a pos) f := PE.imp hp' fun σ H Q ⟨B, Z, ρ, r, ρ', hp, rl, e, q⟩ => by
  rw [hf] at e
  cases c1 : fa ρ with
  | none => rw [c1] at e; cases e
  | some w =>
  obtain ⟨x, ρ1⟩ := w
  rw [c1] at e
  simp only [Option.bind_eq_bind, Option.bind_some] at e
  cases c2 : truD x.d with
  | none => rw [c2] at e; cases e
  | some kb =>
  rw [c2] at e; cases e
  exact tDT_k hp rl c1 c2 fun H1 Z1 rl1 sm1 => q _ H1 Z1 rl1 sm1 (.bl _)
theorem dt_not (ha : DT X pn a fa) (hf : ∀ ρ, f ρ = (do
      let (x, ρ1) ← fa ρ
      let k ← truD x.d
      some (.dat (.bool (!k)), ρ1))) : DT X pn (.UnaryOp .Not a pos) f := PT.imp (pt_not ha) fun σ H Q ⟨B, Z, ρ, r, ρ', k, hp, rl, e, hk, q⟩ => by
  rw [hf] at e
  cases c1 : fa ρ with
  | none => rw [c1] at e; cases e
  | some w =>
  obtain ⟨x, ρ1⟩ := w
  rw [c1] at e
  simp only [Option.bind_eq_bind, Option.bind_some] at e
  cases c2 : truD x.d with
  | none => rw [c2] at e; cases e
  | some kb =>
  rw [c2] at e; cases e
  cases hk
  exact tDT_k hp rl c1 c2 fun H1 Z1 rl1 sm1 => q H1 Z1 rl1 sm1
theorem dt_plain {e : Expr} (ha : DE X pn e f) (he : ∀ whole, isTrue e X.env whole = (do let v ← whole; standAt e.pos; holding [v] (truthy v))) : DT X pn e f := PT.imp (pt_truth ha he) fun σ H Q ⟨B, Z, ρ, r, ρ', k, hp, rl, e, hk, q⟩ => by
  refine tD_d hp rl e fun v H1 Z1 rl1 sm1 dv => ?_
  exact ⟨k, tru_D hk rl1.zh dv, q H1 Z1 rl1 sm1⟩
theorem de_neg (ha : DE X pn a fa) (hf : ∀ ρ, f ρ = (do
      let (x, ρ1) ← fa ρ
      match x.d with
      | .int i => some (.dat (.int (-i)), ρ1)
      | _ => none)) : DE X pn (.UnaryOp .USub a pos) f := PE.imp (pe_un un_neg ha) fun σ H Q ⟨B, Z, ρ, r, ρ', hp, rl, e, q⟩ => by
  rw [hf] at e
  cases c1 : fa ρ with
  | none => rw [c1] at e; cases e
  | some w =>
  obtain ⟨x, ρ1⟩ := w
  rw [c1] at e
  simp only [Option.bind_eq_bind, Option.bind_some] at e
  split at e
  · rename_i i hi
    cases e
    refine tD_d hp rl c1 fun v H1 Z1 rl1 sm1 dv => ?_
    rw [hi] at dv; cases dv
    exact ⟨_, rfl, q _ H1 Z1 rl1 sm1 (.int _)⟩
  · cases e
theorem de_cmp2 (g : Gd G N k X) {op op' : CmpOp} (ha : DE X pn a fa) (hb : DE X pn b fb) (hc : DE X pn c fc) (hm : lastMarks [op, op'] [b, c] = false) (hf : ∀ ρ, f ρ = (do
      let (x, ρ1) ← fa ρ
      let (y, ρ2) ← fb ρ1
      match ← cmpD op x.d y.d with
      | true => do
        let (z, ρ3) ← fc ρ2
        let k ← cmpD op' y.d z.d
        some (.dat (.bool k), ρ3)
      | false => some (.dat (.bool false), ρ2))) : DE X pn (.Compare a [op, op'] [b, c] pos) f ∧ DT X pn (.Compare a [op, op'] [b, c] pos) f := by
  have core : ∀ {ρ r ρ'}, f ρ = some (r, ρ') → ∃ x ρ1 y ρ2 kb, fa ρ = some (x, ρ1) ∧ fb ρ1 = some (y, ρ2) ∧ cmpD op x.d y.d = some kb ∧
      ((kb = false ∧ r = .dat (.bool false) ∧ ρ' = ρ2) ∨ ∃ z k2, kb = true ∧ fc ρ2 = some (z, ρ') ∧ cmpD op' y.d z.d = some k2 ∧ r = .dat (.bool k2)) := fun {ρ r ρ'} e => by
    rw [hf] at e
    cases c1 : fa ρ with
    | none => rw [c1] at e; cases e
    | some w =>
    obtain ⟨x, ρ1⟩ := w
    rw [c1] at e
    simp only [Option.bind_eq_bind, Option.bind_some] at e
    cases c2 : fb ρ1 with
    | none => rw [c2] at e; cases e
    | some w =>
    obtain ⟨y, ρ2⟩ := w
    rw [c2] at e
    simp only [Option.bind_some] at e
    cases c3 : cmpD op x.d y.d with
    | none => rw [c3] at e; cases e
    | some kb =>
    rw [c3] at e
    simp only [Option.bind_some] at e
    cases kb with
    | false => cases e; exact ⟨x, ρ1, y, _, false, rfl, c2, c3, .inl ⟨rfl, rfl, rfl⟩⟩
    | true =>
      simp only at e
      cases c4 : fc ρ2 with
      | none => rw [c4] at e; cases e
      | some w =>
      obtain ⟨z, ρ3⟩ := w
      rw [c4] at e
      simp only [Option.bind_some] at e
      cases c5 : cmpD op' y.d z.d with
      | none => rw [c5] at e; cases e
      | some k2 =>
      rw [c5] at e; cases e
      exact ⟨x, ρ1, y, ρ2, true, rfl, c2, c3, .inr ⟨z, k2, rfl, c4, c5, rfl⟩⟩
  refine ⟨PE.imp (pe_chain (op_any X _) (op_any X _) ha hb hc hm) fun σ H Q ⟨B, Z, ρ, r, ρ', hp, rl, e, q⟩ => ?_, PT.imp (pt_chain (op_any X _) (op_any X _) ha hb hc hm) fun σ H Q ⟨B, Z, ρ, r, ρ', k, hp, rl, e, hk, q⟩ => ?_⟩
  · obtain ⟨x, ρ1, y, ρ2, kb, c1, c2, c3, c4⟩ := core e
    refine tD_d hp rl c1 fun v H1 Z1 rl1 sm1 dv => tD_d hp rl1 c2 fun w H2 Z2 rl2 sm2 dw => cmp_ok g c3 rl2.zh (dv.up sm2) dw ⟨kb, rfl, ?_⟩
    rcases c4 with ⟨rfl, rfl, rfl⟩ | ⟨z, k2, rfl, c4, c5, rfl⟩
    · rw [if_neg Bool.false_ne_true]; exact q _ H2 Z2 rl2 (sm1.trans sm2) (.bl _)
    · rw [if_pos rfl]
      exact tD_d hp rl2 c4 fun u H3 Z3 rl3 sm3 du => cmp_ok g c5 rl3.zh (dw.up sm3) du (q _ H3 Z3 rl3 (sm1.trans (sm2.trans sm3)) (.bl _))
  · obtain ⟨x, ρ1, y, ρ2, kb, c1, c2, c3, c4⟩ := core e
    refine tD_d hp rl c1 fun v H1 Z1 rl1 sm1 dv => tD_d hp rl1 c2 fun w H2 Z2 rl2 sm2 dw => cmp_ok g c3 rl2.zh (dv.up sm2) dw ⟨kb, rfl, ?_⟩
    rcases c4 with ⟨rfl, rfl, rfl⟩ | ⟨z, k2, rfl, c4, c5, rfl⟩
    · cases hk
      rw [if_neg Bool.false_ne_true]; exact ⟨_, rfl, q H2 Z2 rl2 (sm1.trans sm2)⟩
    · cases hk
      rw [if_pos rfl]
      exact tD_d hp rl2 c4 fun u H3 Z3 rl3 sm3 du => cmp_ok g c5 rl3.zh (dw.up sm3) du ⟨_, rfl, q H3 Z3 rl3 (sm1.trans (sm2.trans sm3))⟩
/-- x if t else y -/
theorem pt_ite {t u : TT} {tc : TT} (hc : PT X c tc) (ha : PT X a t) (hb : PT X b u) : PT X (.IfExp c a b pos) (fun σ H Q => tc σ H fun k H1 => if k = true then t σ H1 Q else u σ H1 Q) := by
  refine ⟨fun pins s σ H Q I h => ?_⟩
  show wpAny _ _ (do if ← isTrue c X.env (eval c X.env) then isTrue a X.env (eval a X.env) else isTrue b X.env (eval b X.env)) _ _ _
  refine wpAny_bind (thn (hc.run pins s σ H _ I h) fun d s1 ⟨H1, I1, q1⟩ => ?_)
  cases d with
  | true => exact ha.run pins s1 σ H1 Q I1 q1
  | false => exact hb.run pins s1 σ H1 Q I1 q1
theorem de_ite (hc : DT X pn c fc) (ha : DE X pn a fa ∧ DT X pn a fa) (hb : DE X pn b fb ∧ DT X pn b fb) (hf : ∀ ρ, f ρ = (do
      let (x, ρ1) ← fc ρ
      match ← truD x.d with
      | true => fa ρ1
      | false => fb ρ1)) : DE X pn (.IfExp c a b pos) f ∧ DT X pn (.IfExp c a b pos) f := by
  have core : ∀ {ρ r ρ'}, f ρ = some (r, ρ') → ∃ x ρ1 kb, fc ρ = some (x, ρ1) ∧ truD x.d = some kb ∧ (if kb = true then fa ρ1 else fb ρ1) = some (r, ρ') := fun {ρ r ρ'} e => by
    rw [hf] at e
    cases c1 : fc ρ with
    | none => rw [c1] at e; cases e
    | some w =>
    obtain ⟨x, ρ1⟩ := w
    rw [c1] at e
    simp only [Option.bind_eq_bind, Option.bind_some] at e
    cases c2 : truD x.d with
    | none => rw [c2] at e; cases e
    | some kb =>
    rw [c2] at e
    refine ⟨x, ρ1, kb, rfl, c2, ?_⟩
    cases kb <;> exact e
  refine ⟨PE.imp (pe_ifExp hc ha.1 hb.1) fun σ H Q ⟨B, Z, ρ, r, ρ', hp, rl, e, q⟩ => ?_, PT.imp (pt_ite hc ha.2 hb.2) fun σ H Q ⟨B, Z, ρ, r, ρ', k, hp, rl, e, hk, q⟩ => ?_⟩
  · obtain ⟨x, ρ1, kb, c1, c2, c3⟩ := core e
    refine tDT_k hp rl c1 c2 fun H1 Z1 rl1 sm1 => ?_
    cases kb with
    | true => rw [if_pos rfl] at c3 ⊢; exact ⟨B, Z1, ρ1, r, ρ', hp, rl1, c3, fun v H2 Z2 rl2 sm2 rr => q v H2 Z2 rl2 (sm1.trans sm2) rr⟩
    | false => rw [if_neg Bool.false_ne_true] at c3 ⊢; exact ⟨B, Z1, ρ1, r, ρ', hp, rl1, c3, fun v H2 Z2 rl2 sm2 rr => q v H2 Z2 rl2 (sm1.trans sm2) rr⟩
  · obtain ⟨x, ρ1, kb, c1, c2, c3⟩ := core e
    refine tDT_k hp rl c1 c2 fun H1 Z1 rl1 sm1 => ?_
    cases kb with
    | true => rw [if_pos rfl] at c3 ⊢; exact ⟨B, Z1, ρ1, r, ρ', k, hp, rl1, c3, hk, fun H2 Z2 rl2 sm2 => q H2 Z2 rl2 (sm1.trans sm2)⟩
    | false => rw [if_neg Bool.false_ne_true] at c3 ⊢; exact ⟨B, Z1, ρ1, r, ρ', k, hp, rl1, c3, hk, fun H2 Z2 rl2 sm2 => q H2 Z2 rl2 (sm1.trans sm2)⟩
end
end Dx

namespace Dx
open PySem PySem.Spec PyProof.Rows L2
section
variable {X : Cx} {pn : List Nat} {G : Gx} {N : List Str} {k : Nat} {fa fb fc f : ME} {a b c : Expr} {pos : Pos}
/-- a value whose own list stands in the heap, its items in the region -/
def Dw (K : PySem.W.Frag) (Z H : Hp) (v : V) (d : PyData) : Prop := Dv K Z v d ∨ ∃ p xs ds, v = .ref p ∧ d = .list ds ∧ H p = some (.lst xs) ∧ DvAll K Z xs ds
theorem getD_dw {B : Bs} {Z H : Hp} {σ : L2.St} {ρ : Env1} {i : Nat} {d : PyData} (rl : Rl X.K B Z H σ ρ) (h : getD ρ i = some d) : ∃ v, σ[i]? = some (some v) ∧ Dw X.K Z H v d := by
  unfold getD at h
  split at h
  · rename_i e; cases h
    obtain ⟨v, h1, h2⟩ := rl.dat i _ e
    exact ⟨v, h1, .inl h2⟩
  · rename_i e; cases h
    obtain ⟨p, xs, h1, h2, h3, h4, _⟩ := rl.own i _ e
    exact ⟨_, h1, .inr ⟨p, xs, _, rfl, rfl, h2, h4⟩⟩
  · cases h
theorem idx_ow (g : Gd G N k X) {Z H : Hp} {x y : V} {d e b : PyData} {Q : VK} (hb : idxD d e = some b) (zh : Same Z H) (h1 : Dw X.K Z H x d) (h2 : Dv X.K Z y e) (q : ∀ v, Dv X.K Z v b → Q v H) : ixAny X x y H Q := by
  rcases h1 with h1 | ⟨p, xs, ds, rfl, rfl, h3, h4⟩
  · exact idx_ok g hb zh h1 h2 q
  · unfold idxD at hb
    split at hb
    · rename_i ds' j hd
      cases hd
      cases h2
      obtain ⟨v, e1, e2⟩ := h4.atI hb
      exact ⟨_, ix_list, _, _, _, v, rfl, rfl, .inl (.inl h3), e1, q v e2⟩
    · rename_i hd; cases hd
    · cases hb
theorem slc_ow (g : Gd G N k X) {B : Bs} {Z H : Hp} {σ : L2.St} {ρ : Env1} {x : V} {d : PyData} {r : R} {Q : VK} {lo hi : Option Int} (hb : slcD d lo hi = some r) (rl : Rl X.K B Z H σ ρ) (h1 : Dw X.K Z H x d)
    (q : ∀ v H' Z', Rl X.K B Z' H' σ ρ → Same Z Z' → RR X.K B Z' H' σ ρ v r → Q v H') : slAny X x lo hi H Q := by
  rcases h1 with h1 | ⟨p, xs, ds, rfl, rfl, h3, h4⟩
  · exact slc_ok g hb rl h1 q
  · unfold slcD at hb
    cases hb
    refine ⟨_, sl_list, _, _, rfl, .inl (.inl h3), fun p hp => ?_⟩
    obtain ⟨r1, r2⟩ := rl.newL hp (h4.cut lo hi)
    exact q _ _ _ r1 (Same.refl _) r2
/-- a read of it, with what it is later -/
theorem late_ok {var : Option Nat} {e : Expr} (ha : DE X pn e fa) (hv : ∀ i, var = some i → PE X e (tVar i)) : PE X e (fun σ H Q => ∃ B Z ρ x ρ1, pnOf B = pn ∧ Rl X.K B Z H σ ρ ∧ eOr fa var ρ = some (x, ρ1) ∧
    ∀ v H1 Z1, Rl X.K B Z1 H1 σ ρ1 → Same Z Z1 → (∀ Z2 H2 ρ2 d, Rl X.K B Z2 H2 σ ρ2 → Same Z1 Z2 → late var x ρ2 = some d → Dw X.K Z2 H2 v d) → Q v H1) := by
  cases var with
  | none =>
    refine PE.imp ha fun σ H Q ⟨B, Z, ρ, x, ρ1, hp, rl, e, q⟩ => ?_
    unfold eOr at e
    cases c1 : fa ρ with
    | none => rw [c1] at e; cases e
    | some w =>
    obtain ⟨r, ρ'⟩ := w
    rw [c1] at e; cases e
    refine tD_d hp rl c1 fun v H1 Z1 rl1 sm1 dv => q v H1 Z1 rl1 sm1 fun Z2 H2 ρ2 d rl2 sm2 hl => ?_
    cases hl
    exact .inl (dv.up sm2)
  | some i =>
    refine PE.imp (hv i rfl) fun σ H Q ⟨B, Z, ρ, x, ρ1, hp, rl, e, q⟩ => ?_
    unfold eOr at e
    cases c1 : getD ρ i with
    | none => simp only [c1] at e; cases e
    | some d =>
    simp only [c1] at e; cases e
    obtain ⟨v, h1, _⟩ := getD_dw rl c1
    refine ⟨v, h1, q v H Z rl (Same.refl _) fun Z2 H2 ρ2 d2 rl2 sm2 hl => ?_⟩
    obtain ⟨w, h2, h3⟩ := getD_dw rl2 hl
    rw [h1] at h2; cases h2
    exact h3
theorem Dw.up {Z H : Hp} {v : V} {d : PyData} (h : Dw X.K Z H v d) (zh : Same Z H) : Dv X.K H v d := by
  rcases h with h | ⟨p, xs, ds, rfl, rfl, h1, h2⟩
  · exact Dv.up h zh
  · exact .lst (.inl (.inl h1)) (h2.up zh)
theorem de_cmp (g : Gd G N k X) {op : CmpOp} {va vb : Option Nat} (ha : DE X pn a fa) (hva : ∀ i, va = some i → PE X a (tVar i)) (hb : DE X pn b fb) (hvb : ∀ i, vb = some i → PE X b (tVar i)) (hm : behindInMarks op b = false) (hf : ∀ ρ, f ρ = (do
      let (x, ρ1) ← eOr fa va ρ
      let (y, ρ2) ← eOr fb vb ρ1
      let x ← late va x ρ2
      let k ← cmpD op x y
      some (.dat (.bool k), ρ2))) : DE X pn (.Compare a [op] [b] pos) f ∧ DT X pn (.Compare a [op] [b] pos) f := by
  have core : ∀ {ρ r ρ'}, f ρ = some (r, ρ') → ∃ x ρ1 y x' kb, eOr fa va ρ = some (x, ρ1) ∧ eOr fb vb ρ1 = some (y, ρ') ∧ late va x ρ' = some x' ∧ cmpD op x' y = some kb ∧ r = .dat (.bool kb) := fun {ρ r ρ'} e => by
    rw [hf] at e
    cases c1 : eOr fa va ρ with
    | none => rw [c1] at e; cases e
    | some w =>
    obtain ⟨x, ρ1⟩ := w
    rw [c1] at e
    simp only [Option.bind_eq_bind, Option.bind_some] at e
    cases c2 : eOr fb vb ρ1 with
    | none => rw [c2] at e; cases e
    | some w =>
    obtain ⟨y, ρ2⟩ := w
    rw [c2] at e
    simp only [Option.bind_some] at e
    cases c4 : late va x ρ2 with
    | none => rw [c4] at e; cases e
    | some x' =>
    rw [c4] at e
    simp only [Option.bind_some] at e
    cases c3 : cmpD op x' y with
    | none => rw [c3] at e; cases e
    | some kb =>
    rw [c3] at e; cases e
    exact ⟨x, ρ1, y, x', kb, rfl, c2, c4, c3, rfl⟩
  have lt2 : ∀ {y : PyData} {ρ1 ρ2 : Env1}, eOr fb vb ρ1 = some (y, ρ2) → late vb y ρ2 = some y := fun {y ρ1 ρ2} e => by
    cases vb with
    | none => rfl
    | some i =>
      unfold eOr at e
      simp only at e
      cases c : getD ρ1 i with
      | none => rw [c] at e; cases e
      | some d =>
        rw [c] at e; cases e
        exact c
  refine ⟨PE.imp (pe_cmpR (op_any X _) (late_ok ha hva) (late_ok hb hvb) hm) fun σ H Q ⟨B, Z, ρ, r, ρ', hp, rl, e, q⟩ => ?_, PT.imp (pt_cmpR (op_any X _) (late_ok ha hva) (late_ok hb hvb) hm) fun σ H Q ⟨B, Z, ρ, r, ρ', k, hp, rl, e, hk, q⟩ => ?_⟩
  · obtain ⟨x, ρ1, y, x', kb, c1, c2, c4, c3, rfl⟩ := core e
    exact ⟨B, Z, ρ, x, ρ1, hp, rl, c1, fun v H1 Z1 rl1 sm1 lv => ⟨B, Z1, ρ1, y, ρ', hp, rl1, c2, fun w H2 Z2 rl2 sm2 lw =>
      cmp_ok g c3 (Same.refl H2) ((lv Z2 H2 ρ' x' rl2 sm2 c4).up rl2.zh) ((lw Z2 H2 ρ' y rl2 (Same.refl _) (lt2 c2)).up rl2.zh) (q _ H2 Z2 rl2 (sm1.trans sm2) (.bl _))⟩⟩
  · obtain ⟨x, ρ1, y, x', kb, c1, c2, c4, c3, rfl⟩ := core e
    cases hk
    exact ⟨B, Z, ρ, x, ρ1, hp, rl, c1, fun v H1 Z1 rl1 sm1 lv => ⟨B, Z1, ρ1, y, ρ', hp, rl1, c2, fun w H2 Z2 rl2 sm2 lw =>
      cmp_ok g c3 (Same.refl H2) ((lv Z2 H2 ρ' x' rl2 sm2 c4).up rl2.zh) ((lw Z2 H2 ρ' y rl2 (Same.refl _) (lt2 c2)).up rl2.zh) ⟨_, rfl, q H2 Z2 rl2 (sm1.trans sm2)⟩⟩⟩
theorem de_idx (g : Gd G N k X) {var : Option Nat} (ha : DE X pn a fa) (hv : ∀ i, var = some i → PE X a (tVar i)) (hb : DE X pn b fb) (hs : PlainIx b) (hf : ∀ ρ, f ρ = (do
      let (x, ρ1) ← eOr fa var ρ
      let (y, ρ2) ← fb ρ1
      let x ← late var x ρ2
      let d ← idxD x y.d
      some (.dat d, ρ2))) : DE X pn (.Subscript a b pos) f := PE.imp (pe_ix (ix_any X) (late_ok ha hv) hb hs) fun σ H Q ⟨B, Z, ρ, r, ρ', hp, rl, e, q⟩ => by
  rw [hf] at e
  cases c1 : eOr fa var ρ with
  | none => rw [c1] at e; cases e
  | some w =>
  obtain ⟨x, ρ1⟩ := w
  rw [c1] at e
  simp only [Option.bind_eq_bind, Option.bind_some] at e
  cases c2 : fb ρ1 with
  | none => rw [c2] at e; cases e
  | some w =>
  obtain ⟨y, ρ2⟩ := w
  rw [c2] at e
  simp only [Option.bind_some] at e
  cases c3 : late var x ρ2 with
  | none => rw [c3] at e; cases e
  | some x' =>
  rw [c3] at e
  simp only [Option.bind_some] at e
  cases c4 : idxD x' y.d with
  | none => rw [c4] at e; cases e
  | some d =>
  rw [c4] at e; cases e
  exact ⟨B, Z, ρ, x, ρ1, hp, rl, c1, fun v H1 Z1 rl1 sm1 lt => tD_d hp rl1 c2 fun w H2 Z2 rl2 sm2 dw =>
    idx_ow g c4 rl2.zh (lt Z2 H2 _ _ rl2 sm2 c3) dw fun u du => q u H2 Z2 rl2 (sm1.trans sm2) du⟩
def tDO (K : PySem.W.Frag) (pn : List Nat) (fo : Option ME) : TO := fun σ H Q => ∃ B Z ρ o ρ', pnOf B = pn ∧ Rl K B Z H σ ρ ∧ partD fo ρ = some (o, ρ') ∧ ∀ H' Z', Rl K B Z' H' σ ρ' → Same Z Z' → Q o H'
theorem po_imp {e : Option Expr} {t t' : TO} (h : PO X e t) (q : ∀ σ H Q, t' σ H Q → t σ H Q) : PO X e t' := ⟨fun pins s σ H Q I z => h.run pins s σ H Q I (q σ H Q z)⟩
theorem do_none : PO X none (tDO X.K pn none) := po_imp po_none fun σ H Q ⟨B, Z, ρ, o, ρ', hp, rl, e, q⟩ => by
  cases e; exact q H Z rl (Same.refl _)
theorem do_some {e : Expr} {fe : ME} (he : DE X pn e fe) : PO X (some e) (tDO X.K pn (some fe)) := po_imp (po_some he) fun σ H Q ⟨B, Z, ρ, o, ρ', hp, rl, e, q⟩ => by
  unfold partD at e
  simp only at e
  split at e
  · rename_i i ρ1 c1
    cases e
    refine tD_d hp rl c1 fun v H1 Z1 rl1 sm1 dv => ?_
    cases dv
    exact ⟨i, rfl, q H1 Z1 rl1 sm1⟩
  · cases e
theorem de_slc (g : Gd G N k X) {var : Option Nat} {lo hi : Option Expr} {fl fh : Option ME} {p2 : Pos} (ha : DE X pn a fa) (hv : ∀ i, var = some i → PE X a (tVar i)) (hl : PO X lo (tDO X.K pn fl)) (hh : PO X hi (tDO X.K pn fh)) (hf : ∀ ρ, f ρ = (do
      let (x, ρ1) ← eOr fa var ρ
      let (l, ρ2) ← partD fl ρ1
      let (h, ρ3) ← partD fh ρ2
      let x ← late var x ρ3
      let r ← slcD x l h
      some (r, ρ3))) : DE X pn (.Subscript a (.Slice lo hi none p2) pos) f := PE.imp (pe_slice (sl_any X) (late_ok ha hv) hl hh) fun σ H Q ⟨B, Z, ρ, r, ρ', hp, rl, e, q⟩ => by
  rw [hf] at e
  cases c1 : eOr fa var ρ with
  | none => rw [c1] at e; cases e
  | some w =>
  obtain ⟨x, ρ1⟩ := w
  rw [c1] at e
  simp only [Option.bind_eq_bind, Option.bind_some] at e
  cases c2 : partD fl ρ1 with
  | none => rw [c2] at e; cases e
  | some w =>
  obtain ⟨l, ρ2⟩ := w
  rw [c2] at e
  simp only [Option.bind_some] at e
  cases c3 : partD fh ρ2 with
  | none => rw [c3] at e; cases e
  | some w =>
  obtain ⟨h, ρ3⟩ := w
  rw [c3] at e
  simp only [Option.bind_some] at e
  cases c4 : late var x ρ3 with
  | none => rw [c4] at e; cases e
  | some x' =>
  rw [c4] at e
  simp only [Option.bind_some] at e
  cases c5 : slcD x' l h with
  | none => rw [c5] at e; cases e
  | some d =>
  rw [c5] at e; cases e
  exact ⟨B, Z, ρ, x, ρ1, hp, rl, c1, fun v H1 Z1 rl1 sm1 lt => ⟨B, Z1, ρ1, l, ρ2, hp, rl1, c2, fun H2 Z2 rl2 sm2 => ⟨B, Z2, ρ2, h, _, hp, rl2, c3, fun H3 Z3 rl3 sm3 =>
    slc_ow g c5 rl3 (lt Z3 H3 _ _ rl3 (sm2.trans sm3) c4) fun u H4 Z4 rl4 sm4 rr => q u H4 Z4 rl4 (sm1.trans (sm2.trans (sm3.trans sm4))) rr⟩⟩⟩
theorem de_rev {kk : Nat} {p1 p2 p3 : Pos} (ha : DE X pn a fa) (hf : ∀ ρ, f ρ = (do
      let (x, ρ1) ← fa ρ
      match x.d with
      | .list xs => some (.frs xs.reverse, ρ1)
      | _ => none)) : DE X pn (.Subscript a (.Slice none none (some (.UnaryOp .USub (.Constant (.int 1) kk p1) p2)) p3) pos) f := PE.imp (pe_revL ha) fun σ H Q ⟨B, Z, ρ, r, ρ', hp, rl, e, q⟩ => by
  rw [hf] at e
  cases c1 : fa ρ with
  | none => rw [c1] at e; cases e
  | some w =>
  obtain ⟨x, ρ1⟩ := w
  rw [c1] at e
  simp only [Option.bind_eq_bind, Option.bind_some] at e
  split at e
  · rename_i xs hx
    cases e
    refine tD_d hp rl c1 fun v H1 Z1 rl1 sm1 dv => ?_
    rw [hx] at dv
    cases dv with | lst a b =>
    refine ⟨_, _, rfl, (Same.seq rl1.zh a), fun p hp => ?_⟩
    obtain ⟨r1, r2⟩ := rl1.newL hp b.rev
    exact q _ _ _ r1 sm1 r2
  · cases e
/-! displays, built-ins -/
theorem da_all {es : List Expr} {fs : List Bool → Env1 → Option (List Ar × Env1)} (ha : DA X pn es fs) {B : Bs} {Z H : Hp} {σ : L2.St} {ρ ρ' : Env1} {as : List Ar} {ds : List PyData} {Q : List V → Hp → Prop} (hp : pnOf B = pn) (rl : Rl X.K B Z H σ ρ) (e : fs [] ρ = some (as, ρ')) (hd : arsD as = some ds)
    (q : ∀ vs H' Z', Rl X.K B Z' H' σ ρ' → Same Z Z' → DvAll X.K Z' vs ds → Q vs H') : tDA X.K pn [] fs σ H Q := ⟨B, Z, ρ, as, ρ', hp, rl, e, fun vs H' Z' rl' sm ar => q vs H' Z' rl' sm (ar.data hd)⟩
theorem de_tup {es : List Expr} {kk : Nat} {fs : List Bool → Env1 → Option (List Ar × Env1)} (ha : DA X pn es fs) (hf : ∀ ρ, f ρ = (do
      let (xs, ρ1) ← fs [] ρ
      let ds ← arsD xs
      if ds.length ≤ sizeLine then some (.dat (.tuple ds), ρ1) else none)) : DE X pn (.Tuple es kk pos) f := PE.imp (pe_tup (ha [])) fun σ H Q ⟨B, Z, ρ, r, ρ', hp, rl, e, q⟩ => by
  rw [hf] at e
  cases c1 : fs [] ρ with
  | none => rw [c1] at e; cases e
  | some w =>
  obtain ⟨xs, ρ1⟩ := w
  rw [c1] at e
  simp only [Option.bind_eq_bind, Option.bind_some] at e
  cases c2 : arsD xs with
  | none => rw [c2] at e; cases e
  | some ds =>
  rw [c2] at e
  simp only [Option.bind_some] at e
  split at e
  · rename_i hz
    cases e
    refine da_all ha hp rl c1 c2 fun vs H1 Z1 rl1 sm1 dv => ⟨by rw [dv.len]; exact hz, fun p hp => ?_⟩
    obtain ⟨g1, g2, g3⟩ := rl1.newT hp dv
    exact q _ _ _ g1 (sm1.trans g2) g3
  · cases e
theorem de_lst {es : List Expr} {fs : List Bool → Env1 → Option (List Ar × Env1)} (ha : DA X pn es fs) (hf : ∀ ρ, f ρ = (do
      let (xs, ρ1) ← fs [] ρ
      let ds ← arsD xs
      if ds.length ≤ sizeLine then some (.frs ds, ρ1) else none)) : DE X pn (.List es pos) f := PE.imp (pe_lst (ha [])) fun σ H Q ⟨B, Z, ρ, r, ρ', hp, rl, e, q⟩ => by
  rw [hf] at e
  cases c1 : fs [] ρ with
  | none => rw [c1] at e; cases e
  | some w =>
  obtain ⟨xs, ρ1⟩ := w
  rw [c1] at e
  simp only [Option.bind_eq_bind, Option.bind_some] at e
  cases c2 : arsD xs with
  | none => rw [c2] at e; cases e
  | some ds =>
  rw [c2] at e
  simp only [Option.bind_some] at e
  split at e
  · rename_i hz
    cases e
    refine da_all ha hp rl c1 c2 fun vs H1 Z1 rl1 sm1 dv => ⟨by rw [dv.len]; exact hz, fun p hp => ?_⟩
    obtain ⟨g1, g2⟩ := rl1.newL hp dv
    exact q _ _ _ g1 sm1 g2
  · cases e
theorem de_blt (g : Gd G N k X) {x : Str} {p : Pos} {u : Value} {e : Expr} {es : List Expr} {fs : List Bool → Env1 → Option (List Ar × Env1)} (hu : bltV x = some u) (hr : PE X (.Call (.Name x p) (e :: es) [] pos) (tCB (cAny X u) (tDA X.K pn [] fs))) (ha : DA X pn (e :: es) fs) (hf : ∀ ρ, f ρ = (do
      let (xs, ρ1) ← fs [] ρ
      let ds ← arsD xs
      let r ← bltD x ds
      some (r, ρ1))) : DE X pn (.Call (.Name x p) (e :: es) [] pos) f := PE.imp hr fun σ H Q ⟨B, Z, ρ, r, ρ', hp, rl, e, q⟩ => by
  rw [hf] at e
  cases c1 : fs [] ρ with
  | none => rw [c1] at e; cases e
  | some w =>
  obtain ⟨xs, ρ1⟩ := w
  rw [c1] at e
  simp only [Option.bind_eq_bind, Option.bind_some] at e
  cases c2 : arsD xs with
  | none => rw [c2] at e; cases e
  | some ds =>
  rw [c2] at e
  simp only [Option.bind_some] at e
  cases c3 : bltD x ds with
  | none => rw [c3] at e; cases e
  | some r3 =>
  rw [c3] at e; cases e
  exact da_all ha hp rl c1 c2 fun vs H1 Z1 rl1 sm1 dv => blt_ok g hu c3 rl1 dv fun v H2 Z2 rl2 sm2 rr => q v H2 Z2 rl2 (sm1.trans sm2) rr
theorem de_isi (g : Gd G N k X) {x : Str} {p p2 : Pos} {t : Str} (hx : x = "isinstance") (hg : Gl X x) (ha : DE X pn a fa) (ht : PE X (.Name t p2) (tC (.ty (tyN t)))) (hs1 : starEach [a, .Name t p2] X.env = (false, eval a X.env) :: starEach [.Name t p2] X.env) (hf : ∀ ρ, f ρ = (do
      let (x, ρ1) ← fa ρ
      let k ← isiL x.d [t]
      some (.dat (.bool k), ρ1))) : DE X pn (.Call (.Name x p) [a, .Name t p2] [] pos) f := by
  subst hx
  refine PE.imp (pe_callB call_isi hg (g.mg (by decide +kernel)) (by decide +kernel) (pa_cons ha (pa_cons ht pa_nil rfl) hs1) (by decide) (by decide) hs1 rfl) fun σ H Q ⟨B, Z, ρ, r, ρ', hp, rl, e, q⟩ => ?_
  rw [hf] at e
  cases c1 : fa ρ with
  | none => rw [c1] at e; cases e
  | some w =>
  obtain ⟨y, ρ1⟩ := w
  rw [c1] at e
  simp only [Option.bind_eq_bind, Option.bind_some] at e
  cases c2 : isiL y.d [t] with
  | none => rw [c2] at e; cases e
  | some kb =>
  rw [c2] at e; cases e
  refine tD_d hp rl c1 fun v H1 Z1 rl1 sm1 dv => ?_
  have z := isi_any (K := X.K) [t] kb c2
  have z2 : PySem.W.kitOne X.K (.type (tyD y.d)) (.type (tyN t)) = some kb := by
    have z : PySem.W.kitAny X.K (.type (tyD y.d)) [.type (tyN t)] = some kb := z
    unfold PySem.W.kitAny at z
    split at z
    · rename_i h; cases z; exact h
    · rename_i h; rw [kitAny_nil] at z; cases z; exact h
    · cases z
  exact ⟨v, .ty (tyN t), _, _, kb, rfl, .ty _, tyX_of rl1.zh dv, z2, q _ H1 Z1 rl1 sm1 (.bl _)⟩
end
end Dx

namespace Dx
open PySem PySem.Spec PyProof.Rows L2
/-! ## Targets -/
def tDGs (K : PySem.W.Frag) (pn : List Nat) (S : List Nat) (f : PyData → Env1 → Option Env1) : TGs := fun vs σ H Q =>
  ∃ B Z ρ ds ρ', pnOf B = pn ∧ Rl K B Z H σ ρ ∧ DvAll K Z vs ds ∧ f (.tuple ds) ρ = some ρ' ∧ ∀ σ' H' Z', Rl K B Z' H' σ' ρ' → Same Z Z' → (∀ i, i ∉ S → σ'[i]? = σ[i]?) → σ'.length = σ.length → Q σ' H'
theorem pg_imp {X : Cx} {e : Expr} {t t' : TG} (h : PG X e t) (q : ∀ v σ H Q, t' v σ H Q → t v σ H Q) : PG X e t' := ⟨fun pins s σ H v u Q I r z => h.run pins s σ H v u Q I r (q v σ H Q z)⟩
theorem pgs_imp {X : Cx} {e : List Expr} {t t' : TGs} (h : PGs X e t) (q : ∀ v σ H Q, t' v σ H Q → t v σ H Q) : PGs X e t' := ⟨fun pins s σ H v u Q I r z => h.run pins s σ H v u Q I r (q v σ H Q z)⟩
section
variable {X : Cx} {pn : List Nat} {N : List Str}
theorem setS_some {ρ ρ' : Env1} {i : Nat} {s : Sl} (h : setS pn ρ i s = some ρ') : i ∉ pn ∧ i < ρ.length ∧ ρ' = ρ.set i (some s) := by
  unfold setS at h
  split at h
  · cases h
  · rename_i h1
    split at h
    · cases h; exact ⟨by simpa using h1, by assumption, rfl⟩
    · cases h
theorem dg_name {i : Nat} {x : Str} {pos : Pos} {f : PyData → Env1 → Option Env1} (hN : X.N.Nodup) (hi : X.N[i]? = some x) (hx : Loc X.env.scope x) (hfn : X.fn x = true ∨ X.env.scope.names.lookup x = some .local)
    (hf : ∀ d ρ, f d ρ = setS pn ρ i (.dat d)) : DG X pn [i] (.Name x pos) f := pg_imp (pg_name hN hi hx hfn) fun v σ H Q ⟨B, Z, ρ, d, ρ', hp, rl, dv, e, q⟩ => by
  rw [hf] at e
  obtain ⟨h1, h2, rfl⟩ := setS_some e
  refine q _ H Z (rl.setDat h2 (by rw [hp]; exact h1) dv) (Same.refl _) (fun j hj => ?_) (by simp)
  rw [List.getElem?_set_ne]
  intro z; exact hj (by simp [z])
theorem dgs_nil {f : PyData → Env1 → Option Env1} (hf : ∀ d ρ, f d ρ = match d with | .tuple [] => some ρ | _ => none) : PGs X [] (tDGs X.K pn [] f) := pgs_imp pgs_nil fun vs σ H Q ⟨B, Z, ρ, ds, ρ', hp, rl, dv, e, q⟩ => by
  rw [hf] at e
  cases ds with
  | cons d ds => cases e
  | nil =>
    cases e
    cases dv
    exact ⟨rfl, q σ H Z rl (Same.refl _) (fun _ _ => rfl) rfl⟩
theorem dgs_cons {e : Expr} {es : List Expr} {S S' : List Nat} {f g h : PyData → Env1 → Option Env1} (h1 : DG X pn S e f) (h2 : PGs X es (tDGs X.K pn S' g)) (hs : (assignEach (e :: es) X.env).map (·.2) = assign e X.env :: (assignEach es X.env).map (·.2))
    (hf : ∀ d ρ, h d ρ = match d with
        | .tuple (x :: xs) => do
          let ρ1 ← f x ρ
          g (.tuple xs) ρ1
        | _ => none) : PGs X (e :: es) (tDGs X.K pn (S ++ S') h) := pgs_imp (pgs_cons h1 h2 hs) fun vs σ H Q ⟨B, Z, ρ, ds, ρ', hp, rl, dv, e, q⟩ => by
  rw [hf] at e
  cases ds with
  | nil => cases e
  | cons d ds =>
    cases dv with | cons d1 d2 =>
    simp only [Option.bind_eq_bind] at e
    cases c1 : f d ρ with
    | none => rw [c1] at e; cases e
    | some ρ1 =>
    rw [c1] at e
    simp only [Option.bind_some] at e
    refine ⟨_, _, rfl, B, Z, ρ, d, ρ1, hp, rl, d1, c1, fun σ1 H1 Z1 rl1 sm1 ag1 l1 => ?_⟩
    refine ⟨B, Z1, ρ1, ds, ρ', hp, rl1, d2.up sm1, e, fun σ2 H2 Z2 rl2 sm2 ag2 l2 => ?_⟩
    refine q σ2 H2 Z2 rl2 (sm1.trans sm2) (fun i hi => ?_) (l2.trans l1)
    rw [List.mem_append, not_or] at hi
    rw [ag2 i hi.2, ag1 i hi.1]
theorem dg_tup {es : List Expr} {kk : Nat} {pos : Pos} {S : List Nat} {f g : PyData → Env1 → Option Env1} (hc : X.calm = true) (h : PGs X es (tDGs X.K pn S g)) (hst : (assignEach es X.env).findIdx? (·.1) = none) (hlen : ∀ ds ρ ρ', g (.tuple ds) ρ = some ρ' → ds.length = (assignEach es X.env).length)
    (hno : ∀ d ρ ρ', g d ρ = some ρ' → ∃ ds, d = .tuple ds) (hf : ∀ d ρ, f d ρ = g d ρ) : DG X pn S (.Tuple es kk pos) f := pg_imp (pg_tup (n := (assignEach es X.env).length) hc h rfl hst) fun v σ H Q ⟨B, Z, ρ, d, ρ', hp, rl, dv, e, q⟩ => by
  rw [hf] at e
  obtain ⟨ds, rfl⟩ := hno _ _ _ e
  cases dv with | tup a b =>
  refine ⟨_, _, rfl, sameT rl.zh a, by rw [b.len]; exact hlen _ _ _ e, B, Z, ρ, ds, ρ', hp, rl, b, e, q⟩
end
theorem ixN?_some {N : List Str} {x : Str} {i : Nat} (h : ixN? N x = some i) : N[i]? = some x := by
  unfold ixN? at h
  obtain ⟨h1, h2, _⟩ := List.findIdx?_eq_some_iff_getElem.mp h
  rw [List.getElem?_eq_getElem h1]
  have : N[i] = x := by simpa using h2
  rw [this]
theorem okN_debug {x : Str} (h : okN x = true) : (x == ("__debug__" : Str)) = false ∧ (x == ("__classdict__" : Str)) = false := by
  unfold okN at h
  simpa using h
theorem vis_of {sc : Scope} {x : Str} (h : visB sc x = true) : okN x = true ∧ Vis sc x := by
  unfold visB at h
  obtain ⟨h1, h2⟩ := Bool.and_eq_true_iff.mp h
  refine ⟨h1, ?_⟩
  split at h2
  · exact .inl (by assumption)
  · exact .inr (.inl (by assumption))
  · exact .inr (.inr (by assumption))
  · cases h2
theorem gl_of {sc : Scope} {x : Str} (h : glB sc x = true) : okN x = true ∧ sc.names.lookup x = some .globalImplicit := by
  unfold glB at h
  obtain ⟨h1, h2⟩ := Bool.and_eq_true_iff.mp h
  refine ⟨h1, ?_⟩
  split at h2
  · assumption
  · cases h2
theorem loc_of {fnb : Str → Bool} {sc : Scope} {x : Str} (h : locB fnb sc x = true) : Loc sc x ∧ (fnb x = true ∨ sc.names.lookup x = some .local) := by
  unfold locB at h
  split at h
  · exact ⟨.inl (by assumption), .inr (by assumption)⟩
  · exact ⟨.inr (by assumption), .inl h⟩
  · cases h
/-- targets' trees mean what the text's targets do -/
theorem cT_ok {G : Gx} {wf : Nat} {X : Cx} {pn : List Nat} (hN : X.N.Nodup) (hc : X.calm = true) : ∀ (n : Nat) (e : Expr) (t : I) (S : List Nat), cT X.N X.fn X.env.scope n e = some (t, S) → DG X pn S e (sm G pn wf t).t ∧ (∀ es, (assignEach (e :: es) X.env) = (false, assign e X.env) :: assignEach es X.env)
  | 0, _, _, _, h => by unfold cT at h; cases h
  | n + 1, e, t, S, h => by
    have step : ∀ (es : List Expr) (t : I) (S : List Nat), cT.go X.N X.fn X.env.scope n es = some (t, S) → PGs X es (tDGs X.K pn S (sm G pn wf t).t) ∧ (assignEach es X.env).findIdx? (·.1) = none ∧
        (∀ ds ρ ρ', (sm G pn wf t).t (.tuple ds) ρ = some ρ' → ds.length = (assignEach es X.env).length) ∧ (∀ d ρ ρ', (sm G pn wf t).t d ρ = some ρ' → ∃ ds, d = .tuple ds) := by
      intro es
      induction es with
      | nil =>
        intro t S h
        unfold cT.go at h
        cases h
        refine ⟨dgs_nil fun d ρ => rfl, rfl, fun ds ρ ρ' h => ?_, fun d ρ ρ' h => ?_⟩
        · cases ds with
          | nil => rfl
          | cons a b => cases h
        · cases d <;> first | exact ⟨_, rfl⟩ | cases h
      | cons e es ih =>
        intro t S h
        unfold cT.go at h
        cases c1 : cT X.N X.fn X.env.scope n e with
        | none => rw [c1] at h; cases h
        | some a =>
        obtain ⟨a1, a2⟩ := a
        rw [c1] at h
        cases c2 : cT.go X.N X.fn X.env.scope n es with
        | none => rw [c2] at h; cases h
        | some b =>
        obtain ⟨b1, b2⟩ := b
        rw [c2] at h
        cases h
        obtain ⟨g1, g2⟩ := cT_ok hN hc n e a1 a2 c1
        obtain ⟨i1, i2, i3, i4⟩ := ih b1 b2 c2
        refine ⟨dgs_cons g1 i1 (by rw [g2 es]; rfl) fun d ρ => rfl, ?_, fun ds ρ ρ' h => ?_, fun d ρ ρ' h => ?_⟩
        · rw [g2 es, List.findIdx?_cons]
          simp [i2]
        · cases ds with
          | nil => cases h
          | cons d ds =>
            rw [g2 es]
            have h : ((sm G pn wf a1).t d ρ >>= fun ρ1 => (sm G pn wf b1).t (.tuple ds) ρ1) = some ρ' := h
            cases c3 : (sm G pn wf a1).t d ρ with
            | none => rw [c3] at h; cases h
            | some ρ1 =>
              rw [c3] at h
              have := i3 ds ρ1 ρ' h
              simp [this]
        · cases d with
          | tuple ds => exact ⟨_, rfl⟩
          | _ => cases h
    cases e with
    | Name x pos =>
      unfold cT at h
      cases c1 : ixN? X.N x with
      | none => rw [c1] at h; cases h
      | some i =>
      rw [c1] at h
      simp only [Option.bind_eq_bind, Option.bind_some] at h
      split at h
      · rename_i hl
        cases h
        obtain ⟨l1, l2⟩ := loc_of (Bool.and_eq_true_iff.mp hl).1
        exact ⟨dg_name hN (ixN?_some c1) l1 l2 fun d ρ => rfl, fun es => rfl⟩
      · cases h
    | Tuple es kk pos =>
      unfold cT at h
      cases c1 : cT.go X.N X.fn X.env.scope n es with
      | none => rw [c1] at h; cases h
      | some a =>
      obtain ⟨a1, a2⟩ := a
      rw [c1] at h
      cases h
      obtain ⟨i1, i2, i3, i4⟩ := step es a1 a2 c1
      exact ⟨dg_tup hc i1 i2 i3 i4 fun d ρ => rfl, fun es => rfl⟩
    | _ => unfold cT at h; cases h
end Dx

namespace Dx
open PySem PySem.Spec PyProof.Rows L2
section
variable {c : Cc} {G : Gx} {wf : Nat} {pn : List Nat} {k : Nat}
theorem Gd.blk {X : Cx} (g : Gd G c.N k X) (s : Shared) (H : Hp) (scope : Scope) (cenv : Env) (fp : List Addr) : Gd G c.N k (X.blk s H scope cenv fp) :=
  ⟨g.hN, g.nd, g.calm, g.room, g.fns, g.cons, g.blt, PassesOwn.never⟩
/-- what a served expression is: a reading, a test, a slot -/
def Ok (X : Cx) (pn : List Nat) (G : Gx) (wf : Nat) (e : Expr) (i : I) : Prop := (DE X pn e (sm G pn wf i).e ∧ DT X pn e (sm G pn wf i).e) ∧ ∀ j, varI i = some j → PE X e (tVar j)
theorem Ok.plain {X : Cx} {e : Expr} {i : I} (h : DE X pn e (sm G pn wf i).e) (he : ∀ whole, isTrue e X.env whole = (do let v ← whole; standAt e.pos; holding [v] (truthy v))) (hv : varI i = none) : Ok X pn G wf e i :=
  ⟨⟨h, dt_plain h he⟩, fun j z => by rw [hv] at z; cases z⟩
theorem bool_none {α : Type} {a b : Option α} : (a >>= fun _ => b) = none → a = none ∨ b = none := by cases a <;> simp
/-- a list of served expressions as arguments -/
theorem lsG_ok {X : Cx} {f : Expr → Option I} (hf : ∀ v p, f (.Starred v p) = none) (ok : ∀ e i, f e = some i → Ok X pn G wf e i) : ∀ (es : List Expr) (i : I), lsG f es = some i → DA X pn es (sm G pn wf i).a
  | [], i, h => by cases h; exact da_nil fun ks ρ => rfl
  | e :: es, i, h => by
    unfold lsG at h
    cases h1 : f e with
    | none => rw [h1] at h; cases h
    | some a =>
    rw [h1] at h
    cases h2 : lsG f es with
    | none => rw [h2] at h; cases h
    | some b =>
    rw [h2] at h; cases h
    exact da_cons (ok e a h1).1.1 (lsG_ok hf ok es b h2) (ok e a h1).2 (noStar hf h1 es X.env) fun ks ρ => rfl
theorem boG_ok {X : Cx} {op : BoolOp} {f : Expr → Option I} {pos : Pos} (ok : ∀ e i, f e = some i → Ok X pn G wf e i) : ∀ (es : List Expr) (i : I), boG op f es = some i →
    DE X pn (.BoolOp op es pos) (sm G pn wf i).e ∧ PW X (.BoolOp op es pos) (tDT X.K pn (sm G pn wf i).e)
  | [], i, h => by cases h
  | [e], i, h => by
    have h : f e = some i := h
    refine ⟨pe_one (ok e i h).1.1, ?_⟩
    cases op with
    | And => exact pw_and1 (ok e i h).1.2
    | Or => exact pw_or1 (ok e i h).1.2
  | e :: e2 :: es, i, h => by
    unfold boG at h
    cases h1 : f e with
    | none => rw [h1] at h; cases h
    | some a =>
    rw [h1] at h
    cases h2 : boG op f (e2 :: es) with
    | none => rw [h2] at h; cases h
    | some b =>
    rw [h2] at h
    obtain ⟨i1, i2⟩ := boG_ok (pos := pos) ok (e2 :: es) b h2
    have oa := ok e a h1
    cases op with
    | And =>
      cases h
      have core : ∀ {ρ r ρ'}, (sm G pn wf (.and a b)).e ρ = some (r, ρ') → ∃ x ρ1 kb, (sm G pn wf a).e ρ = some (x, ρ1) ∧ truD x.d = some kb ∧ ((kb = true ∧ (sm G pn wf b).e ρ1 = some (r, ρ')) ∨ (kb = false ∧ r = .dat x.d ∧ ρ' = ρ1)) := fun {ρ r ρ'} e => by
        have e : ((sm G pn wf a).e ρ >>= fun p => truD p.1.d >>= fun kb => match kb with | true => (sm G pn wf b).e p.2 | false => some (.dat p.1.d, p.2)) = some (r, ρ') := e
        cases c1 : (sm G pn wf a).e ρ with
        | none => rw [c1] at e; cases e
        | some w =>
        obtain ⟨x, ρ1⟩ := w
        rw [c1] at e
        simp only [Option.bind_eq_bind, Option.bind_some] at e
        cases c2 : truD x.d with
        | none => rw [c2] at e; cases e
        | some kb =>
        rw [c2] at e
        cases kb with
        | true => exact ⟨x, ρ1, true, rfl, c2, .inl ⟨rfl, e⟩⟩
        | false => cases e; exact ⟨x, _, false, rfl, c2, .inr ⟨rfl, rfl, rfl⟩⟩
      refine ⟨PE.imp (pe_andT oa.1.1 i1) fun σ H Q ⟨B, Z, ρ, r, ρ', hp, rl, e, q⟩ => ?_, ⟨fun wh pins s σ H Q I z => (pw_and oa.1.2 i2).run wh pins s σ H Q I ?_⟩⟩
      · obtain ⟨x, ρ1, kb, c1, c2, c3⟩ := core e
        refine tD_d hp rl c1 fun v H1 Z1 rl1 sm1 dv => ⟨kb, tru_D c2 rl1.zh dv, ?_⟩
        rcases c3 with ⟨rfl, c3⟩ | ⟨rfl, rfl, rfl⟩
        · rw [if_pos rfl]; exact ⟨B, Z1, ρ1, r, ρ', hp, rl1, c3, fun u H2 Z2 rl2 sm2 rr => q u H2 Z2 rl2 (sm1.trans sm2) rr⟩
        · rw [if_neg Bool.false_ne_true]; exact q v H1 Z1 rl1 sm1 dv
      · obtain ⟨B, Z, ρ, r, ρ', k, hp, rl, e, hk, q⟩ := z
        obtain ⟨x, ρ1, kb, c1, c2, c3⟩ := core e
        refine tDT_k hp rl c1 c2 fun H1 Z1 rl1 sm1 => ?_
        rcases c3 with ⟨rfl, c3⟩ | ⟨rfl, rfl, rfl⟩
        · rw [if_pos rfl]; exact ⟨B, Z1, ρ1, r, ρ', k, hp, rl1, c3, hk, fun H2 Z2 rl2 sm2 => q H2 Z2 rl2 (sm1.trans sm2)⟩
        · rw [if_neg Bool.false_ne_true]
          have : k = false := by
            have hk : truD x.d = some k := hk
            rw [c2] at hk; cases hk; rfl
          rw [this] at q
          exact q H1 Z1 rl1 sm1
    | Or =>
      cases h
      have core : ∀ {ρ r ρ'}, (sm G pn wf (.or a b)).e ρ = some (r, ρ') → ∃ x ρ1 kb, (sm G pn wf a).e ρ = some (x, ρ1) ∧ truD x.d = some kb ∧ ((kb = false ∧ (sm G pn wf b).e ρ1 = some (r, ρ')) ∨ (kb = true ∧ r = .dat x.d ∧ ρ' = ρ1)) := fun {ρ r ρ'} e => by
        have e : ((sm G pn wf a).e ρ >>= fun p => truD p.1.d >>= fun kb => match kb with | true => some (.dat p.1.d, p.2) | false => (sm G pn wf b).e p.2) = some (r, ρ') := e
        cases c1 : (sm G pn wf a).e ρ with
        | none => rw [c1] at e; cases e
        | some w =>
        obtain ⟨x, ρ1⟩ := w
        rw [c1] at e
        simp only [Option.bind_eq_bind, Option.bind_some] at e
        cases c2 : truD x.d with
        | none => rw [c2] at e; cases e
        | some kb =>
        rw [c2] at e
        cases kb with
        | false => exact ⟨x, ρ1, false, rfl, c2, .inl ⟨rfl, e⟩⟩
        | true => cases e; exact ⟨x, _, true, rfl, c2, .inr ⟨rfl, rfl, rfl⟩⟩
      refine ⟨PE.imp (pe_orT oa.1.1 i1) fun σ H Q ⟨B, Z, ρ, r, ρ', hp, rl, e, q⟩ => ?_, ⟨fun wh pins s σ H Q I z => (pw_or oa.1.2 i2).run wh pins s σ H Q I ?_⟩⟩
      · obtain ⟨x, ρ1, kb, c1, c2, c3⟩ := core e
        refine tD_d hp rl c1 fun v H1 Z1 rl1 sm1 dv => ⟨kb, tru_D c2 rl1.zh dv, ?_⟩
        rcases c3 with ⟨rfl, c3⟩ | ⟨rfl, rfl, rfl⟩
        · rw [if_neg Bool.false_ne_true]; exact ⟨B, Z1, ρ1, r, ρ', hp, rl1, c3, fun u H2 Z2 rl2 sm2 rr => q u H2 Z2 rl2 (sm1.trans sm2) rr⟩
        · rw [if_pos rfl]; exact q v H1 Z1 rl1 sm1 dv
      · obtain ⟨B, Z, ρ, r, ρ', k, hp, rl, e, hk, q⟩ := z
        obtain ⟨x, ρ1, kb, c1, c2, c3⟩ := core e
        refine tDT_k hp rl c1 c2 fun H1 Z1 rl1 sm1 => ?_
        rcases c3 with ⟨rfl, c3⟩ | ⟨rfl, rfl, rfl⟩
        · rw [if_neg Bool.false_ne_true]; exact ⟨B, Z1, ρ1, r, ρ', k, hp, rl1, c3, hk, fun H2 Z2 rl2 sm2 => q H2 Z2 rl2 (sm1.trans sm2)⟩
        · rw [if_pos rfl]
          have : k = true := by
            have hk : truD x.d = some k := hk
            rw [c2] at hk; cases hk; rfl
          rw [this] at q
          exact q H1 Z1 rl1 sm1
theorem cE_star {n : Nat} {fb : Str → Bool} {sc : Scope} (v : Expr) (p : Pos) : cE c n fb sc (.Starred v p) = none := by
  cases n <;> rfl
theorem tyN_ok {X : Cx} {t : Str} {p : Pos} (g : Gd G c.N k X) (h : (glB X.env.scope t && tyNames.contains t) = true) : PE X (.Name t p) (tC (.ty (tyN t))) := by
  obtain ⟨h1, h2⟩ := Bool.and_eq_true_iff.mp h
  obtain ⟨h3, h4⟩ := gl_of h1
  have hd := (okN_debug h3).1
  have h2 : t ∈ tyNames := by simpa using h2
  simp only [tyNames, List.mem_cons, List.not_mem_nil, or_false] at h2
  rcases h2 with e | e | e | e | e | e <;> subst e
  · exact pe_bltn h4 (g.mg (by decide +kernel)) (show bootBuiltins "int" = some (.type "int") by decide +kernel) rfl
  · exact pe_bltn h4 (g.mg (by decide +kernel)) (show bootBuiltins "bool" = some (.type "bool") by decide +kernel) rfl
  · exact pe_bltn h4 (g.mg (by decide +kernel)) (show bootBuiltins "tuple" = some (.type "tuple") by decide +kernel) rfl
  · exact pe_bltn h4 (g.mg (by decide +kernel)) (show bootBuiltins "list" = some (.type "list") by decide +kernel) rfl
  · exact pe_bltn h4 (g.mg (by decide +kernel)) (show bootBuiltins "str" = some (.type "str") by decide +kernel) rfl
  · exact pe_bltn h4 (g.mg (by decide +kernel)) (show bootBuiltins "dict" = some (.type "dict") by decide +kernel) rfl
end
end Dx

namespace Dx
open PySem PySem.Spec PyProof.Rows L2
/-! ## Statements -/
abbrev MS := Env1 → Option Out
section
variable {X : Cx} {pn : List Nat} {G : Gx} {N : List Str} {k : Nat} {fe fa fb fc : ME} {f f1 f2 : MS} {e a b c : Expr} {pos : Pos}
theorem OutP.up {K : PySem.W.Frag} {B : Bs} {Z Z' : Hp} {D : Ends} {o : Out} (h : OutP K B Z D o) (e : Same Z Z') : OutP K B Z' D o := by
  cases o with
  | nx ρ => exact fun σ' H' Z2 r s => h σ' H' Z2 r (e.trans s)
  | rt r ρ => exact fun v σ' H' Z2 r s => h v σ' H' Z2 r (e.trans s)
  | bk ρ => exact fun σ' H' Z2 r s => h σ' H' Z2 r (e.trans s)
  | ct ρ => exact fun σ' H' Z2 r s => h σ' H' Z2 r (e.trans s)
theorem dss_nil (hf : ∀ ρ, f ρ = some (.nx ρ)) : DSs X pn [] f := PSs.imp pss_nil fun D σ H ⟨B, Z, ρ, o, hp, rl, e, q⟩ => by
  rw [hf] at e; cases e
  exact q σ H Z rl (Same.refl Z)
theorem dss_cons {s : Stmt} {ss : List Stmt} (h1 : DS X pn s f1) (h2 : DSs X pn ss f2) (hf : ∀ ρ, f ρ = (do
      match ← f1 ρ with
      | .nx ρ1 => f2 ρ1
      | o => some o)) : DSs X pn (s :: ss) f := PSs.imp (pss_cons h1 h2) fun D σ H ⟨B, Z, ρ, o, hp, rl, e, q⟩ => by
  rw [hf] at e
  cases c1 : f1 ρ with
  | none => rw [c1] at e; cases e
  | some o1 =>
  rw [c1] at e
  simp only [Option.bind_eq_bind, Option.bind_some] at e
  refine ⟨B, Z, ρ, o1, hp, rl, c1, ?_⟩
  cases o1 with
  | nx ρ1 => exact fun σ' H' Z' rl' sm' => ⟨B, Z', ρ1, o, hp, rl', e, q.up sm'⟩
  | rt r ρ1 => cases e; exact q
  | bk ρ1 => cases e; exact q
  | ct ρ1 => cases e; exact q
theorem ds_pass (hf : ∀ ρ, f ρ = some (.nx ρ)) : DS X pn (.Pass pos) f := PS.imp ps_pass fun D σ H ⟨B, Z, ρ, o, hp, rl, e, q⟩ => by
  rw [hf] at e; cases e
  exact q σ H Z rl (Same.refl Z)
theorem ds_never {s : Stmt} (hf : ∀ ρ, f ρ = none) : DS X pn s f := ⟨fun pins s σ H D I ⟨B, Z, ρ, o, hp, rl, e, q⟩ => by rw [hf] at e; cases e⟩
theorem ds_ret (he : DE X pn e fe) (hf : ∀ ρ, f ρ = (do
      let (x, ρ1) ← fe ρ
      some (.rt x ρ1))) : DS X pn (.Return (some e) pos) f := PS.imp (ps_ret he) fun D σ H ⟨B, Z, ρ, o, hp, rl, e, q⟩ => by
  rw [hf] at e
  cases c1 : fe ρ with
  | none => rw [c1] at e; cases e
  | some w =>
  obtain ⟨x, ρ1⟩ := w
  rw [c1] at e; cases e
  exact tD_r hp rl c1 fun v H1 Z1 rl1 sm1 rr => q v σ H1 Z1 rl1 sm1 rr
theorem ds_retN (hf : ∀ ρ, f ρ = some (.rt (.dat .none) ρ)) : DS X pn (.Return none pos) f := PS.imp ps_retN fun D σ H ⟨B, Z, ρ, o, hp, rl, e, q⟩ => by
  rw [hf] at e; cases e
  exact q .non σ H Z rl (Same.refl Z) .non
theorem ds_retv {i : Nat} {x : Str} {p : Pos} (hv : PE X (.Name x p) (tVar i)) (hf : ∀ ρ, f ρ = match ρ[i]? with
      | some (some (.dat d)) => some (.rt (.dat d) ρ)
      | some (some (.own ds)) => if pn.contains i then none else some (.rt (.frs ds) (ρ.set i none))
      | _ => none) : DS X pn (.Return (some (.Name x p)) pos) f := PS.imp (ps_ret hv) fun D σ H ⟨B, Z, ρ, o, hp, rl, e, q⟩ => by
  rw [hf] at e
  split at e
  · rename_i d hd
    cases e
    obtain ⟨v, h1, h2⟩ := rl.dat i d hd
    exact ⟨v, h1, q v σ H Z rl (Same.refl Z) h2⟩
  · rename_i ds hd
    split at e
    · cases e
    · rename_i hn
      cases e
      obtain ⟨v, h1, r2, rr⟩ := rl.give0 hd (by rw [hp]; simpa using hn)
      exact ⟨v, h1, q v σ H Z r2 (Same.refl Z) rr⟩
  · cases e
theorem ds_exp (he : DE X pn e fe) (hs : swapsWith e none pos.line X.env = pure false) (hf : ∀ ρ, f ρ = (do
      let (_, ρ1) ← fe ρ
      some (.nx ρ1))) : DS X pn (.Expr e pos) f := PS.imp (ps_expr he hs) fun D σ H ⟨B, Z, ρ, o, hp, rl, e, q⟩ => by
  rw [hf] at e
  cases c1 : fe ρ with
  | none => rw [c1] at e; cases e
  | some w =>
  obtain ⟨x, ρ1⟩ := w
  rw [c1] at e; cases e
  exact tD_r hp rl c1 fun v H1 Z1 rl1 sm1 rr => q σ H1 Z1 rl1 sm1
theorem ds_doc {x : Str} {j : Nat} {p : Pos} (hf : ∀ ρ, f ρ = some (.nx ρ)) : DS X pn (.Expr (.Constant (.str x) j p) pos) f := PS.imp ps_doc fun D σ H ⟨B, Z, ρ, o, hp, rl, e, q⟩ => by
  rw [hf] at e; cases e
  exact q σ H Z rl (Same.refl Z)
theorem ds_set {i : Nat} {s : Stmt} (hA : PS X s (tAsg (tD X.K pn fe) (gName i))) (hf : ∀ ρ, f ρ = (do
      let (x, ρ1) ← fe ρ
      let ρ2 ← setS pn ρ1 i (.dat x.d)
      some (.nx ρ2))) : DS X pn s f := PS.imp hA fun D σ H ⟨B, Z, ρ, o, hp, rl, e, q⟩ => by
  rw [hf] at e
  cases c1 : fe ρ with
  | none => rw [c1] at e; cases e
  | some w =>
  obtain ⟨x, ρ1⟩ := w
  rw [c1] at e
  simp only [Option.bind_eq_bind, Option.bind_some] at e
  cases c2 : setS pn ρ1 i (.dat x.d) with
  | none => rw [c2] at e; cases e
  | some ρ2 =>
  rw [c2] at e; cases e
  obtain ⟨h1, h2, rfl⟩ := setS_some c2
  exact tD_d hp rl c1 fun v H1 Z1 rl1 sm1 dv => q _ H1 Z1 (rl1.setDat h2 (by rw [hp]; exact h1) dv) sm1
theorem ds_own {i : Nat} {s : Stmt} (hA : PS X s (tAsg (tD X.K pn fe) (gName i))) (hf : ∀ ρ, f ρ = (do
      let (x, ρ1) ← fe ρ
      match x with
      | .frs ds => do let ρ2 ← setS pn ρ1 i (.own ds); some (.nx ρ2)
      | .dat _ => none)) : DS X pn s f := PS.imp hA fun D σ H ⟨B, Z, ρ, o, hp, rl, e, q⟩ => by
  rw [hf] at e
  cases c1 : fe ρ with
  | none => rw [c1] at e; cases e
  | some w =>
  obtain ⟨x, ρ1⟩ := w
  rw [c1] at e
  simp only [Option.bind_eq_bind, Option.bind_some] at e
  cases x with
  | dat d => cases e
  | frs ds =>
  simp only at e
  cases c2 : setS pn ρ1 i (.own ds) with
  | none => rw [c2] at e; cases e
  | some ρ2 =>
  rw [c2] at e; cases e
  obtain ⟨h1, h2, rfl⟩ := setS_some c2
  exact tD_r hp rl c1 fun v H1 Z1 rl1 sm1 rr => q _ H1 Z1 (rl1.setOwn h2 (by rw [hp]; exact h1) rr) sm1
theorem ds_tg {tg : Expr} {S : List Nat} {ft : PyData → Env1 → Option Env1} (he : DE X pn e fe) (hg : DG X pn S tg ft) (hs : swapsWithSole [tg] e pos.line X.env = pure false) (hw : swappedStores [tg] e X.env = pure none)
    (h1 : (assignEach [tg] X.env).map (·.2) = [assign tg X.env]) (hf : ∀ ρ, f ρ = (do
      let (x, ρ1) ← fe ρ
      let ρ2 ← ft x.d ρ1
      some (.nx ρ2))) : DS X pn (.Assign [tg] e pos) f := PS.imp (ps_asg he hg hs hw h1) fun D σ H ⟨B, Z, ρ, o, hp, rl, e, q⟩ => by
  rw [hf] at e
  cases c1 : fe ρ with
  | none => rw [c1] at e; cases e
  | some w =>
  obtain ⟨x, ρ1⟩ := w
  rw [c1] at e
  simp only [Option.bind_eq_bind, Option.bind_some] at e
  cases c2 : ft x.d ρ1 with
  | none => rw [c2] at e; cases e
  | some ρ2 =>
  rw [c2] at e; cases e
  exact tD_d hp rl c1 fun v H1 Z1 rl1 sm1 dv => ⟨B, Z1, ρ1, x.d, ρ2, hp, rl1, dv, c2, fun σ' H' Z' rl' sm' _ _ => q σ' H' Z' rl' (sm1.trans sm')⟩
theorem ds_if {as bs : List Stmt} (hc : DT X pn c fc) (ha : DSs X pn as f1) (hb : DSs X pn bs f2) (hf : ∀ ρ, f ρ = (do
      let (x, ρ1) ← fc ρ
      match ← truD x.d with
      | true => f1 ρ1
      | false => f2 ρ1)) : DS X pn (.If c as bs pos) f := PS.imp (ps_if hc ha hb) fun D σ H ⟨B, Z, ρ, o, hp, rl, e, q⟩ => by
  rw [hf] at e
  cases c1 : fc ρ with
  | none => rw [c1] at e; cases e
  | some w =>
  obtain ⟨x, ρ1⟩ := w
  rw [c1] at e
  simp only [Option.bind_eq_bind, Option.bind_some] at e
  cases c2 : truD x.d with
  | none => rw [c2] at e; cases e
  | some kb =>
  rw [c2] at e
  refine tDT_k hp rl c1 c2 fun H1 Z1 rl1 sm1 => ?_
  cases kb with
  | true => rw [if_pos rfl]; exact ⟨B, Z1, ρ1, o, hp, rl1, e, q.up sm1⟩
  | false => rw [if_neg Bool.false_ne_true]; exact ⟨B, Z1, ρ1, o, hp, rl1, e, q.up sm1⟩
theorem ds_for {tg it : Expr} {body : List Stmt} {S : List Nat} {fi : Env1 → Option (List PyData × Env1)} {ft : PyData → Env1 → Option Env1} (hp' : PassesOwn (model X.prog X.w) X.A X.env X.xe) (hc : X.calm = true) (hi : DI X pn tg it fi) (hg : DG X pn S tg ft) (hb : DSs X pn body f1)
    (hs : ∀ x, foldedSetIterable it X.env x = pure x) (hf : ∀ ρ, f ρ = (do
      let (xs, ρ1) ← fi ρ
      forG ft f1 xs ρ1)) : DS X pn (.For tg it body [] pos) f := PS.imp (ps_for hp' hc hi hg hb hs) fun D σ H ⟨B, Z, ρ, o, hp, rl, e, q⟩ => by
  rw [hf] at e
  cases c1 : fi ρ with
  | none => rw [c1] at e; cases e
  | some w =>
  obtain ⟨xs, ρ1⟩ := w
  rw [c1] at e
  simp only [Option.bind_eq_bind, Option.bind_some] at e
  refine ⟨B, Z, ρ, xs, ρ1, hp, rl, c1, fun J H1 Z1 rl1 sm1 it => ?_⟩
  refine ⟨fun i m σ H => m = xs.length - i ∧ i ≤ xs.length ∧ ∃ (Z' : Hp) (ρ' : Env1), Rl X.K B Z' H σ ρ' ∧ Same Z1 Z' ∧ forG ft f1 (xs.drop i) ρ' = some o, ⟨xs.length, by simp, Nat.zero_le _, Z1, ρ1, rl1, Same.refl _, by simpa using e⟩, ?_⟩
  rintro i m σ2 H2 ⟨rfl, hle, Z2, ρ2, r2, sm2, c3⟩
  have zh2 : Same Z1 H2 := sm2.trans r2.zh
  by_cases hlt : i < xs.length
  · right
    have hx := List.getElem?_eq_getElem hlt
    generalize xs[i] = d at hx
    have hdrop : xs.drop i = d :: xs.drop (i + 1) := by
      rw [List.drop_eq_getElem_cons hlt]
      have : xs[i] = d := by rw [List.getElem?_eq_getElem hlt] at hx; exact Option.some.inj hx
      rw [this]
    rw [hdrop] at c3
    simp only [forG, Option.bind_eq_bind] at c3
    refine ⟨it.go i H2 zh2 hlt, fun σ' H' => ∃ (Z' : Hp) (ρ' : Env1), Rl X.K B Z' H' σ' ρ' ∧ Same Z1 Z' ∧ forG ft f1 (xs.drop (i + 1)) ρ' = some o, fun σ' H' hN => ⟨xs.length - (i + 1), by omega, rfl, hlt, hN⟩, fun x H3 hy => ?_⟩
    have item : ∃ Z3, Rl X.K B Z3 H3 σ2 ρ2 ∧ Same Z2 Z3 ∧ Dv X.K Z3 x d := by
      rcases it.yld i d H2 x H3 zh2 hx hy with ⟨rfl, hv3⟩ | ⟨T, ts, es, hT, rfl, rfl, rfl, hd3⟩
      · exact ⟨Z2, r2, Same.refl _, hv3.up sm2⟩
      · obtain ⟨g1, g2, g3⟩ := r2.newT hT (hd3.up sm2)
        exact ⟨_, g1, g2, g3⟩
    obtain ⟨Z3, r3, sm3, dx⟩ := item
    cases c4 : ft d ρ2 with
    | none => rw [c4] at c3; cases c3
    | some ρ4 =>
    rw [c4] at c3
    simp only [Option.bind_some] at c3
    refine ⟨B, Z3, ρ2, d, ρ4, hp, r3, dx, c4, fun σ4 H4 Z4 r4 sm4 _ _ => ?_⟩
    cases c5 : f1 ρ4 with
    | none => rw [c5] at c3; cases c3
    | some o1 =>
    rw [c5] at c3
    simp only [Option.bind_some] at c3
    have sm14 : Same Z1 Z4 := ((sm2.trans sm3).trans sm4)
    refine ⟨B, Z4, ρ4, o1, hp, r4, c5, ?_⟩
    cases o1 with
    | nx ρ5 => exact fun σ5 H5 Z5 r5 sm5 => ⟨Z5, ρ5, r5, sm14.trans sm5, c3⟩
    | ct ρ5 => exact fun σ5 H5 Z5 r5 sm5 => ⟨Z5, ρ5, r5, sm14.trans sm5, c3⟩
    | bk ρ5 => cases c3; exact fun σ5 H5 Z5 r5 sm5 => q σ5 H5 Z5 r5 ((sm1.trans sm14).trans sm5)
    | rt r ρ5 => cases c3; exact fun v σ5 H5 Z5 r5 sm5 => q v σ5 H5 Z5 r5 ((sm1.trans sm14).trans sm5)
  · left
    have ei : i = xs.length := by omega
    subst ei
    rw [List.drop_length] at c3
    cases c3
    exact ⟨it.stop H2 zh2, q σ2 H2 Z2 r2 (sm1.trans sm2)⟩
theorem ds_while {body : List Stmt} {wf : Nat} (hp' : PassesOwn (model X.prog X.w) X.A X.env X.xe) (hc : DT X pn c fc) (hb : DSs X pn body f1) (hf : ∀ ρ, f ρ = whileG fc f1 wf ρ) : DS X pn (.While c body [] pos) f := PS.imp (ps_while hp' hc hb) fun D σ H ⟨B, Z, ρ, o, hp, rl, e, q⟩ => by
  rw [hf] at e
  refine ⟨fun m σ H => ∃ (Z' : Hp) (ρ' : Env1), Rl X.K B Z' H σ ρ' ∧ Same Z Z' ∧ whileG fc f1 m ρ' = some o, ⟨wf, Z, ρ, rl, Same.refl Z, e⟩, ?_⟩
  rintro m σ2 H2 ⟨Z2, ρ2, r2, sm2, c3⟩
  cases m with
  | zero => cases c3
  | succ m =>
  unfold whileG at c3
  cases c4 : fc ρ2 with
  | none => rw [c4] at c3; cases c3
  | some w =>
  obtain ⟨x, ρ3⟩ := w
  rw [c4] at c3
  simp only [Option.bind_eq_bind, Option.bind_some] at c3
  cases c5 : truD x.d with
  | none => rw [c5] at c3; cases c3
  | some kb =>
  rw [c5] at c3
  refine tDT_k hp r2 c4 c5 fun H3 Z3 r3 sm3 => ?_
  cases kb with
  | false => 
    cases c3
    rw [if_neg Bool.false_ne_true]; exact q σ2 H3 Z3 r3 (sm2.trans sm3)
  | true =>
    rw [if_pos rfl]
    simp only [Option.bind_some] at c3
    cases c6 : f1 ρ3 with
    | none => rw [c6] at c3; cases c3
    | some o1 =>
    rw [c6] at c3
    simp only [Option.bind_some] at c3
    refine ⟨fun σ' H' => ∃ (Z' : Hp) (ρ' : Env1), Rl X.K B Z' H' σ' ρ' ∧ Same Z Z' ∧ whileG fc f1 m ρ' = some o, fun σ' H' hN => ⟨m, Nat.lt_succ_self m, hN⟩, B, Z3, ρ3, o1, hp, r3, c6, ?_⟩
    have sm4 := sm2.trans sm3
    cases o1 with
    | nx ρ5 => exact fun σ5 H5 Z5 r5 sm5 => ⟨Z5, ρ5, r5, sm4.trans sm5, c3⟩
    | ct ρ5 => exact fun σ5 H5 Z5 r5 sm5 => ⟨Z5, ρ5, r5, sm4.trans sm5, c3⟩
    | bk ρ5 => cases c3; exact fun σ5 H5 Z5 r5 sm5 => q σ5 H5 Z5 r5 (sm4.trans sm5)
    | rt r ρ5 => cases c3; exact fun v σ5 H5 Z5 r5 sm5 => q v σ5 H5 Z5 r5 (sm4.trans sm5)
end
end Dx

namespace Dx
open PySem PySem.Spec PyProof.Rows L2
/-! ## Several stores in one statement, stores into lists, methods of lists -/
def setAll : L2.St → List (Nat × Bool) → List V → L2.St
  | σ, i :: is, v :: vs => setAll (σ.set i.1 (some v)) is vs
  | σ, _, _ => σ
section
variable {K : PySem.W.Frag} {B : Bs} {Z H : Hp} {pn : List Nat}
theorem ArR.other {σ σ' : L2.St} {ρ ρ' : Env1} : ∀ {as : List Ar} {vs : List V} {B' : Bs}, refs as = [] → ArR K Z H σ ρ B' vs as →
    (∀ (j : Nat) (es : List PyData) (p : Addr), ρ'[j]? = some (some (.own es)) → σ'[j]? = some (some (.ref p)) → (∃ es', ρ[j]? = some (some (.own es')) ∧ σ[j]? = some (some (.ref p))) ∨ ∃ q ∈ B'.pend, q.1 = p) → ArR K Z H σ' ρ' B' vs as
  | [], [], _, _, h, _ => h
  | [], _ :: _, _, _, h, _ => h.elim
  | .dat _ :: _, [], _, _, h, _ => h.elim
  | .frs _ :: _, [], _, _, h, _ => h.elim
  | .ref _ :: _, _, _, e, _, _ => by cases e
  | .dat d :: as, v :: vs, B', e, h, a => ⟨h.1, ArR.other (as := as) e h.2 a⟩
  | .frs ds :: as, v :: vs, B', e, h, a => by
    obtain ⟨p, xs, h1, h2, h3, h4, h5, h6, h7, h8⟩ := h
    refine ⟨p, xs, h1, h2, h3, h4, h5, h6, fun i es g1 g2 => ?_, ArR.other (as := as) e h8 fun j es q g1 g2 => ?_⟩
    · rcases a i es p g1 g2 with ⟨es', g3, g4⟩ | ⟨q, g3, g4⟩
      · exact h7 i es' g3 g4
      · exact h5 q g3 g4
    · rcases a j es q g1 g2 with g3 | ⟨w, g3, g4⟩
      · exact .inl g3
      · exact .inr ⟨w, List.mem_cons_of_mem _ g3, g4⟩
theorem parG_refs : ∀ {is : List (Nat × Bool)} {as : List Ar} {ρ ρ' : Env1}, parG pn is as ρ = some ρ' → refs as = []
  | [], [], _, _, _ => rfl
  | [], _ :: _, _, _, e => by simp [parG] at e
  | (i, false) :: is, [], _, _, e => by simp [parG] at e
  | (i, true) :: is, [], _, _, e => by simp [parG] at e
  | (i, false) :: is, .dat d :: as, ρ, ρ', e => by
    simp only [parG, Option.bind_eq_bind] at e
    cases c : setS pn ρ i (.dat d) with
    | none => rw [c] at e; cases e
    | some ρ1 => rw [c] at e; exact parG_refs (as := as) e
  | (i, true) :: is, .frs d :: as, ρ, ρ', e => by
    simp only [parG, Option.bind_eq_bind] at e
    cases c : setS pn ρ i (.own d) with
    | none => rw [c] at e; cases e
    | some ρ1 => rw [c] at e; exact parG_refs (as := as) e
  | (i, false) :: is, .frs d :: as, _, _, e => by simp [parG] at e
  | (i, true) :: is, .dat d :: as, _, _, e => by simp [parG] at e
  | (i, false) :: is, .ref d :: as, _, _, e => by simp [parG] at e
  | (i, true) :: is, .ref d :: as, _, _, e => by simp [parG] at e
theorem par_ok (hp : pnOf B = pn) : ∀ {is : List (Nat × Bool)} {as : List Ar} {vs : List V} {B' : Bs} {σ : L2.St} {ρ ρ' : Env1}, Rl K B Z H σ ρ → B'.H = B.H → (∀ q ∈ B.pend, q ∈ B'.pend) → ArR K Z H σ ρ B' vs as → parG pn is as ρ = some ρ' →
    Rl K B Z H (setAll σ is vs) ρ'
  | [], [], [], _, σ, _, _, rl, _, _, _, e => by cases e; exact rl
  | [], [], _ :: _, _, σ, _, _, rl, _, _, h, e => h.elim
  | [], _ :: _, _, _, _, _, _, _, _, _, _, e => by simp [parG] at e
  | (i, false) :: is, [], _, _, _, _, _, _, _, _, _, e => by simp [parG] at e
  | (i, true) :: is, [], _, _, _, _, _, _, _, _, _, e => by simp [parG] at e
  | (i, b) :: is, .dat d :: as, [], _, _, _, _, _, _, _, h, _ => h.elim
  | (i, b) :: is, .frs d :: as, [], _, _, _, _, _, _, _, h, _ => h.elim
  | (i, b) :: is, .ref d :: as, [], _, _, _, _, _, _, _, h, _ => h.elim
  | (i, false) :: is, .dat d :: as, v :: vs, B', σ, ρ, ρ', rl, hH, hq, h, e => by
    simp only [parG, Option.bind_eq_bind] at e
    cases c : setS pn ρ i (.dat d) with
    | none => rw [c] at e; cases e
    | some ρ1 =>
      rw [c] at e
      have e : parG pn is as ρ1 = some ρ' := e
      obtain ⟨c1, c2, rfl⟩ := setS_some c
      obtain ⟨h1, h2⟩ := h
      show Rl K B Z H (setAll (σ.set i (some v)) is vs) ρ'
      refine par_ok hp (vs := vs) (rl.setDat c2 (by rw [hp]; exact c1) h1) hH hq (ArR.other (parG_refs e) h2 fun j es p g1 g2 => .inl ?_) e
      rcases set_get g1 with ⟨_, z, _⟩ | ⟨ne, g1⟩
      · cases z
      · rw [List.getElem?_set_ne (Ne.symm ne)] at g2
        exact ⟨es, g1, g2⟩
  | (i, true) :: is, .frs ds :: as, v :: vs, B', σ, ρ, ρ', rl, hH, hq, h, e => by
    simp only [parG, Option.bind_eq_bind] at e
    cases c : setS pn ρ i (.own ds) with
    | none => rw [c] at e; cases e
    | some ρ1 =>
      rw [c] at e
      have e : parG pn is as ρ1 = some ρ' := e
      obtain ⟨c1, c2, rfl⟩ := setS_some c
      obtain ⟨p, xs, rfl, h2, h3, h4, h5, h6, h7, h8⟩ := h
      show Rl K B Z H (setAll (σ.set i (some (.ref p))) is vs) ρ'
      refine par_ok hp (vs := vs) (B' := B'.push p xs) (rl.setOwn c2 (by rw [hp]; exact c1) ⟨p, xs, rfl, h2, h3, by rw [← hH]; exact h4, fun q hm => h5 q (hq q hm), h6, h7⟩) hH (fun q hm => List.mem_cons_of_mem _ (hq q hm))
        (ArR.other (parG_refs e) h8 fun j es q g1 g2 => ?_) e
      rcases set_get g1 with ⟨rfl, z, hl⟩ | ⟨ne, g1⟩
      · rw [List.getElem?_set_self (by rw [rl.len]; exact hl)] at g2; cases g2
        exact .inr ⟨(p, xs), List.mem_cons_self, rfl⟩
      · rw [List.getElem?_set_ne (Ne.symm ne)] at g2
        exact .inl ⟨es, g1, g2⟩
  | (i, false) :: is, .frs d :: as, _ :: _, _, _, _, _, _, _, _, _, e => by simp [parG] at e
  | (i, true) :: is, .dat d :: as, _ :: _, _, _, _, _, _, _, _, _, e => by simp [parG] at e
  | (i, false) :: is, .ref d :: as, _ :: _, _, _, _, _, _, _, _, _, e => by simp [parG] at e
  | (i, true) :: is, .ref d :: as, _ :: _, _, _, _, _, _, _, _, _, e => by simp [parG] at e
theorem parG_len : ∀ {is : List (Nat × Bool)} {as : List Ar} {ρ ρ' : Env1}, parG pn is as ρ = some ρ' → as.length = is.length
  | [], [], _, _, _ => rfl
  | [], _ :: _, _, _, e => by simp [parG] at e
  | (i, false) :: is, [], _, _, e => by simp [parG] at e
  | (i, true) :: is, [], _, _, e => by simp [parG] at e
  | (i, false) :: is, .dat d :: as, ρ, ρ', e => by
    simp only [parG, Option.bind_eq_bind] at e
    cases c : setS pn ρ i (.dat d) with
    | none => rw [c] at e; cases e
    | some ρ1 => rw [c] at e; simp [parG_len (as := as) e]
  | (i, true) :: is, .frs d :: as, ρ, ρ', e => by
    simp only [parG, Option.bind_eq_bind] at e
    cases c : setS pn ρ i (.own d) with
    | none => rw [c] at e; cases e
    | some ρ1 => rw [c] at e; simp [parG_len (as := as) e]
  | (i, false) :: is, .frs d :: as, _, _, e => by simp [parG] at e
  | (i, true) :: is, .dat d :: as, _, _, e => by simp [parG] at e
  | (i, false) :: is, .ref d :: as, _, _, e => by simp [parG] at e
  | (i, true) :: is, .ref d :: as, _, _, e => by simp [parG] at e
theorem ArR.len {σ : L2.St} {ρ : Env1} : ∀ {as : List Ar} {vs : List V} {B' : Bs}, ArR K Z H σ ρ B' vs as → vs.length = as.length
  | [], [], _, _ => rfl
  | [], _ :: _, _, h => h.elim
  | .dat _ :: _, [], _, h => h.elim
  | .frs _ :: _, [], _, h => h.elim
  | .ref _ :: _, [], _, h => h.elim
  | .dat d :: as, v :: vs, B', h => by simp [ArR.len (as := as) h.2]
  | .ref d :: as, v :: vs, B', h => by simp [ArR.len (as := as) h.2]
  | .frs ds :: as, v :: vs, B', h => by
    obtain ⟨p, xs, h1, h2, h3, h4, h5, h6, h7, h8⟩ := h
    simp [ArR.len (as := as) h8]
end
section
variable {X : Cx} {pn : List Nat} {G : Gx} {N : List Str} {k : Nat} {fe fa fb fc : ME} {f f1 f2 : MS} {e a b c : Expr} {pos : Pos}
theorem tDA_mono {K : PySem.W.Frag} {ks : List Bool} {fs : List Bool → Env1 → Option (List Ar × Env1)} {σ : L2.St} {H : Hp} {Q Q' : List V → Hp → Prop} (h : tDA K pn ks fs σ H Q) (q : ∀ vs H, Q vs H → Q' vs H) : tDA K pn ks fs σ H Q' := by
  obtain ⟨B, Z, ρ, as, ρ', hp, rl, e, z⟩ := h
  exact ⟨B, Z, ρ, as, ρ', hp, rl, e, fun vs H' Z' r s a => q _ _ (z vs H' Z' r s a)⟩
theorem par_core {is : List (Nat × Bool)} {fs : List Bool → Env1 → Option (List Ar × Env1)} (hf : ∀ ρ, f ρ = (do
      let (xs, ρ1) ← fs (is.map (·.2)) ρ
      let ρ2 ← parG pn is xs ρ1
      some (.nx ρ2))) {D : Ends} {σ : L2.St} {H : Hp} (h : tDS X.K pn f D σ H) : tDA X.K pn (is.map (·.2)) fs σ H fun vs H1 => vs.length = is.length ∧ D.nx (setAll σ is vs) H1 := by
  obtain ⟨B, Z, ρ, o, hp, rl, e, q⟩ := h
  rw [hf] at e
  cases c1 : fs (is.map (·.2)) ρ with
  | none => rw [c1] at e; cases e
  | some w =>
  obtain ⟨xs, ρ1⟩ := w
  rw [c1] at e
  simp only [Option.bind_eq_bind, Option.bind_some] at e
  cases c2 : parG pn is xs ρ1 with
  | none => rw [c2] at e; cases e
  | some ρ2 =>
  rw [c2] at e; cases e
  exact ⟨B, Z, ρ, xs, ρ1, hp, rl, c1, fun vs H1 Z1 rl1 sm1 ar => ⟨by rw [ar.len, parG_len c2], q _ H1 Z1 (par_ok hp rl1 rfl (fun _ h => h) ar c2) sm1⟩⟩
/-- a, b = x, y -/
theorem ds_par2 {i j : Nat} {u v : Bool} {x y : Str} {a b : Expr} {px py pt : Pos} {kt k2 pt2} {fs : List Bool → Env1 → Option (List Ar × Env1)} (hc : X.calm = true) (hN : X.N.Nodup) (hi : X.N[i]? = some x) (hj : X.N[j]? = some y) (hij : i ≠ j)
    (hx : X.env.scope.names.lookup x = some .local) (hy : X.env.scope.names.lookup y = some .local)
    (hw : swappedStores [.Tuple [.Name x px, .Name y py] kt pt] (.Tuple [a, b] k2 pt2) X.env = pure (some [x, y])) (ha : DA X pn [a, b] fs) (hf : ∀ ρ, f ρ = (do
      let (xs, ρ1) ← fs ([(i, u), (j, v)].map (·.2)) ρ
      let ρ2 ← parG pn [(i, u), (j, v)] xs ρ1
      some (.nx ρ2))) : DS X pn (.Assign [.Tuple [.Name x px, .Name y py] kt pt] (.Tuple [a, b] k2 pt2) pos) f :=
  PS.imp (ps_par hc hN hi hj hij hx hy (ha _) hw) fun D σ H h => tDA_mono (par_core hf h) fun vs H1 ⟨l, q⟩ => by
    match vs, l with
    | [v, w], _ => exact ⟨v, w, rfl, q⟩
/-- a, b, c = x, y, z -/
theorem ds_par3 {i j l : Nat} {u v w : Bool} {x y z : Str} {a b c : Expr} {px py pz pt : Pos} {kt k2 pt2} {fs : List Bool → Env1 → Option (List Ar × Env1)} (hc : X.calm = true) (hN : X.N.Nodup) (hi : X.N[i]? = some x) (hj : X.N[j]? = some y) (hl : X.N[l]? = some z) (hij : i ≠ j) (hil : i ≠ l) (hjl : j ≠ l)
    (hx : X.env.scope.names.lookup x = some .local) (hy : X.env.scope.names.lookup y = some .local) (hz : X.env.scope.names.lookup z = some .local)
    (hw : swappedStores [.Tuple [.Name x px, .Name y py, .Name z pz] kt pt] (.Tuple [a, b, c] k2 pt2) X.env = pure (some [x, y, z])) (ha : DA X pn [a, b, c] fs) (hf : ∀ ρ, f ρ = (do
      let (xs, ρ1) ← fs ([(i, u), (j, v), (l, w)].map (·.2)) ρ
      let ρ2 ← parG pn [(i, u), (j, v), (l, w)] xs ρ1
      some (.nx ρ2))) : DS X pn (.Assign [.Tuple [.Name x px, .Name y py, .Name z pz] kt pt] (.Tuple [a, b, c] k2 pt2) pos) f :=
  PS.imp (ps_par3 hc hN hi hj hl hij hil hjl hx hy hz (ha _) hw) fun D σ H h => tDA_mono (par_core hf h) fun vs H1 ⟨l, q⟩ => by
    match vs, l with
    | [v, w, u], _ => exact ⟨v, w, u, rfl, q⟩
theorem getO_some {ρ : Env1} {i : Nat} {ds : List PyData} (h : getO ρ i = some ds) : ρ[i]? = some (some (.own ds)) := by
  unfold getO at h
  split at h
  · cases h; assumption
  · cases h
/-- x.append(e) -/
theorem ds_app {i : Nat} {x : Str} {px pa pc : Pos} (hv : PE X (.Name x px) (tVar i)) (he : DE X pn e fe) (hst : starEach [e] X.env = [(false, eval e X.env)]) (hl : (pa.endLine == pc.line) = true) (hf : ∀ ρ, f ρ = (do
      let _ ← getO ρ i
      let (x, ρ1) ← fe ρ
      let ds ← getO ρ1 i
      if ds.length < sizeLine then some (.nx (ρ1.set i (some (.own (ds ++ [x.d]))))) else none)) (hb : attributeBase (.Name x px) "append" X.env (eval (.Name x px) X.env) = eval (.Name x px) X.env) : DS X pn (.Expr (.Call (.Attribute (.Name x px) "append" pa) [e] [] pc) pos) f := PS.imp (ps_expr (pe_bm F.plainAttrs_list F.slot_list_append F.type_list_append mt_append hv (pa_cons he pa_nil hst) hb (by rw [hst]; rfl) hl hst rfl)) fun D σ H ⟨B, Z, ρ, o, hp, rl, e1, q⟩ => by
  rw [hf] at e1
  cases c0 : getO ρ i with
  | none => rw [c0] at e1; cases e1
  | some ds0 =>
  rw [c0] at e1
  simp only [Option.bind_eq_bind, Option.bind_some] at e1
  cases c1 : fe ρ with
  | none => rw [c1] at e1; cases e1
  | some w =>
  obtain ⟨y, ρ1⟩ := w
  rw [c1] at e1
  simp only [Option.bind_some] at e1
  cases c2 : getO ρ1 i with
  | none => rw [c2] at e1; cases e1
  | some ds =>
  rw [c2] at e1
  simp only [Option.bind_some] at e1
  split at e1
  · rename_i hlen
    cases e1
    obtain ⟨p0, xs0, h1, h2, h3, h4, h5⟩ := rl.own i ds0 (getO_some c0)
    refine ⟨.ref p0, h1, .inl ⟨rfl, xs0, .inl (.inl h2)⟩, ?_⟩
    refine tD_d hp rl c1 fun v H1 Z1 rl1 sm1 dv => ?_
    obtain ⟨p, xs, g1, g2, g3, g4, g5⟩ := rl1.own i ds (getO_some c2)
    rw [h1] at g1; cases g1
    exact ⟨p0, xs, v, rfl, rfl, g2, by rw [g4.len]; exact hlen, q _ _ Z1 (rl1.turn (getO_some c2) h1 (g4.append (.one dv))) sm1⟩
  · cases e1
/-- x.extend(e) -/
theorem ds_ext {i : Nat} {x : Str} {px pa pc : Pos} (hv : PE X (.Name x px) (tVar i)) (he : DE X pn e fe) (hst : starEach [e] X.env = [(false, eval e X.env)]) (hl : (pa.endLine == pc.line) = true) (hf : ∀ ρ, f ρ = (do
      let _ ← getO ρ i
      let (x, ρ1) ← fe ρ
      let ds ← getO ρ1 i
      match x with
      | .frs xs => if ds.length + xs.length ≤ sizeLine then some (.nx (ρ1.set i (some (.own (ds ++ xs))))) else none
      | .dat _ => none)) (hb : attributeBase (.Name x px) "extend" X.env (eval (.Name x px) X.env) = eval (.Name x px) X.env) : DS X pn (.Expr (.Call (.Attribute (.Name x px) "extend" pa) [e] [] pc) pos) f := PS.imp (ps_expr (pe_bm F.plainAttrs_list F.slot_list_extend F.type_list_extend mt_extend hv (pa_cons he pa_nil hst) hb (by rw [hst]; rfl) hl hst rfl)) fun D σ H ⟨B, Z, ρ, o, hp, rl, e1, q⟩ => by
  rw [hf] at e1
  cases c0 : getO ρ i with
  | none => rw [c0] at e1; cases e1
  | some ds0 =>
  rw [c0] at e1
  simp only [Option.bind_eq_bind, Option.bind_some] at e1
  cases c1 : fe ρ with
  | none => rw [c1] at e1; cases e1
  | some w =>
  obtain ⟨y, ρ1⟩ := w
  rw [c1] at e1
  simp only [Option.bind_some] at e1
  cases c2 : getO ρ1 i with
  | none => rw [c2] at e1; cases e1
  | some ds =>
  rw [c2] at e1
  simp only [Option.bind_some] at e1
  cases y with
  | dat d => cases e1
  | frs ws =>
  simp only at e1
  split at e1
  · rename_i hlen
    cases e1
    obtain ⟨p0, xs0, h1, h2, h3, h4, h5⟩ := rl.own i ds0 (getO_some c0)
    refine ⟨.ref p0, h1, .inl ⟨rfl, xs0, .inl (.inl h2)⟩, ?_⟩
    refine tD_r hp rl c1 fun v H1 Z1 rl1 sm1 rr => ?_
    obtain ⟨b, zs, rfl, r1, r2, r3, r4, r5, r6⟩ := rr
    obtain ⟨p, xs, g1, g2, g3, g4, g5⟩ := rl1.own i ds (getO_some c2)
    rw [h1] at g1; cases g1
    exact ⟨p0, b, xs, zs, rfl, rfl, g2, r1, by rw [g4.len, r5.len]; exact hlen, q _ _ Z1 (rl1.turn (getO_some c2) h1 (g4.append r5)) sm1⟩
  · cases e1
/-- x[k] = e -/
theorem ds_idx {i : Nat} {x : Str} {px pt : Pos} (hv : PE X (.Name x px) (tVar i)) (hk : DE X pn a fa) (he : DE X pn e fe) (hs : swapsWithSole [.Subscript (.Name x px) a pt] e pos.line X.env = pure false) (hw : swappedStores [.Subscript (.Name x px) a pt] e X.env = pure none)
    (h1 : (assignEach [.Subscript (.Name x px) a pt] X.env).map (·.2) = [assign (.Subscript (.Name x px) a pt) X.env])
    (hg : ∀ v, assign (.Subscript (.Name x px) a pt) X.env v = (do
      let ov ← holding [v] (eval (.Name x px) X.env)
      let iv ← holding [v, ov] (eval a X.env)
      standAt pt
      holding [v, ov, iv] (setItem ov iv v)
      release [v, ov, iv] [])) (hf : ∀ ρ, f ρ = (do
      let _ ← getO ρ i
      let (x, ρ1) ← fe ρ
      let (z, ρ2) ← fa ρ1
      match z with
      | .dat (.int q) => do
        let ds ← getO ρ2 i
        let p ← ixN ds.length q
        some (.nx (ρ2.set i (some (.own (ds.set p x.d)))))
      | _ => none)) : DS X pn (.Assign [.Subscript (.Name x px) a pt] e pos) f := PS.imp (ps_asg he (pg_sub hv hk set_list hg) hs hw h1) fun D σ H ⟨B, Z, ρ, o, hp, rl, e1, q⟩ => by
  rw [hf] at e1
  cases c0 : getO ρ i with
  | none => rw [c0] at e1; cases e1
  | some ds0 =>
  rw [c0] at e1
  simp only [Option.bind_eq_bind, Option.bind_some] at e1
  cases c1 : fe ρ with
  | none => rw [c1] at e1; cases e1
  | some w =>
  obtain ⟨y, ρ1⟩ := w
  rw [c1] at e1
  simp only [Option.bind_some] at e1
  cases c2 : fa ρ1 with
  | none => rw [c2] at e1; cases e1
  | some w =>
  obtain ⟨z, ρ2⟩ := w
  rw [c2] at e1
  simp only [Option.bind_some] at e1
  split at e1
  · rename_i n
    cases c3 : getO ρ2 i with
    | none => rw [c3] at e1; cases e1
    | some ds =>
    rw [c3] at e1
    simp only [Option.bind_some] at e1
    cases c4 : ixN ds.length n with
    | none => rw [c4] at e1; cases e1
    | some j =>
    rw [c4] at e1; cases e1
    refine tD_d hp rl c1 fun v H1 Z1 rl1 sm1 dv => ?_
    obtain ⟨p, _, hσ, _⟩ := rl.own i ds0 (getO_some c0)
    refine ⟨.ref p, hσ, tD_r hp rl1 c2 fun u H2 Z2 rl2 sm2 dw => ?_⟩
    obtain ⟨p', xs, g1, g2, g3, g4, g5⟩ := rl2.own i ds (getO_some c3)
    rw [hσ] at g1; cases g1
    cases dw
    exact ⟨p, xs, n, j, rfl, rfl, g2, by rw [g4.len]; exact c4, q _ _ Z2 (rl2.turn (getO_some c3) hσ (g4.set (dv.up sm2) j)) (sm1.trans sm2)⟩
  · cases e1
/-- x[k], y = divmod(a, b) -/
theorem ds_dm {i j : Nat} {x y df : Str} {px py pt pd pf pc : Pos} {kt : Nat} (hy0 : df = "divmod") (g : Gd G N k X) (hv : PE X (.Name x px) (tVar i)) (hk : DE X pn c fc) (hyN : X.N[j]? = some y) (hyl : Loc X.env.scope y) (hyf : X.fn y = true ∨ X.env.scope.names.lookup y = some .local)
    (ha : DE X pn a fa) (hb : DE X pn b fb) (hgl : Gl X df) (hst1 : starEach [a, b] X.env = (false, eval a X.env) :: starEach [b] X.env) (hst2 : starEach [b] X.env = [(false, eval b X.env)])
    (hg : ∀ v, assign (.Subscript (.Name x px) c pt) X.env v = (do
      let ov ← holding [v] (eval (.Name x px) X.env)
      let iv ← holding [v, ov] (eval c X.env)
      standAt pt
      holding [v, ov, iv] (setItem ov iv v)
      release [v, ov, iv] [])) 
    (he1 : (assignEach [.Subscript (.Name x px) c pt, .Name y py] X.env).map (·.2) = [assign (.Subscript (.Name x px) c pt) X.env, assign (.Name y py) X.env])
    (he2 : (assignEach [.Subscript (.Name x px) c pt, .Name y py] X.env).findIdx? (·.1) = none) (hf : ∀ ρ, f ρ = (do
      let _ ← getO ρ i
      let (x, ρ1) ← fa ρ
      let (y, ρ2) ← fb ρ1
      match x, y with
      | .dat (.int m), .dat (.int n) =>
        if 0 < n ∧ n < 2 ^ 29 then do
          let (z, ρ3) ← fc ρ2
          match z with
          | .dat (.int q) => do
            let ds ← getO ρ3 i
            let p ← ixN ds.length q
            let ρ4 ← setS pn (ρ3.set i (some (.own (ds.set p (.int (m / n)))))) j (.dat (.int (m % n)))
            some (.nx ρ4)
          | _ => none
        else none
      | _, _ => none)) : DS X pn (.Assign [.Tuple [.Subscript (.Name x px) c pt, .Name y py] kt pd] (.Call (.Name df pf) [a, b] [] pc) pos) f := by
  subst hy0
  refine PS.imp (ps_asg (pe_callB call_divmod hgl (g.mg (by decide +kernel)) (by decide +kernel) (pa_cons ha (pa_cons hb pa_nil hst2) hst1) (by decide) (by decide) hst1 (by rw [hst2]; rfl))
    (pg_tup (n := 2) g.calm (pgs_cons (pg_sub hv hk set_list hg) (pgs_cons (pg_name g.nd' hyN hyl hyf) pgs_nil rfl) (by rw [he1]; rfl)) rfl he2) rfl rfl rfl) fun D σ H ⟨B, Z, ρ, o, hp, rl, e1, q⟩ => ?_
  rw [hf] at e1
  cases c0 : getO ρ i with
  | none => rw [c0] at e1; cases e1
  | some ds0 =>
  rw [c0] at e1
  simp only [Option.bind_eq_bind, Option.bind_some] at e1
  cases c1 : fa ρ with
  | none => rw [c1] at e1; cases e1
  | some w =>
  obtain ⟨r1, ρ1⟩ := w
  rw [c1] at e1
  simp only [Option.bind_some] at e1
  cases c2 : fb ρ1 with
  | none => rw [c2] at e1; cases e1
  | some w =>
  obtain ⟨r2, ρ2⟩ := w
  rw [c2] at e1
  simp only [Option.bind_some] at e1
  split at e1
  case h_2 => cases e1
  rename_i m n
  split at e1
  case isFalse => cases e1
  rename_i hn
  cases c3 : fc ρ2 with
  | none => rw [c3] at e1; cases e1
  | some w =>
  obtain ⟨r3, ρ3⟩ := w
  rw [c3] at e1
  simp only [Option.bind_some] at e1
  split at e1
  case h_2 => cases e1
  rename_i t
  cases c4 : getO ρ3 i with
  | none => rw [c4] at e1; cases e1
  | some ds =>
  rw [c4] at e1
  simp only [Option.bind_some] at e1
  cases c5 : ixN ds.length t with
  | none => rw [c5] at e1; cases e1
  | some p =>
  rw [c5] at e1
  simp only [Option.bind_some] at e1
  cases c6 : setS pn (ρ3.set i (some (.own (ds.set p (.int (m / n)))))) j (.dat (.int (m % n))) with
  | none => rw [c6] at e1; cases e1
  | some ρ4 =>
  rw [c6] at e1; cases e1
  obtain ⟨s1, s2, rfl⟩ := setS_some c6
  obtain ⟨p0, _, hσ, _⟩ := rl.own i ds0 (getO_some c0)
  refine tD_r hp rl c1 fun v1 H1 Z1 rl1 sm1 d1 => ?_
  refine tD_r hp rl1 c2 fun v2 H2 Z2 rl2 sm2 d2 => ?_
  cases d1; cases d2
  refine ⟨m, n, rfl, ⟨hn.1, by have := hn.2; omega⟩, fun a0 ha0 => ?_⟩
  obtain ⟨g1, g2, g3⟩ := rl2.newT ha0 (.cons (.int (m / n)) (.cons (.int (m % n)) .nil) : DvAll X.K Z2 [.int (m / n), .int (m % n)] [.int (m / n), .int (m % n)])
  refine ⟨a0, _, rfl, .inl (.inl upd_same), rfl, .int (m / n), [.int (m % n)], rfl, .ref p0, hσ, ?_⟩
  refine tD_r hp g1 c3 fun v3 H3 Z3 rl3 sm3 d3 => ?_
  cases d3
  obtain ⟨p', xs, f1, f2, f3, f4, f5⟩ := rl3.own i ds (getO_some c4)
  rw [hσ] at f1; cases f1
  refine ⟨p0, xs, t, p, rfl, rfl, f2, by rw [f4.len]; exact c5, .int (m % n), [], rfl, rfl, ?_⟩
  exact q _ _ Z3 ((rl3.turn (getO_some c4) hσ (f4.set (.int (m / n)) p)).setDat s2 (by rw [hp]; exact s1) (.int _)) (((sm1.trans sm2).trans g2).trans sm3)
theorem par_coreU {is : List (Nat × Bool)} {fs : List Bool → Env1 → Option (List Ar × Env1)} (hf : ∀ ρ, f ρ = (do
      let (xs, ρ1) ← fs (is.map (·.2)) ρ
      let ρ2 ← parG pn is xs ρ1
      some (.nx ρ2))) {D : Ends} {σ : L2.St} {H : Hp} (h : tDS X.K pn f D σ H) : tDA X.K pn (is.map (·.2)) fs σ H fun vs H1 => vs.length = is.length ∧ ∀ (p : Addr) (o : HO), H1 p = none → D.nx (setAll σ is vs) (upd H1 p o) := by
  obtain ⟨B, Z, ρ, o, hp, rl, e, q⟩ := h
  rw [hf] at e
  cases c1 : fs (is.map (·.2)) ρ with
  | none => rw [c1] at e; cases e
  | some w =>
  obtain ⟨xs, ρ1⟩ := w
  rw [c1] at e
  simp only [Option.bind_eq_bind, Option.bind_some] at e
  cases c2 : parG pn is xs ρ1 with
  | none => rw [c2] at e; cases e
  | some ρ2 =>
  rw [c2] at e; cases e
  exact ⟨B, Z, ρ, xs, ρ1, hp, rl, c1, fun vs H1 Z1 rl1 sm1 ar => ⟨by rw [ar.len, parG_len c2], fun p o hpo => q _ _ Z1 ((par_ok hp rl1 rfl (fun _ h => h) ar c2).more hpo) sm1⟩⟩
/-- a, b = x, y, by a tuple that is taken apart -/
theorem ds_unp2 {i j : Nat} {u v : Bool} {x y : Str} {a b : Expr} {px py pt : Pos} {kt k2 pt2} {fs : List Bool → Env1 → Option (List Ar × Env1)} (g : Gd G N k X) (hx1 : X.N[i]? = some x) (hx2 : Loc X.env.scope x) (hx3 : X.fn x = true ∨ X.env.scope.names.lookup x = some .local)
    (hy1 : X.N[j]? = some y) (hy2 : Loc X.env.scope y) (hy3 : X.fn y = true ∨ X.env.scope.names.lookup y = some .local)
    (hw : swappedStores [.Tuple [.Name x px, .Name y py] kt pt] (.Tuple [a, b] k2 pt2) X.env = pure none) (ha : DA X pn [a, b] fs) (hf : ∀ ρ, f ρ = (do
      let (xs, ρ1) ← fs ([(i, u), (j, v)].map (·.2)) ρ
      let ρ2 ← parG pn [(i, u), (j, v)] xs ρ1
      some (.nx ρ2))) : DS X pn (.Assign [.Tuple [.Name x px, .Name y py] kt pt] (.Tuple [a, b] k2 pt2) pos) f := by
  refine PS.imp (ps_asg (pe_tup (ha ([(i, u), (j, v)].map (·.2)))) (pg_tup (n := 2) g.calm (pgs_cons (pg_name g.nd' hx1 hx2 hx3) (pgs_cons (pg_name g.nd' hy1 hy2 hy3) pgs_nil rfl) rfl) rfl rfl) rfl hw rfl) fun D σ H h => tDA_mono (par_coreU hf h) fun vs H1 ⟨l, q⟩ => ?_
  match vs, l with
  | [v1, v2], _ => exact ⟨by show (2 : Nat) ≤ sizeLine; decide, fun p hp => ⟨p, _, rfl, .inl (.inl upd_same), rfl, v1, [v2], rfl, v2, [], rfl, rfl, q p _ hp⟩⟩
end
end Dx

namespace Dx
open PySem PySem.Spec PyProof.Rows L2
section
variable {K : PySem.W.Frag} {B : Bs} {Z H : Hp} {σ : L2.St} {ρ : Env1} {vs : List Nat}
/-- slots that are looked at no more -/
theorem Rl.forget (r : Rl K B Z H σ ρ) (hv : ∀ v ∈ vs, v ∉ pnOf B) : Rl K B Z H σ (wipeE ρ vs) := by
  have np : ∀ q ∈ B.pins, q.1 ∉ vs := fun q hq hm => hv q.1 hm (List.mem_map.mpr ⟨q, hq, rfl⟩)
  refine ⟨by rw [wipeE_len]; exact r.len, r.bz, r.zh, r.zn, r.kp, fun i d e => r.dat i d (wipeE_some e).2, fun i ds e => r.own i ds (wipeE_some e).2,
    fun i j ds es p h1 h2 h3 h4 => r.apart i j ds es p (wipeE_some h1).2 (wipeE_some h2).2 h3 h4, fun q hq => ?_, fun q hq => ?_⟩
  · obtain ⟨a1, ds, a2⟩ := r.pin q hq
    exact ⟨a1, ds, by rw [wipeE_out (np q hq)]; exact a2⟩
  · obtain ⟨a1, a2, a3⟩ := r.pd q hq
    exact ⟨a1, a2, fun i ds e => a3 i ds (wipeE_some e).2⟩
end
section
variable {X : Cx} {pn : List Nat}
theorem fg_read {vs : List Nat} {f f1 : Env1 → Option Out} (hf : ∀ ρ, f ρ = (do
      let o ← f1 ρ
      if vs.any pn.contains then none else some (o.fg vs))) {D : Ends} {σ : L2.St} {H : Hp} (h : tDS X.K pn f D σ H) : tDS X.K pn f1 D σ H := by
  obtain ⟨B, Z, ρ, o, hp, rl, e, q⟩ := h
  rw [hf] at e
  cases c1 : f1 ρ with
  | none => rw [c1] at e; cases e
  | some o1 =>
  rw [c1] at e
  simp only [Option.bind_eq_bind, Option.bind_some] at e
  split at e
  · cases e
  rename_i hn
  cases e
  have hv : ∀ v ∈ vs, v ∉ pnOf B := fun v hv hm => hn (List.any_eq_true.mpr ⟨v, hv, by rw [hp] at hm; simpa using hm⟩)
  refine ⟨B, Z, ρ, o1, hp, rl, c1, ?_⟩
  cases o1 with
  | nx ρ' => exact fun σ' H' Z' rl' sm => q σ' H' Z' (rl'.forget hv) sm
  | bk ρ' => exact fun σ' H' Z' rl' sm => q σ' H' Z' (rl'.forget hv) sm
  | ct ρ' => exact fun σ' H' Z' rl' sm => q σ' H' Z' (rl'.forget hv) sm
  | rt r ρ' => exact q
theorem ds_fg {s : Stmt} {vs : List Nat} {f f1 : Env1 → Option Out} (h : DS X pn s f1) (hf : ∀ ρ, f ρ = (do
      let o ← f1 ρ
      if vs.any pn.contains then none else some (o.fg vs))) : DS X pn s f := PS.imp h fun D σ H z => fg_read hf z
theorem dss_fg {s : List Stmt} {vs : List Nat} {f f1 : Env1 → Option Out} (h : DSs X pn s f1) (hf : ∀ ρ, f ρ = (do
      let o ← f1 ρ
      if vs.any pn.contains then none else some (o.fg vs))) : DSs X pn s f := PSs.imp h fun D σ H z => fg_read hf z
/-- x.pop() -/
theorem ds_pop {i : Nat} {x : Str} {px pa pc pos : Pos} {f : Env1 → Option Out} (hv : PE X (.Name x px) (tVar i)) (hl : (pa.endLine == pc.line) = true) (hf : ∀ ρ, f ρ = (do
      let ds ← getO ρ i
      if ds.isEmpty then none else some (.nx (ρ.set i (some (.own ds.dropLast)))))) (hb : attributeBase (.Name x px) "pop" X.env (eval (.Name x px) X.env) = eval (.Name x px) X.env) : DS X pn (.Expr (.Call (.Attribute (.Name x px) "pop" pa) [] [] pc) pos) f :=
  PS.imp (ps_expr (pe_bm0 F.plainAttrs_list F.slot_list_pop F.type_list_pop mt_pop hv hb hl)) fun D σ H ⟨B, Z, ρ, o, hp, rl, e1, q⟩ => by
  rw [hf] at e1
  cases c0 : getO ρ i with
  | none => rw [c0] at e1; cases e1
  | some ds =>
  rw [c0] at e1
  simp only [Option.bind_eq_bind, Option.bind_some] at e1
  split at e1
  · cases e1
  rename_i hne
  cases e1
  obtain ⟨p, xs, h1, h2, h3, h4, h5⟩ := rl.own i ds (getO_some c0)
  refine ⟨.ref p, h1, .inl ⟨rfl, xs, .inl (.inl h2)⟩, ?_⟩
  have hx : xs.length ≠ 0 := by
    rw [h4.len]
    intro z
    exact hne (by rw [List.isEmpty_iff]; exact List.eq_nil_of_length_eq_zero z)
  have hy : xs[xs.length - 1]? = some (xs[xs.length - 1]'(by omega)) := List.getElem?_eq_getElem _
  refine ⟨p, xs, _, rfl, rfl, h2, hy, ?_⟩
  have h6 := h4.take (ds.length - 1)
  rw [← List.dropLast_eq_take] at h6
  have h7 : DvAll X.K Z xs.dropLast ds.dropLast := by
    rw [List.dropLast_eq_take, List.dropLast_eq_take, h4.len]
    exact h4.take _
  exact q _ _ Z (rl.turn (getO_some c0) h1 h7) (Same.refl Z)
/-- list(range(a)) -/
theorem de_lrg {a : Expr} {p p2 pos pos2 : Pos} {fa f : Env1 → Option (R × Env1)} (hc : X.calm = true) (hg : Gl X "list") (hm : X.mg "list" = none) (hg2 : Gl X "range") (hm2 : X.mg "range" = none) (ha : DE X pn a fa)
    (hs : starEach [a] X.env = (false, eval a X.env) :: starEach [] X.env) (hs2 : starEach [.Call (.Name "range" p2) [a] [] pos2] X.env = (false, eval (.Call (.Name "range" p2) [a] [] pos2) X.env) :: starEach [] X.env)
    (hf : ∀ ρ, f ρ = (do let (x, ρ1) ← fa ρ; let is ← rngD [x.d]; some (.frs is, ρ1))) : DE X pn (.Call (.Name "list" p) [.Call (.Name "range" p2) [a] [] pos2] [] pos) f := by
  refine PE.imp (pe_listRg hc hg hm (prg_1 hg2 hm2 ha hs) hs2) fun σ H Q ⟨B, Z, ρ, r, ρ', hp, rl, e1, q⟩ => ?_
  rw [hf] at e1
  cases c1 : fa ρ with
  | none => rw [c1] at e1; cases e1
  | some w =>
  obtain ⟨x, ρ1⟩ := w
  rw [c1] at e1
  simp only [Option.bind_eq_bind, Option.bind_some] at e1
  cases c3 : rngD [x.d] with
  | none => rw [c3] at e1; cases e1
  | some js =>
  rw [c3] at e1; cases e1
  refine tD_d hp rl c1 fun v H' Z' rl' sm dv => ?_
  unfold rngD at c3
  split at c3
  · rename_i n hn
    injection hn with hn _
    rw [hn] at dv
    cases dv
    split at c3
    · rename_i c
      cases c3
      refine ⟨n, rfl, ⟨by omega, by omega, by omega, by omega, by omega⟩, fun p hp => ?_⟩
      have dv : DvAll X.K Z' (rgV 0 n) ((List.range n.toNat).map fun (i : Nat) => PyData.int i) := by
        unfold rgV
        rw [show n - 0 = n by omega]
        generalize n.toNat = m
        induction m with
        | zero => exact .nil
        | succ m ih =>
          rw [List.range_succ, List.map_append, List.map_append]
          refine ih.append (.one ?_)
          show Dv X.K Z' (.int (0 + (m : Nat))) (.int (m : Nat))
          rw [Int.zero_add]; exact .int _
      obtain ⟨g1, g2⟩ := rl'.newL hp dv
      exact q _ _ Z' g1 sm g2
    · cases c3
  · rename_i hn
    injection hn with _ hn
    cases hn
  · cases c3
theorem szX : sizeLine = 16777216 := rfl
/-- the names of types, one behind another -/
theorem pa_tys {c : Cc} {G : Gx} {k : Nat} (g : Gd G c.N k X) : ∀ (es : List Expr) (ts : List Str), tysG X.env.scope es = some ts → PA X es (fun _ H Q => Q (ts.map fun t => V.ty (tyN t)) H)
  | [], ts, h => by cases h; exact pa_nil
  | e :: es, ts, h => by
    cases e <;> first | (cases h; done) | skip
    rename_i t p
    have h : (if glB X.env.scope t && tyNames.contains t then (tysG X.env.scope es).map (t :: ·) else none) = some ts := h
    split at h
    · rename_i ht
      cases c1 : tysG X.env.scope es with
      | none => rw [c1] at h; cases h
      | some r =>
        rw [c1] at h; cases h
        exact PA.imp (pa_cons (tyN_ok g ht) (pa_tys g es r c1) rfl) fun σ H Q q => q
    · cases h
theorem tys_sz : ∀ (sc : Scope) (es : List Expr) (ts : List Str), tysG sc es = some ts → ts.length = es.length
  | _, [], ts, h => by cases h; rfl
  | sc, e :: es, ts, h => by
    cases e <;> first | (cases h; done) | skip
    rename_i t p
    have h : (if glB sc t && tyNames.contains t then (tysG sc es).map (t :: ·) else none) = some ts := h
    split at h
    · cases c1 : tysG sc es with
      | none => rw [c1] at h; cases h
      | some r => rw [c1] at h; cases h; simp [tys_sz sc es r c1]
    · cases h
/-- a built-in that only looks at what a slot holds -/
theorem blt_pk {G : Gx} {N : List Str} {k : Nat} (g : Gd G N k X) {f : Str} {d : PyData} {v : V} {u : Value} {r : R} {H : Hp} {Q : VK} (hf : pkN.contains f = true) (hu : bltV f = some u) (hb : bltD f [d] = some r) (h : Dv X.K H v d) (q : ∀ w d', r = .dat d' → (∀ Z, Dv X.K Z w d') → Q w H) : cAny X u [v] H Q := by
  have hf : f = "len" ∨ f = "sum" ∨ f = "all" ∨ f = "any" ∨ f = "repr" := by
    have : f ∈ pkN := by simpa using hf
    simpa [pkN] using this
  rcases hf with rfl | rfl | rfl | rfl | rfl
  · cases hu
    cases h with
    | lst a b => cases hb; exact ⟨_, call_len_seq, _, _, rfl, .inl a, q _ _ rfl fun Z => by rw [b.len]; exact .int _⟩
    | tup a b => cases hb; exact ⟨_, call_len_seq, _, _, rfl, .inr a, q _ _ rfl fun Z => by rw [b.len]; exact .int _⟩
    | str x =>
      have hb : (if x.length ≤ sizeLine then some (R.dat (.int x.length)) else none) = some r := hb
      split at hb
      · rename_i c; cases hb; exact ⟨_, call_len_str, _, rfl, c, q _ _ rfl fun Z => .int _⟩
      · cases hb
    | non => cases hb
    | bl _ => cases hb
    | int _ => cases hb
    | dct _ => cases hb
  · cases hu
    cases h with
    | lst a b =>
      rename_i ds
      have hb : ((allInt ds).map fun ns => R.dat (.int ns.sum)) = some r := hb
      cases c : allInt ds with
      | none => rw [c] at hb; cases hb
      | some bs => rw [c] at hb; cases hb; exact ⟨_, cr_sum g.calm, _, bs, rfl, by rw [← b.ints c]; exact a, q _ _ rfl fun Z => .int _⟩
    | _ => cases hb
  · cases hu
    cases h with
    | lst a b =>
      rename_i ds
      have hb : ((allBl ds).map fun ns => R.dat (.bool (ns.all id))) = some r := hb
      cases c : allBl ds with
      | none => rw [c] at hb; cases hb
      | some bs => rw [c] at hb; cases hb; exact ⟨_, cr_all g.calm, _, bs, rfl, by rw [← b.bls c]; exact a, q _ _ rfl fun Z => .bl _⟩
    | _ => cases hb
  · cases hu
    cases h with
    | lst a b =>
      rename_i ds
      have hb : ((allBl ds).map fun ns => R.dat (.bool (ns.any id))) = some r := hb
      cases c : allBl ds with
      | none => rw [c] at hb; cases hb
      | some bs => rw [c] at hb; cases hb; exact ⟨_, cr_any g.calm, _, bs, rfl, by rw [← b.bls c]; exact a, q _ _ rfl fun Z => .bl _⟩
    | _ => cases hb
  · cases hu
    have hb : (if reprOk d then some (R.dat (.str d.shown)) else none) = some r := hb
    split at hb
    · rename_i c
      cases hb
      exact ⟨_, call_reprD g _ c, _, rfl, h, q _ _ rfl fun Z => .str _⟩
    · cases hb
theorem de_pkb {G : Gx} {N : List Str} {k : Nat} (g : Gd G N k X) {f : Str} {e : Expr} {p pos : Pos} {u : Value} {i : Nat} {h : Env1 → Option (R × Env1)} (hf : pkN.contains f = true) (hu : bltV f = some u) (hr : PE X (.Call (.Name f p) [e] [] pos) (tCB (cAny X u) (tCons (tVar i) tNil)))
    (hh : ∀ ρ, h ρ = (do let d ← getD ρ i; let r ← bltD f [d]; some (r, ρ))) : DE X pn (.Call (.Name f p) [e] [] pos) h := PE.imp hr fun σ H Q ⟨B, Z, ρ, r, ρ', hp, rl, e1, q⟩ => by
  rw [hh] at e1
  cases c1 : getD ρ i with
  | none => rw [c1] at e1; cases e1
  | some d =>
  rw [c1] at e1
  simp only [Option.bind_eq_bind, Option.bind_some] at e1
  cases c2 : bltD f [d] with
  | none => rw [c2] at e1; cases e1
  | some r' =>
  rw [c2] at e1; cases e1
  obtain ⟨v, h1, h2⟩ := getD_dw rl c1
  refine ⟨v, h1, ?_⟩
  exact blt_pk g hf hu c2 (h2.up rl.zh) fun w d' er hd => q w H Z rl (Same.refl Z) (by rw [er]; exact hd Z)
/-- isinstance(x, (a, b)) -/
theorem de_isiT {c : Cc} {G : Gx} {k : Nat} (g : Gd G c.N k X) {a : Expr} {x : Str} {p p2 pos : Pos} {kk : Nat} {es : List Expr} {ts : List Str} {fa f : Env1 → Option (R × Env1)} (hx : x = "isinstance") (hg : Gl X x) (ha : DE X pn a fa) (ht : tysG X.env.scope es = some ts) (hz : ts.length ≤ 100) (hs1 : starEach [a, .Tuple es kk p2] X.env = (false, eval a X.env) :: starEach [.Tuple es kk p2] X.env) (hf : ∀ ρ, f ρ = (do
      let (x, ρ1) ← fa ρ
      let k ← isiL x.d ts
      some (.dat (.bool k), ρ1))) : DE X pn (.Call (.Name x p) [a, .Tuple es kk p2] [] pos) f := by
  subst hx
  refine PE.imp (pe_callB call_isiT hg (g.mg (by decide +kernel)) (by decide +kernel) (pa_cons ha (pa_cons (pe_tup (pa_tys g es ts ht)) pa_nil rfl) hs1) (by decide) (by decide) hs1 rfl) fun σ H Q ⟨B, Z, ρ, r, ρ', hp, rl, e, q⟩ => ?_
  rw [hf] at e
  cases c1 : fa ρ with
  | none => rw [c1] at e; cases e
  | some w =>
  obtain ⟨y, ρ1⟩ := w
  rw [c1] at e
  simp only [Option.bind_eq_bind, Option.bind_some] at e
  cases c2 : isiL y.d ts with
  | none => rw [c2] at e; cases e
  | some kb =>
  rw [c2] at e; cases e
  refine tD_d hp rl c1 fun v H1 Z1 rl1 sm1 dv => ?_
  refine ⟨?_, fun tp htp => ?_⟩
  · rw [List.length_map, szX]; omega
  · have r2 := rl1.more (o := .tup (ts.map fun t => V.ty (tyN t))) htp
    have pr : ∀ ts : List Str, Paired ClsV (ts.map fun t => V.ty (tyN t)) (ts.map fun t => Value.type (tyN t)) := fun ts => by
      induction ts with
      | nil => exact .nil
      | cons t ts ih => exact .cons (.ty _) ih
    have dv' : Dv X.K Z1 v y.d := dv
    exact ⟨v, tp, _, _, _, kb, rfl, upd_same, pr ts, tyX_of r2.zh dv', isi_any ts kb c2, q _ _ Z1 r2 sm1 (.bl _)⟩
end
end Dx

namespace Dx
open PySem PySem.Spec PyProof.Rows L2
/-! ## A list lent for one expression -/
section
variable {K : PySem.W.Frag} {B : Bs} {Z Z' H H' : Hp} {σ : L2.St} {ρ ρ1 : Env1} {i : Nat}
theorem Rl.lend (r : Rl K B Z H σ ρ) {ds : List PyData} (ho : ρ[i]? = some (some (.own ds))) (hn : i ∉ pnOf B) : ∃ p xs, σ[i]? = some (some (.ref p)) ∧ H p = some (.lst xs) ∧ Z p = none ∧ DvAll K Z xs ds ∧ B.H p = none ∧
    Rl K B (upd Z p (.lst xs)) H σ (ρ.set i (some (.dat (.list ds)))) := by
  obtain ⟨v, h1, r1, p, xs, rfl, e1, e2, e3, e6, e4, e5⟩ := r.give0 ho hn
  have sm : Same Z (upd Z p (.lst xs)) := same_upd e2
  have r2 := r1.take e1 (.inl e3) e2 e6 e5
  have hd : Dv K (upd Z p (.lst xs)) (.ref p) (.list ds) := .lst (.inl (.inl upd_same)) (e4.up sm)
  have r3 := r2.know (i := i) h1 hd hn
  rw [List.set_set] at r3
  exact ⟨p, xs, h1, e1, e2, e4, e3, r3⟩
/-- without the thing at p -/
def cutZ (Z : Hp) (p : Addr) : Hp := fun b => if b = p then none else Z b
mutual
theorem scal_up {p : Addr} {ys : List V} (hp : Z p = some (.lst ys)) : ∀ (d : PyData) (v : V), scal d = true → Dv K Z v d → Dv K (cutZ Z p) v d
  | .none, _, _, h => by cases h; exact .non
  | .bool b, _, _, h => by cases h; exact .bl b
  | .int i, _, _, h => by cases h; exact .int i
  | .str x, _, _, h => by cases h; exact .str x
  | .list _, _, h, _ => by cases h
  | .dict _, _, h, _ => by cases h
  | .tuple ds, _, hs, h => by
    cases h with
    | tup hq ha =>
      refine .tup ?_ (scals_up hp ds _ hs ha)
      rcases hq with (h | ⟨o, h⟩) | h
      · refine .inl (.inl ?_)
        show (if _ = p then none else Z _) = _
        rw [if_neg (fun e => by rw [e, hp] at h; cases h)]; exact h
      · refine .inl (.inr ⟨o, ?_⟩)
        show (if _ = p then none else Z _) = _
        rw [if_neg (fun e => by rw [e, hp] at h; cases h)]; exact h
      · exact .inr h
theorem scals_up {p : Addr} {ys : List V} (hp : Z p = some (.lst ys)) : ∀ (ds : List PyData) (vs : List V), scalA ds = true → DvAll K Z vs ds → DvAll K (cutZ Z p) vs ds
  | [], _, _, h => by cases h; exact .nil
  | d :: ds, _, hs, h => by
    obtain ⟨h1, h2⟩ := Bool.and_eq_true_iff.mp hs
    cases h with
    | cons a b => exact .cons (scal_up hp d _ h1 a) (scals_up hp ds _ h2 b)
end
theorem scalA_all : ∀ ds : List PyData, scalA ds = ds.all scal
  | [] => rfl
  | d :: ds => by rw [scalA, List.all_cons, scalA_all ds]
theorem borE_get : ∀ {n : Nat} {ρ ρ1 ρ2 : Env1}, borE i n ρ ρ1 = some ρ2 → ρ2.length = ρ.length ∧ ∀ j,
    (∀ d, ρ2[j]? = some (some (.dat d)) → ρ[j]? = some (some (.dat d))) ∧
    (∀ es, ρ2[j]? = some (some (.own es)) → (n + j = i ∧ ρ[j]? = some (some (.own es))) ∨ (n + j ≠ i ∧ (∃ ds, ρ[j]? = some (some (.own ds))) ∧ ρ1[j]? = some (some (.own es)) ∧ es.all scal = true)) ∧
    (∀ ds, ρ[j]? = some (some (.own ds)) → ∃ es, ρ2[j]? = some (some (.own es)))
  | n, [], [], ρ2, h => by cases h; exact ⟨rfl, fun j => ⟨fun d e => (by simp at e), fun d e => (by simp at e), fun d e => (by simp at e)⟩⟩
  | n, [], y :: r1, ρ2, h => by cases h
  | n, x :: r, [], ρ2, h => by
    cases x with
    | none => cases h
    | some s => cases s <;> cases h
  | n, none :: r, y :: r1, ρ2, h => by
    have h : (borE i (n + 1) r r1).map (none :: ·) = some ρ2 := h
    cases q : borE i (n + 1) r r1 with
    | none => rw [q] at h; cases h
    | some r2 =>
      rw [q] at h; cases h
      obtain ⟨l, g⟩ := borE_get q
      refine ⟨by simp [l], fun j => ?_⟩
      cases j with
      | zero => exact ⟨fun d e => (by simp at e), fun d e => (by simp at e), fun d e => (by simp at e)⟩
      | succ j =>
        obtain ⟨g1, g2, g3⟩ := g j
        rw [show n + 1 + j = n + (j + 1) by omega] at g2
        exact ⟨fun d e => by simpa using g1 d (by simpa using e), fun d e => by simpa using g2 d (by simpa using e), fun d e => by simpa using g3 d (by simpa using e)⟩
  | n, some (.dat dd) :: r, y :: r1, ρ2, h => by
    have h : (borE i (n + 1) r r1).map (some (.dat dd) :: ·) = some ρ2 := h
    cases q : borE i (n + 1) r r1 with
    | none => rw [q] at h; cases h
    | some r2 =>
      rw [q] at h; cases h
      obtain ⟨l, g⟩ := borE_get q
      refine ⟨by simp [l], fun j => ?_⟩
      cases j with
      | zero => exact ⟨fun d e => (by simpa using e), fun d e => (by simp at e), fun d e => (by simp at e)⟩
      | succ j =>
        obtain ⟨g1, g2, g3⟩ := g j
        rw [show n + 1 + j = n + (j + 1) by omega] at g2
        exact ⟨fun d e => by simpa using g1 d (by simpa using e), fun d e => by simpa using g2 d (by simpa using e), fun d e => by simpa using g3 d (by simpa using e)⟩
  | n, some (.own dd) :: r, y :: r1, ρ2, h => by
    have lent : n = i → borE i n (some (.own dd) :: r) (y :: r1) = some ρ2 → (borE i (n + 1) r r1).map (some (.own dd) :: ·) = some ρ2 := fun hn h => by
      cases y with
      | none =>
        have h : (if n = i then (borE i (n + 1) r r1).map (some (.own dd) :: ·) else none) = some ρ2 := h
        rwa [if_pos hn] at h
      | some s =>
        cases s with
        | dat d =>
          have h : (if n = i then (borE i (n + 1) r r1).map (some (.own dd) :: ·) else none) = some ρ2 := h
          rwa [if_pos hn] at h
        | own es =>
          have h : (if n = i then (borE i (n + 1) r r1).map (some (.own dd) :: ·) else if es.all scal then (borE i (n + 1) r r1).map (some (.own es) :: ·) else none) = some ρ2 := h
          rwa [if_pos hn] at h
    have key : ∃ es r2, borE i (n + 1) r r1 = some r2 ∧ ρ2 = some (.own es) :: r2 ∧ ((n = i ∧ es = dd) ∨ (n ≠ i ∧ y = some (.own es) ∧ es.all scal = true)) := by
      by_cases hn : n = i
      · have h := lent hn h
        cases q : borE i (n + 1) r r1 with
        | none => rw [q] at h; cases h
        | some r2 => rw [q] at h; cases h; exact ⟨dd, r2, rfl, rfl, .inl ⟨hn, rfl⟩⟩
      · cases y with
        | none =>
          have h : (if n = i then (borE i (n + 1) r r1).map (some (.own dd) :: ·) else none) = some ρ2 := h
          rw [if_neg hn] at h; cases h
        | some s =>
          cases s with
          | dat d =>
            have h : (if n = i then (borE i (n + 1) r r1).map (some (.own dd) :: ·) else none) = some ρ2 := h
            rw [if_neg hn] at h; cases h
          | own es =>
            have h : (if n = i then (borE i (n + 1) r r1).map (some (.own dd) :: ·) else if es.all scal then (borE i (n + 1) r r1).map (some (.own es) :: ·) else none) = some ρ2 := h
            rw [if_neg hn] at h
            split at h
            · rename_i hs
              cases q : borE i (n + 1) r r1 with
              | none => rw [q] at h; cases h
              | some r2 => rw [q] at h; cases h; exact ⟨es, r2, rfl, rfl, .inr ⟨hn, rfl, hs⟩⟩
            · cases h
    obtain ⟨es, r2, q, rfl, hk⟩ := key
    obtain ⟨l, g⟩ := borE_get q
    refine ⟨by simp [l], fun j => ?_⟩
    cases j with
    | zero =>
      refine ⟨fun d e => (by simp at e), fun d e => ?_, fun d e => ⟨es, by simp⟩⟩
      have e : es = d := by simpa using e
      subst e
      rcases hk with ⟨h1, h2⟩ | ⟨h1, h2, h3⟩
      · subst h2; exact .inl ⟨by omega, by simp⟩
      · exact .inr ⟨by omega, ⟨dd, by simp⟩, by simp [h2], h3⟩
    | succ j =>
      obtain ⟨g1, g2, g3⟩ := g j
      rw [show n + 1 + j = n + (j + 1) by omega] at g2
      exact ⟨fun d e => by simpa using g1 d (by simpa using e), fun d e => by simpa using g2 d (by simpa using e), fun d e => by simpa using g3 d (by simpa using e)⟩
/-- given back -/
theorem Rl.back (r : Rl K B Z H σ ρ) {ds : List PyData} {p : Addr} {xs : List V} (ho : ρ[i]? = some (some (.own ds))) (hs : σ[i]? = some (some (.ref p))) (hx : DvAll K Z xs ds) (hz : Z p = none) (hb : B.H p = none)
    (r1 : Rl K B Z' H' σ ρ1) (sm : Same (upd Z p (.lst xs)) Z') {ρ2 : Env1} (hr : borE i 0 ρ ρ1 = some ρ2) : Rl K B (cutZ Z' p) H' σ ρ2 ∧ Same Z (cutZ Z' p) ∧ Z' p = some (.lst xs) := by
  obtain ⟨l, g⟩ := borE_get hr
  have s1 : Same Z (cutZ Z' p) := fun b o e => by
    have ne : b ≠ p := fun z => by rw [z, hz] at e; cases e
    show (if b = p then none else Z' b) = some o
    rw [if_neg ne]
    exact sm b o (by rw [upd_ne ne]; exact e)
  have s2 : ∀ b o, cutZ Z' p b = some o → Z' b = some o := fun b o e => by
    unfold cutZ at e
    split at e
    · cases e
    · exact e
  have hp : H' p = some (.lst xs) := r1.zh p _ (sm p _ upd_same)
  refine ⟨⟨by rw [l]; exact r.len, fun b o e => s1 b o (r.bz b o e), fun b o e => r1.zh b o (s2 b o e), fun b o e => r1.zn b o (s2 b o e), r1.kp, fun j d e => ?_, fun j es e => ?_, fun j k es fs q e1 e2 e3 e4 => ?_, fun q hq => ?_, fun q hq => ?_⟩, s1, sm p _ upd_same⟩
  · obtain ⟨v, h1, h2⟩ := r.dat j d ((g j).1 d e)
    exact ⟨v, h1, h2.up s1⟩
  · rcases (g j).2.1 es e with ⟨w1, w2⟩ | ⟨w1, ⟨ds', w2⟩, w3, w4⟩
    · have : j = i := by omega
      subst this
      rw [ho] at w2; cases w2
      exact ⟨p, xs, hs, hp, if_pos rfl, hx.up s1, .inr hb⟩
    · obtain ⟨q, ys, h1, h2, h3, h4, h5⟩ := r1.own j es w3
      refine ⟨q, ys, h1, h2, ?_, scals_up (sm p _ upd_same) _ _ (by rw [scalA_all]; exact w4) h4, h5⟩
      show (if q = p then none else Z' q) = none
      split
      · rfl
      · exact h3
  · obtain ⟨ds1, w1⟩ : ∃ ds1, ρ[j]? = some (some (.own ds1)) := by
      rcases (g j).2.1 es e1 with ⟨_, w⟩ | ⟨_, ⟨ds', w⟩, _⟩
      · exact ⟨_, w⟩
      · exact ⟨_, w⟩
    obtain ⟨ds2, w2⟩ : ∃ ds1, ρ[k]? = some (some (.own ds1)) := by
      rcases (g k).2.1 fs e2 with ⟨_, w⟩ | ⟨_, ⟨ds', w⟩, _⟩
      · exact ⟨_, w⟩
      · exact ⟨_, w⟩
    exact r.apart j k ds1 ds2 q w1 w2 e3 e4
  · obtain ⟨w1, ds', w2⟩ := r.pin q hq
    exact ⟨w1, (g q.1).2.2 ds' w2⟩
  · obtain ⟨w1, w2, w3⟩ := r1.pd q hq
    refine ⟨w1, ?_, fun j es e => ?_⟩
    · show (if q.1 = p then none else Z' q.1) = none
      split
      · rfl
      · exact w2
    · obtain ⟨_, _, w4⟩ := r.pd q hq
      rcases (g j).2.1 es e with ⟨_, w⟩ | ⟨_, ⟨ds', w⟩, _⟩
      · exact w4 j _ w
      · exact w4 j _ w
end
section
variable {X : Cx} {pn : List Nat}
theorem de_bor {e : Expr} {i : Nat} {fe f : Env1 → Option (R × Env1)} (he : DE X pn e fe) (ht : DT X pn e fe) (hf : ∀ ρ, f ρ = borG pn i fe ρ) : DE X pn e f ∧ DT X pn e f := by
  have core : ∀ {B : Bs} {Z H : Hp} {σ : L2.St} {ρ ρ' : Env1} {r : R}, pnOf B = pn → Rl X.K B Z H σ ρ → f ρ = some (r, ρ') → (fe ρ = some (r, ρ')) ∨
      ∃ ds x ρ1 p xs, ρ[i]? = some (some (.own ds)) ∧ σ[i]? = some (some (.ref p)) ∧ DvAll X.K Z xs ds ∧ Z p = none ∧ B.H p = none ∧ Rl X.K B (upd Z p (.lst xs)) H σ (ρ.set i (some (.dat (.list ds)))) ∧ fe (ρ.set i (some (.dat (.list ds)))) = some (x, ρ1) ∧ scal x.d = true ∧ borE i 0 ρ ρ1 = some ρ' ∧ r = .dat x.d := by
    intro B Z H σ ρ ρ' r hp rl e1
    rw [hf] at e1
    unfold borG at e1
    split at e1
    · rename_i ds ho
      split at e1
      · cases e1
      rename_i hn
      cases c1 : fe (ρ.set i (some (.dat (.list ds)))) with
      | none => rw [c1] at e1; cases e1
      | some w =>
      obtain ⟨x, ρ1⟩ := w
      rw [c1] at e1
      simp only [Option.bind_eq_bind, Option.bind_some] at e1
      split at e1
      · rename_i hx
        cases c2 : borE i 0 ρ ρ1 with
        | none => rw [c2] at e1; cases e1
        | some ρ2 =>
          rw [c2] at e1; cases e1
          obtain ⟨p, xs, h1, h2, h3, h4, h5, h6⟩ := rl.lend ho (by rw [hp]; simpa using hn)
          exact .inr ⟨ds, x, ρ1, p, xs, ho, h1, h4, h3, h5, h6, c1, hx, c2, rfl⟩
      · cases e1
    · exact .inl e1
  constructor
  · refine PE.imp he fun σ H Q ⟨B, Z, ρ, r, ρ', hp, rl, e1, q⟩ => ?_
    rcases core hp rl e1 with w | ⟨ds, x, ρ1, p, xs, h1, h2, h3, h4, h5, h6, h7, h8, h9, rfl⟩
    · exact ⟨B, Z, ρ, r, ρ', hp, rl, w, q⟩
    · refine tD_d hp h6 h7 fun v H1 Z1 rl1 sm1 dv => ?_
      obtain ⟨r2, s2, s3⟩ := rl.back h1 h2 h3 h4 h5 rl1 sm1 h9
      exact q v H1 _ r2 s2 (scal_up s3 _ _ h8 dv)
  · refine PT.imp ht fun σ H Q ⟨B, Z, ρ, r, ρ', k, hp, rl, e1, hk, q⟩ => ?_
    rcases core hp rl e1 with w | ⟨ds, x, ρ1, p, xs, h1, h2, h3, h4, h5, h6, h7, h8, h9, rfl⟩
    · exact ⟨B, Z, ρ, r, ρ', k, hp, rl, w, hk, q⟩
    · refine tDT_k hp h6 h7 hk fun H1 Z1 rl1 sm1 => ?_
      obtain ⟨r2, s2, _⟩ := rl.back h1 h2 h3 h4 h5 rl1 sm1 h9
      exact q H1 _ r2 s2
end
end Dx

namespace Dx
open PySem
theorem typeCall_zip (as : List Value) : checkTypeCall "zip" ⟨as, []⟩ = pure () := by kernel_rfl
theorem newCall_zip : ∀ (as : List Value), as.length ≤ 12 → checkBuiltinCall "zip.__new__" ⟨.type "zip" :: as, []⟩ = pure ()
  | [], _ => by kernel_rfl
  | [_], _ => by kernel_rfl
  | [_, _], _ => by kernel_rfl
  | [_, _, _], _ => by kernel_rfl
  | [_, _, _, _], _ => by kernel_rfl
  | [_, _, _, _, _], _ => by kernel_rfl
  | [_, _, _, _, _, _], _ => by kernel_rfl
  | [_, _, _, _, _, _, _], _ => by kernel_rfl
  | [_, _, _, _, _, _, _, _], _ => by kernel_rfl
  | [_, _, _, _, _, _, _, _, _], _ => by kernel_rfl
  | [_, _, _, _, _, _, _, _, _, _], _ => by kernel_rfl
  | [_, _, _, _, _, _, _, _, _, _, _], _ => by kernel_rfl
  | [_, _, _, _, _, _, _, _, _, _, _, _], _ => by kernel_rfl
  | _ :: _ :: _ :: _ :: _ :: _ :: _ :: _ :: _ :: _ :: _ :: _ :: _ :: _, h => absurd h (by simp)
theorem args_init (obj : Value) (as : List Value) : argsOk "object.__init__" ⟨obj :: as, []⟩ := by
  unfold argsOk; rw [PySem.signature?_of (id := "object.__init__") (n := ['_', '_', 't', 'i', 'n', 'i', '_', '_']) (o := ['t', 'c', 'e', 'j', 'b', 'o']) (by kernel_rfl) PySem.F.owner_object]; kernel_rfl
end Dx

/-! zip of many lists and tuples -/
namespace Dx
open PySem PySem.W
/-- one of the things that are zipped: its iterator, itself, its items -/
structure Sr where
  it : Nat
  l : Nat
  tu : Bool
  items : List Value
def Sr.At (q : Sr) (i : Nat) (h : Heap) : Prop := if q.tu = true then h.IsTupleIter q.it q.l i ∧ h.IsTuple q.l q.items.toArray else h.IsListIter q.it q.l i ∧ h.IsList q.l q.items.toArray
theorem Sr.draws {prog : Program} {w : World} {A : Around} (hh : A.handled = none) (q : Sr) (hne : q.l ≠ q.it) : Draws prog w A q.it [q.it, q.l] q.items.length (fun i v => q.items[i]? = some v) (q.At) := by
  cases e : q.tu with
  | true =>
    have D := Draws.tuple (prog := prog) (w := w) hh q.it q.l hne q.items.toArray
    simp only [List.size_toArray, List.getElem?_toArray] at D
    have : (fun (i : Nat) (h : Heap) => h.IsTupleIter q.it q.l i ∧ h.IsTuple q.l q.items.toArray) = q.At := by
      funext i h; unfold Sr.At; rw [if_pos e]
    rw [this] at D; exact D
  | false =>
    have D := Draws.list (prog := prog) (w := w) hh q.it q.l hne q.items.toArray
    simp only [List.size_toArray, List.getElem?_toArray] at D
    have : (fun (i : Nat) (h : Heap) => h.IsListIter q.it q.l i ∧ h.IsList q.l q.items.toArray) = q.At := by
      funext i h; unfold Sr.At; rw [if_neg (by rw [e]; decide)]
    rw [this] at D; exact D
theorem Sr.At.keep {q : Sr} {i : Nat} {h h' : Heap} (a : q.At i h) (k1 : ∀ o, h.get? q.it = some o → h'.get? q.it = some o) (k2 : ∀ o, h.get? q.l = some o → h'.get? q.l = some o) : q.At i h' := by
  unfold Sr.At at a ⊢
  split
  · rename_i e
    rw [if_pos e] at a
    exact ⟨a.1.at k1, a.2.at k2⟩
  · rename_i e
    rw [if_neg e] at a
    exact ⟨a.1.at k1, a.2.at k2⟩
/-- the cells lie apart -/
structure ZSep (z TI TO : Addr) (qs : List Sr) : Prop where
  TIz : TI ≠ z
  TOz : TO ≠ z
  TITO : TI ≠ TO
  itz : ∀ q ∈ qs, q.it ≠ z
  itI : ∀ q ∈ qs, q.it ≠ TI
  itO : ∀ q ∈ qs, q.it ≠ TO
  lz : ∀ q ∈ qs, q.l ≠ z
  lO : ∀ q ∈ qs, q.l ≠ TO
  lit : ∀ q ∈ qs, ∀ r ∈ qs, q.l ≠ r.it
  its : qs.Pairwise fun q r => q.it ≠ r.it
abbrev IsT (h : Heap) (T : Addr) (vs : List Value) : Prop := h.get? T = some { cls := .type "tuple", data := .seq vs.toArray }
/-- the row of items at i -/
def Row (qs : List Sr) (i : Nat) (vs : List Value) : Prop := vs.length = qs.length ∧ ∀ (j : Nat) (q : Sr) (v : Value), qs[j]? = some q → vs[j]? = some v → q.items[i]? = some v
section
variable {prog : Program} {w : World} {A : Around} {E : Value → Shared → Prop} {s : Shared} {z TI TO : Addr} {qs : List Sr} {i : Nat}
theorem zn_free_item {old : List Value} {Q : Value → Shared → Prop} (hh : A.handled = none) (D : ZSep z TI TO qs) (hne : qs ≠ []) (hz : IsZip s.heap z TI TO .none) (hTI : IsT s.heap TI (qs.map fun q => .ref q.it)) (hTO : IsT s.heap TO old) (hol : old.length = qs.length)
    (hst : ∀ q ∈ qs, q.At i s.heap) (hlt : ∀ q ∈ qs, i < q.items.length) (hsz : qs.length ≤ sizeLine)
    (hQ : ∀ vs h' tk, Row qs i vs → IsZip h' z TI TO (rawInt s.heap.objs.size) → IsT h' TO vs → (∀ q ∈ qs, q.At (i + 1) h') → IsT h' s.heap.objs.size vs → h'.objs.size = s.heap.objs.size + 1 →
      (∀ c o, c ≠ z → c ≠ TO → (∀ q ∈ qs, c ≠ q.it) → s.heap.get? c = some o → h'.get? c = some o) → Q (.ref s.heap.objs.size) { s with heap := h', toks := tk }) :
    wpAny (model prog w) A (Builtin.«zip.__next__» ⟨[.ref z], []⟩) (fun fin s' => ∃ v, fin = .done (.ret v) ∧ Q v s') E s := by
  obtain ⟨hp, g, d, tk0, os⟩ := s
  show wpAny _ _ (field (.ref z) 2 >>= _) _ _ _
  refine wpAny_bind (wpAny_field hz rfl (x := .bool false) rfl ?_)
  show wpAny _ _ (field (.ref z) 3 >>= _) _ _ _
  refine wpAny_bind (wpAny_field hz rfl (x := .ref TI) rfl ?_)
  refine wpAny_bind (wpAny_seqItems hTI rfl ?_)
  obtain ⟨q0, qr, rfl⟩ : ∃ q0 qr, qs = q0 :: qr := by cases qs with | nil => exact absurd rfl hne | cons a r => exact ⟨a, r, rfl⟩
  show wpAny _ _ (Builtin.SmallTypes.ownedTupleIsFree (.ref z) >>= _) _ _ _
  refine wpAny_bind ?_
  unfold Builtin.SmallTypes.ownedTupleIsFree
  refine wpAny_bind (wpAny_field hz rfl (x := .none) rfl (wpAny_pure ?_))
  simp only [if_true]
  refine wpAny_bind (wpAny_rule ?_)
  refine wpAny_bind (wpAny_field hz rfl (x := .ref TO) rfl ?_)
  refine wpAny_bind (wpAny_setField_rec hz (by simp) fun g0 hz0 hs0 => ?_)
  replace hz0 : IsZip g0 z TI TO .ellipsis := hz0
  replace hs0 : Heap.SameBut z hp g0 := hs0
  have hsO : ∀ q ∈ q0 :: qr, ∀ h h' : Heap, ∀ x, Heap.SameBut x h h' → q.it ≠ x → q.l ≠ x → ∀ k, q.At k h → q.At k h' := fun q hq h h' x sb h1 h2 k a => a.keep (fun o e => sb.extBut _ _ h1 e) (fun o e => sb.extBut _ _ h2 e)
  refine wpAny_bind (wpAny_forIn_list _ (fun rest b s' => b = (none, ()) ∧ ∃ (dn todo : List Sr) (vs old' : List Value) (h : Heap) (tk : Nat), q0 :: qr = dn ++ todo ∧ rest = (todo.map fun q => Value.ref q.it).zipIdx dn.length ∧ s' = ⟨h, g, d, tk, os⟩ ∧
    vs.length = dn.length ∧ old'.length = todo.length ∧ IsT h TO (vs ++ old') ∧ (∀ q ∈ dn, q.At (i + 1) h) ∧ (∀ q ∈ todo, q.At i h) ∧ (∀ (j : Nat) (q : Sr) (v : Value), dn[j]? = some q → vs[j]? = some v → q.items[i]? = some v) ∧
    IsZip h z TI TO .ellipsis ∧ h.objs.size = hp.objs.size ∧ ∀ c o, c ≠ z → c ≠ TO → (∀ q ∈ q0 :: qr, c ≠ q.it) → hp.get? c = some o → h.get? c = some o) _ ?_ ?_ _ _ ?_)
  · rintro x rest b s' ⟨rfl, dn, todo, vs, old', h, tk, e1, e2, rfl, l1, l2, hT, a1, a2, rw1, hzz, hsz', kp⟩
    obtain ⟨q, todo, rfl⟩ : ∃ q t, todo = q :: t := by
      cases todo with
      | nil => cases e2
      | cons q t => exact ⟨q, t, rfl⟩
    rw [List.map_cons, List.zipIdx_cons] at e2
    obtain ⟨rfl, rfl⟩ := List.cons.inj e2
    obtain ⟨w0, old', rfl⟩ : ∃ w0 t, old' = w0 :: t := by
      cases old' with
      | nil => cases l2
      | cons q t => exact ⟨q, t, rfl⟩
    have hq : q ∈ q0 :: qr := by rw [e1]; simp
    have dnm : ∀ r ∈ dn, r ∈ q0 :: qr := fun r hr => by rw [e1]; exact List.mem_append_left _ hr
    have tdm : ∀ r ∈ todo, r ∈ q0 :: qr := fun r hr => by rw [e1]; exact List.mem_append_right _ (List.mem_cons_of_mem _ hr)
    have pw := D.its
    rw [e1] at pw
    obtain ⟨_, pw2, pw3⟩ := List.pairwise_append.mp pw
    have dnq : ∀ r ∈ dn, r.it ≠ q.it := fun r hr => pw3 r hr q List.mem_cons_self
    have tdq : ∀ r ∈ todo, r.it ≠ q.it := fun r hr => ((List.pairwise_cons.mp pw2).1 r hr).symm
    have Dq := q.draws (prog := prog) (w := w) hh (D.lit q hq q hq)
    refine wpAny_bind (wpAny_onRaise ?_)
    show wpAny _ _ (Builtin.SmallTypes.nextOf (.ref q.it) >>= _) _ _ ⟨h, g, d, tk, os⟩
    refine wpAny_bind (Dq.item i _ _ _ (hlt q hq) (a2 q List.mem_cons_self) fun x1 h1 tk1 hx st1 sb1 => wpAny_pure ?_)
    replace sb1 : Heap.SameBut q.it h h1 := sb1
    have hT1 : IsT h1 TO (vs ++ w0 :: old') := sb1.extBut _ _ (D.itO q hq).symm hT
    refine wpAny_bind (wpAny_seqItems (s := ⟨h1, g, d, tk1, os⟩) hT1 rfl ?_)
    dsimp only
    have szA : (vs ++ w0 :: old').toArray.size ≤ sizeLine := by
      rw [List.size_toArray, List.length_append, List.length_cons, l1]
      have := congrArg List.length e1
      simp at this hsz l2
      omega
    refine wpAny_bind (wpAny_updateSeq (s := ⟨h1, g, d, tk1, os⟩) hT1 rfl ?_ szA (by rw [Array.size_setIfInBounds]; omega))
    refine wpAny_bind (wpAny_letGo (wpAny_pure ?_))
    have sb2 : Heap.SameBut TO h1 (h1.update TO (Obj.mapSeq fun a => a.setIfInBounds dn.length x1)) := Heap.SameBut.update ..
    have hT2 : IsT (h1.update TO (Obj.mapSeq fun a => a.setIfInBounds dn.length x1)) TO ((vs ++ [x1]) ++ old') := by
      show Heap.get? _ TO = _
      rw [Heap.get?_update_self _ hT1 rfl]
      simp only [Obj.mapSeq, List.setIfInBounds_toArray]
      rw [← l1, List.set_append_right _ _ (Nat.le_refl _)]
      simp
    generalize h1.update TO (Obj.mapSeq fun a => a.setIfInBounds dn.length x1) = h2 at *
    refine ⟨rfl, dn ++ [q], todo, vs ++ [x1], old', h2, tk1, by rw [e1]; simp, by simp, rfl, by simp [l1], by simpa using l2, hT2, fun r hr => ?_, fun r hr => ?_, fun j r v hj hv => ?_, ?_, ?_, fun c o c1 c2 c3 e => ?_⟩
    · rcases List.mem_append.mp hr with hr | hr
      · exact hsO r (dnm r hr) _ _ _ sb2 (D.itO r (dnm r hr)) (D.lO r (dnm r hr)) _ (hsO r (dnm r hr) _ _ _ sb1 (dnq r hr) (D.lit r (dnm r hr) q hq) _ (a1 r hr))
      · rw [List.mem_singleton.mp hr]
        exact hsO q hq _ _ _ sb2 (D.itO q hq) (D.lO q hq) _ st1
    · exact hsO r (tdm r hr) _ _ _ sb2 (D.itO r (tdm r hr)) (D.lO r (tdm r hr)) _ (hsO r (tdm r hr) _ _ _ sb1 (tdq r hr) (D.lit r (tdm r hr) q hq) _ (a2 r (List.mem_cons_of_mem _ hr)))
    · by_cases hjl : j < dn.length
      · rw [List.getElem?_append_left hjl] at hj
        rw [List.getElem?_append_left (by omega)] at hv
        exact rw1 j r v hj hv
      · have hj1 := (List.getElem?_eq_some_iff.mp hj).1
        have : j = dn.length := by simp at hj1; omega
        subst this
        rw [List.getElem?_append_right (Nat.le_refl _)] at hj
        rw [← l1, List.getElem?_append_right (Nat.le_refl _)] at hv
        simp at hj hv
        subst hj hv
        exact hx
    · exact sb2.extBut _ _ D.TOz.symm (sb1.extBut _ _ (D.itz q hq).symm hzz)
    · rw [sb2.1, sb1.1]; exact hsz'
    · exact sb2.extBut _ _ c2 (sb1.extBut _ _ (c3 q hq) (kp c o c1 c2 c3 e))
  · rintro b s' ⟨rfl, dn, todo, vs, old', h, tk, e1, e2, rfl, l1, l2, hT, a1, a2, rw1, hzz, hsz', kp⟩
    have ht : todo = [] := by
      cases todo with
      | nil => rfl
      | cons q t => rw [List.map_cons, List.zipIdx_cons] at e2; cases e2
    subst ht
    rw [List.append_nil] at e1
    have ho : old' = [] := List.eq_nil_of_length_eq_zero l2
    subst ho
    rw [List.append_nil] at hT
    dsimp only
    refine wpAny_bind (wpAny_seqItems (s := ⟨h, g, d, tk, os⟩) hT rfl ?_)
    dsimp only
    refine wpAny_bind (wpAny_newTuple ?_ (by show vs.length ≤ sizeLine; rw [l1, ← e1]; exact hsz))
    have hzlt : z < h.objs.size := Heap.lt_size hzz
    refine wpAny_bind ?_
    unfold Builtin.SmallTypes.ownedTupleHandOut
    show wpAny _ _ (setField (.ref z) 0 (rawInt h.objs.size) >>= fun _ => setField (.ref z) 1 (.bool false)) _ _ ⟨h.push { cls := .type "tuple", data := .seq vs.toArray.toList.toArray }, g, d, tk, os⟩
    have hz6 : IsZip (h.push { cls := .type "tuple", data := .seq vs.toArray.toList.toArray }) z TI TO .ellipsis := Heap.get?_push_of_some _ hzz
    refine wpAny_bind (wpAny_setField_rec hz6 (by simp) fun h7 hz7 hs7 => ?_)
    replace hz7 : IsZip h7 z TI TO (rawInt h.objs.size) := hz7
    refine wpAny_setField_rec hz7 (by simp) fun h8 hz8 hs8 => ?_
    replace hz8 : IsZip h8 z TI TO (rawInt h.objs.size) := hz8
    replace hs7 : Heap.SameBut z (h.push { cls := .type "tuple", data := .seq vs.toArray.toList.toArray }) h7 := hs7
    replace hs8 : Heap.SameBut z h7 h8 := hs8
    have up : ∀ c o, c ≠ z → h.get? c = some o → h8.get? c = some o := fun c o c1 e => hs8.extBut _ _ c1 (hs7.extBut _ _ c1 (Heap.get?_push_of_some _ e))
    have hT8 : IsT h8 h.objs.size vs := hs8.extBut _ _ (Nat.ne_of_gt hzlt) (hs7.extBut _ _ (Nat.ne_of_gt hzlt) (by
      have : (h.push { cls := .type "tuple", data := .seq vs.toArray.toList.toArray }).get? h.objs.size = some _ := Heap.get?_push_size _ rfl
      simpa using this))
    have hz9 : h8.objs.size = h.objs.size + 1 := by rw [hs8.1, hs7.1, Heap.size_push]
    refine wpAny_pure ⟨_, rfl, ?_⟩
    show Q (.ref h.objs.size) ⟨h8, g, d, tk, os⟩
    rw [hsz'] at hz8 hT8 hz9 ⊢
    rw [← e1] at a1 rw1 l1
    exact hQ vs h8 tk ⟨l1, rw1⟩ hz8 (up _ _ D.TOz hT) (fun q hq => (a1 q hq).keep (fun o e => up _ o (D.itz q hq) e) fun o e => up _ o (D.lz q hq) e) hT8 hz9 fun c o c1 c2 c3 e => up c o c1 (kp c o c1 c2 c3 e)
  · refine ⟨rfl, [], q0 :: qr, [], old, g0, tk0, rfl, rfl, rfl, rfl, hol, hs0.extBut _ _ D.TOz hTO, fun q hq => (by cases hq), fun q hq => hsO q hq _ _ _ hs0 (D.itz q hq) (D.lz q hq) _ (hst q hq), fun j q v hj => (by simp at hj), hz0, hs0.1, fun c o c1 _ _ e => hs0.extBut _ _ c1 e⟩
end
end Dx

/-! zip of many, its tuple still held; ends -/
namespace Dx
open PySem PySem.W
section
variable {prog : Program} {w : World} {A : Around} {E : Value → Shared → Prop} {s : Shared} {z TI TO T : Addr} {qs : List Sr} {i : Nat} {f : Bool} {oT : Obj}
theorem zn_held_item {Q : Value → Shared → Prop} (hh : A.handled = none) (D : ZSep z TI TO qs) (hne : qs ≠ []) (hz : IsZipHeld s.heap z TI TO T f) (hT : s.heap.get? T = some oT) (hTI : IsT s.heap TI (qs.map fun q => .ref q.it))
    (hst : ∀ q ∈ qs, q.At i s.heap) (hlt : ∀ q ∈ qs, i < q.items.length) (hsz : qs.length ≤ sizeLine)
    (hQ : ∀ vs h' tk, Row qs i vs → IsZipHeld h' z TI TO T true → (∀ q ∈ qs, q.At (i + 1) h') → IsT h' s.heap.objs.size vs → h'.objs.size = s.heap.objs.size + 1 →
      (∀ c o, c ≠ z → (∀ q ∈ qs, c ≠ q.it) → s.heap.get? c = some o → h'.get? c = some o) → Q (.ref s.heap.objs.size) { s with heap := h', toks := tk }) :
    wpAny (model prog w) A (Builtin.«zip.__next__» ⟨[.ref z], []⟩) (fun fin s' => ∃ v, fin = .done (.ret v) ∧ Q v s') E s := by
  obtain ⟨hp, g, d, tk0, os⟩ := s
  show wpAny _ _ (field (.ref z) 2 >>= _) _ _ _
  refine wpAny_bind (wpAny_field hz rfl (x := .bool false) rfl ?_)
  show wpAny _ _ (field (.ref z) 3 >>= _) _ _ _
  refine wpAny_bind (wpAny_field hz rfl (x := .ref TI) rfl ?_)
  refine wpAny_bind (wpAny_seqItems hTI rfl ?_)
  obtain ⟨q0, qr, rfl⟩ : ∃ q0 qr, qs = q0 :: qr := by cases qs with | nil => exact absurd rfl hne | cons a r => exact ⟨a, r, rfl⟩
  show wpAny _ _ (Builtin.SmallTypes.ownedTupleIsFree (.ref z) >>= _) _ _ _
  refine wpAny_bind (wpAny_tupleHeld_zip hz hT fun g0 hz0 hs0 => ?_)
  simp only [Bool.false_eq_true, if_false]
  replace hs0 : Heap.SameBut z hp g0 := hs0
  have hsO : ∀ q ∈ q0 :: qr, ∀ h h' : Heap, ∀ x, Heap.SameBut x h h' → q.it ≠ x → q.l ≠ x → ∀ k, q.At k h → q.At k h' := fun q hq h h' x sb h1 h2 k a => a.keep (fun o e => sb.extBut _ _ h1 e) (fun o e => sb.extBut _ _ h2 e)
  refine wpAny_bind ?_
  rw [← Array.forIn_toList]
  refine wpAny_forIn_list _ (fun rest b s' => b.1 = none ∧ ∃ (dn todo : List Sr) (vs : List Value) (h : Heap) (tk : Nat), b.2 = vs.toArray ∧ q0 :: qr = dn ++ todo ∧ rest = (todo.map fun q => Value.ref q.it) ∧ s' = ⟨h, g, d, tk, os⟩ ∧
    vs.length = dn.length ∧ (∀ q ∈ dn, q.At (i + 1) h) ∧ (∀ q ∈ todo, q.At i h) ∧ (∀ (j : Nat) (q : Sr) (v : Value), dn[j]? = some q → vs[j]? = some v → q.items[i]? = some v) ∧
    IsZipHeld h z TI TO T true ∧ h.objs.size = hp.objs.size ∧ ∀ c o, c ≠ z → (∀ q ∈ q0 :: qr, c ≠ q.it) → hp.get? c = some o → h.get? c = some o) _ ?_ ?_ _ _ ?_
  · rintro x rest ⟨b1, b2⟩ s' ⟨hb1, dn, todo, vs, h, tk, hb2, e1, e2, rfl, l1, a1, a2, rw1, hzz, hsz', kp⟩
    simp only at hb1 hb2
    subst hb1 hb2
    obtain ⟨q, todo, rfl⟩ : ∃ q t, todo = q :: t := by
      cases todo with
      | nil => cases e2
      | cons q t => exact ⟨q, t, rfl⟩
    rw [List.map_cons] at e2
    obtain ⟨rfl, rfl⟩ := List.cons.inj e2
    have hq : q ∈ q0 :: qr := by rw [e1]; simp
    have dnm : ∀ r ∈ dn, r ∈ q0 :: qr := fun r hr => by rw [e1]; exact List.mem_append_left _ hr
    have tdm : ∀ r ∈ todo, r ∈ q0 :: qr := fun r hr => by rw [e1]; exact List.mem_append_right _ (List.mem_cons_of_mem _ hr)
    have pw := D.its
    rw [e1] at pw
    obtain ⟨_, pw2, pw3⟩ := List.pairwise_append.mp pw
    have dnq : ∀ r ∈ dn, r.it ≠ q.it := fun r hr => pw3 r hr q List.mem_cons_self
    have tdq : ∀ r ∈ todo, r.it ≠ q.it := fun r hr => ((List.pairwise_cons.mp pw2).1 r hr).symm
    have Dq := q.draws (prog := prog) (w := w) hh (D.lit q hq q hq)
    refine wpAny_bind (wpAny_holding ?_)
    show wpAny _ _ (Builtin.SmallTypes.nextOf (.ref q.it) >>= _) _ _ ⟨h, g, d, tk, os⟩
    refine wpAny_bind (Dq.item i _ _ _ (hlt q hq) (a2 q List.mem_cons_self) fun x1 h1 tk1 hx st1 sb1 => wpAny_pure ?_)
    replace sb1 : Heap.SameBut q.it h h1 := sb1
    refine wpAny_pure ⟨rfl, dn ++ [q], todo, vs ++ [x1], h1, tk1, by simp, by rw [e1]; simp, rfl, rfl, by simp [l1], fun r hr => ?_, fun r hr => ?_, fun j r v hj hv => ?_, ?_, ?_, fun c o c1 c3 e => ?_⟩
    · rcases List.mem_append.mp hr with hr | hr
      · exact hsO r (dnm r hr) _ _ _ sb1 (dnq r hr) (D.lit r (dnm r hr) q hq) _ (a1 r hr)
      · rw [List.mem_singleton.mp hr]
        exact st1
    · exact hsO r (tdm r hr) _ _ _ sb1 (tdq r hr) (D.lit r (tdm r hr) q hq) _ (a2 r (List.mem_cons_of_mem _ hr))
    · by_cases hjl : j < dn.length
      · rw [List.getElem?_append_left hjl] at hj
        rw [List.getElem?_append_left (by omega)] at hv
        exact rw1 j r v hj hv
      · have hj1 := (List.getElem?_eq_some_iff.mp hj).1
        have : j = dn.length := by simp at hj1; omega
        subst this
        rw [List.getElem?_append_right (Nat.le_refl _)] at hj
        rw [← l1, List.getElem?_append_right (Nat.le_refl _)] at hv
        simp at hj hv
        subst hj hv
        exact hx
    · exact sb1.extBut _ _ (D.itz q hq).symm hzz
    · rw [sb1.1]; exact hsz'
    · exact sb1.extBut _ _ (c3 q hq) (kp c o c1 c3 e)
  · rintro ⟨b1, b2⟩ s' ⟨hb1, dn, todo, vs, h, tk, hb2, e1, e2, rfl, l1, a1, a2, rw1, hzz, hsz', kp⟩
    simp only at hb1 hb2
    subst hb1 hb2
    have ht : todo = [] := by
      cases todo with
      | nil => rfl
      | cons q t => cases e2
    subst ht
    rw [List.append_nil] at e1
    dsimp only
    refine wpAny_bind (wpAny_newTuple ?_ (by show vs.length ≤ sizeLine; rw [l1, ← e1]; exact hsz))
    have up : ∀ c o, h.get? c = some o → (h.push { cls := .type "tuple", data := .seq vs.toArray.toList.toArray }).get? c = some o := fun c o e => Heap.get?_push_of_some _ e
    have hT8 : IsT (h.push { cls := .type "tuple", data := .seq vs.toArray.toList.toArray }) h.objs.size vs := by
      have : (h.push { cls := .type "tuple", data := .seq vs.toArray.toList.toArray }).get? h.objs.size = some _ := Heap.get?_push_size _ rfl
      simpa using this
    have hz9 : (h.push { cls := .type "tuple", data := .seq vs.toArray.toList.toArray }).objs.size = h.objs.size + 1 := Heap.size_push ..
    refine wpAny_pure ⟨_, rfl, ?_⟩
    show Q (.ref h.objs.size) ⟨h.push { cls := .type "tuple", data := .seq vs.toArray.toList.toArray }, g, d, tk, os⟩
    rw [hsz'] at hT8 hz9 ⊢
    rw [← e1] at a1 rw1 l1
    exact hQ vs _ tk ⟨l1, rw1⟩ (up _ _ hzz) (fun q hq => (a1 q hq).keep (fun o e => up _ o e) fun o e => up _ o e) hT8 hz9 fun c o c1 c3 e => up c o (kp c o c1 c3 e)
  · refine ⟨rfl, [], q0 :: qr, [], g0, tk0, rfl, rfl, ?_, rfl, rfl, fun q hq => (by cases hq), fun q hq => hsO q hq _ _ _ hs0 (D.itz q hq) (D.lz q hq) _ (hst q hq), fun j q v hj => (by simp at hj), hz0, hs0.1, fun c o c1 _ e => hs0.extBut _ _ c1 e⟩
    simp
theorem zn_held_end {Q : Fin → Shared → Prop} (hh : A.handled = none) (D : ZSep z TI TO qs) (hne : qs ≠ []) (hz : IsZipHeld s.heap z TI TO T f) (hT : s.heap.get? T = some oT) (hTI : IsT s.heap TI (qs.map fun q => .ref q.it))
    (hst : ∀ q ∈ qs, q.At i s.heap) (hle : ∀ q ∈ qs, i ≤ q.items.length) (hend : ∃ q ∈ qs, q.items.length = i)
    (hE : ∀ h' tk e, (∀ c o, c ≠ z → (∀ q ∈ qs, c ≠ q.it) → s.heap.get? c = some o → h'.get? c = some o) → (∃ o, h'.get? e = some o ∧ o.cls = .type "StopIteration") → E (.ref e) { s with heap := h', toks := tk }) :
    wpAny (model prog w) A (Builtin.«zip.__next__» ⟨[.ref z], []⟩) Q E s := by
  obtain ⟨hp, g, d, tk0, os⟩ := s
  show wpAny _ _ (field (.ref z) 2 >>= _) _ _ _
  refine wpAny_bind (wpAny_field hz rfl (x := .bool false) rfl ?_)
  show wpAny _ _ (field (.ref z) 3 >>= _) _ _ _
  refine wpAny_bind (wpAny_field hz rfl (x := .ref TI) rfl ?_)
  refine wpAny_bind (wpAny_seqItems hTI rfl ?_)
  obtain ⟨q0, qr, rfl⟩ : ∃ q0 qr, qs = q0 :: qr := by cases qs with | nil => exact absurd rfl hne | cons a r => exact ⟨a, r, rfl⟩
  show wpAny _ _ (Builtin.SmallTypes.ownedTupleIsFree (.ref z) >>= _) _ _ _
  refine wpAny_bind (wpAny_tupleHeld_zip hz hT fun g0 hz0 hs0 => ?_)
  simp only [Bool.false_eq_true, if_false]
  replace hs0 : Heap.SameBut z hp g0 := hs0
  have hsO : ∀ q ∈ q0 :: qr, ∀ h h' : Heap, ∀ x, Heap.SameBut x h h' → q.it ≠ x → q.l ≠ x → ∀ k, q.At k h → q.At k h' := fun q hq h h' x sb h1 h2 k a => a.keep (fun o e => sb.extBut _ _ h1 e) (fun o e => sb.extBut _ _ h2 e)
  refine wpAny_bind ?_
  rw [← Array.forIn_toList]
  refine wpAny_forIn_list _ (fun rest b s' => ∃ (todo : List Sr) (h : Heap) (tk : Nat), (∀ q ∈ todo, q ∈ q0 :: qr) ∧ todo.Pairwise (fun q r => q.it ≠ r.it) ∧ (∃ q ∈ todo, q.items.length = i) ∧ rest = (todo.map fun q => Value.ref q.it) ∧ s' = ⟨h, g, d, tk, os⟩ ∧
    (∀ q ∈ todo, q.At i h) ∧ ∀ c o, c ≠ z → (∀ q ∈ q0 :: qr, c ≠ q.it) → hp.get? c = some o → h.get? c = some o) _ ?_ ?_ _ _ ?_
  · rintro x rest b s' ⟨todo, h, tk, e1, pw, en, e2, rfl, a2, kp⟩
    obtain ⟨q, todo, rfl⟩ : ∃ q t, todo = q :: t := by
      cases todo with
      | nil => cases e2
      | cons q t => exact ⟨q, t, rfl⟩
    rw [List.map_cons] at e2
    obtain ⟨rfl, rfl⟩ := List.cons.inj e2
    have hq : q ∈ q0 :: qr := e1 q List.mem_cons_self
    have tdq : ∀ r ∈ todo, r.it ≠ q.it := fun r hr => ((List.pairwise_cons.mp pw).1 r hr).symm
    have Dq := q.draws (prog := prog) (w := w) hh (D.lit q hq q hq)
    refine wpAny_bind (wpAny_holding ?_)
    show wpAny _ _ (Builtin.SmallTypes.nextOf (.ref q.it) >>= _) _ _ ⟨h, g, d, tk, os⟩
    by_cases hlt : i < q.items.length
    · refine wpAny_bind (Dq.item i _ _ _ hlt (a2 q List.mem_cons_self) fun x1 h1 tk1 hx st1 sb1 => wpAny_pure ?_)
      replace sb1 : Heap.SameBut q.it h h1 := sb1
      refine wpAny_pure ⟨todo, h1, tk1, fun r hr => e1 r (List.mem_cons_of_mem _ hr), (List.pairwise_cons.mp pw).2, ?_, rfl, rfl, fun r hr => ?_, fun c o c1 c3 e => ?_⟩
      · obtain ⟨r, hr, er⟩ := en
        rcases List.mem_cons.mp hr with rfl | hr
        · omega
        · exact ⟨r, hr, er⟩
      · have hr' := e1 r (List.mem_cons_of_mem _ hr)
        exact hsO r hr' _ _ _ sb1 (tdq r hr) (D.lit r hr' q hq) _ (a2 r (List.mem_cons_of_mem _ hr))
      · exact sb1.extBut _ _ (c3 q hq) (kp c o c1 c3 e)
    · have hi : i = q.items.length := by have := hle q hq; omega
      refine wpAny_bind (Dq.done _ _ _ (by rw [← hi]; exact a2 q List.mem_cons_self) fun h1 e hs1 he => ?_)
      exact hE h1 tk e (fun c o c1 c3 x => hs1 _ _ (c3 q hq) (kp c o c1 c3 x)) he
  · rintro b s' ⟨todo, h, tk, e1, pw, en, e2, _⟩
    obtain ⟨q, hq, _⟩ := en
    cases todo with
    | nil => cases hq
    | cons q t => cases e2
  · refine ⟨q0 :: qr, g0, tk0, fun q hq => hq, D.its, hend, ?_, rfl, fun q hq => hsO q hq _ _ _ hs0 (D.itz q hq) (D.lz q hq) _ (hst q hq), fun c o c1 _ e => hs0.extBut _ _ c1 e⟩
    simp
theorem zn_free_end {old : List Value} {Q : Fin → Shared → Prop} (hh : A.handled = none) (D : ZSep z TI TO qs) (hne : qs ≠ []) (hz : IsZip s.heap z TI TO .none) (hTI : IsT s.heap TI (qs.map fun q => .ref q.it)) (hTO : IsT s.heap TO old) (hol : old.length ≤ sizeLine)
    (hst : ∀ q ∈ qs, q.At i s.heap) (hle : ∀ q ∈ qs, i ≤ q.items.length) (hend : ∃ q ∈ qs, q.items.length = i)
    (hE : ∀ h' tk e, (∀ c o, c ≠ z → c ≠ TO → (∀ q ∈ qs, c ≠ q.it) → s.heap.get? c = some o → h'.get? c = some o) → (∃ o, h'.get? e = some o ∧ o.cls = .type "StopIteration") → E (.ref e) { s with heap := h', toks := tk }) :
    wpAny (model prog w) A (Builtin.«zip.__next__» ⟨[.ref z], []⟩) Q E s := by
  obtain ⟨hp, g, d, tk0, os⟩ := s
  show wpAny _ _ (field (.ref z) 2 >>= _) _ _ _
  refine wpAny_bind (wpAny_field hz rfl (x := .bool false) rfl ?_)
  show wpAny _ _ (field (.ref z) 3 >>= _) _ _ _
  refine wpAny_bind (wpAny_field hz rfl (x := .ref TI) rfl ?_)
  refine wpAny_bind (wpAny_seqItems hTI rfl ?_)
  obtain ⟨q0, qr, rfl⟩ : ∃ q0 qr, qs = q0 :: qr := by cases qs with | nil => exact absurd rfl hne | cons a r => exact ⟨a, r, rfl⟩
  show wpAny _ _ (Builtin.SmallTypes.ownedTupleIsFree (.ref z) >>= _) _ _ _
  refine wpAny_bind ?_
  unfold Builtin.SmallTypes.ownedTupleIsFree
  refine wpAny_bind (wpAny_field hz rfl (x := .none) rfl (wpAny_pure ?_))
  simp only [if_true]
  refine wpAny_bind (wpAny_rule ?_)
  refine wpAny_bind (wpAny_field hz rfl (x := .ref TO) rfl ?_)
  refine wpAny_bind (wpAny_setField_rec hz (by simp) fun g0 hz0 hs0 => ?_)
  replace hz0 : IsZip g0 z TI TO .ellipsis := hz0
  replace hs0 : Heap.SameBut z hp g0 := hs0
  have hsO : ∀ q ∈ q0 :: qr, ∀ h h' : Heap, ∀ x, Heap.SameBut x h h' → q.it ≠ x → q.l ≠ x → ∀ k, q.At k h → q.At k h' := fun q hq h h' x sb h1 h2 k a => a.keep (fun o e => sb.extBut _ _ h1 e) (fun o e => sb.extBut _ _ h2 e)
  refine wpAny_bind (wpAny_forIn_list _ (fun rest b s' => ∃ (todo : List Sr) (h : Heap) (tk k : Nat) (cur : List Value), (∀ q ∈ todo, q ∈ q0 :: qr) ∧ todo.Pairwise (fun q r => q.it ≠ r.it) ∧ (∃ q ∈ todo, q.items.length = i) ∧ rest = (todo.map fun q => Value.ref q.it).zipIdx k ∧ s' = ⟨h, g, d, tk, os⟩ ∧
    IsZip h z TI TO .ellipsis ∧ IsT h TO cur ∧ cur.length ≤ sizeLine ∧ (∀ q ∈ todo, q.At i h) ∧ ∀ c o, c ≠ z → c ≠ TO → (∀ q ∈ q0 :: qr, c ≠ q.it) → hp.get? c = some o → h.get? c = some o) _ ?_ ?_ _ _ ?_)
  · rintro x rest b s' ⟨todo, h, tk, k, cur, e1, pw, en, e2, rfl, hzz, hT, hcl, a2, kp⟩
    obtain ⟨q, todo, rfl⟩ : ∃ q t, todo = q :: t := by
      cases todo with
      | nil => cases e2
      | cons q t => exact ⟨q, t, rfl⟩
    rw [List.map_cons, List.zipIdx_cons] at e2
    obtain ⟨rfl, rfl⟩ := List.cons.inj e2
    have hq : q ∈ q0 :: qr := e1 q List.mem_cons_self
    have tdq : ∀ r ∈ todo, r.it ≠ q.it := fun r hr => ((List.pairwise_cons.mp pw).1 r hr).symm
    have Dq := q.draws (prog := prog) (w := w) hh (D.lit q hq q hq)
    refine wpAny_bind (wpAny_onRaise ?_)
    show wpAny _ _ (Builtin.SmallTypes.nextOf (.ref q.it) >>= _) _ _ ⟨h, g, d, tk, os⟩
    by_cases hlt : i < q.items.length
    · refine wpAny_bind (Dq.item i _ _ _ hlt (a2 q List.mem_cons_self) fun x1 h1 tk1 hx st1 sb1 => wpAny_pure ?_)
      replace sb1 : Heap.SameBut q.it h h1 := sb1
      have hT1 : IsT h1 TO cur := sb1.extBut _ _ (D.itO q hq).symm hT
      refine wpAny_bind (wpAny_seqItems (s := ⟨h1, g, d, tk1, os⟩) hT1 rfl ?_)
      dsimp only
      have szA : cur.toArray.size ≤ sizeLine := by rw [List.size_toArray]; exact hcl
      refine wpAny_bind (wpAny_updateSeq (s := ⟨h1, g, d, tk1, os⟩) hT1 rfl ?_ szA (by rw [Array.size_setIfInBounds]; omega))
      refine wpAny_bind (wpAny_letGo (wpAny_pure ?_))
      have sb2 : Heap.SameBut TO h1 (h1.update TO (Obj.mapSeq fun a => a.setIfInBounds k x1)) := Heap.SameBut.update ..
      have hT2 : IsT (h1.update TO (Obj.mapSeq fun a => a.setIfInBounds k x1)) TO (cur.set k x1) := by
        show Heap.get? _ TO = _
        rw [Heap.get?_update_self _ hT1 rfl]
        simp [Obj.mapSeq]
      generalize h1.update TO (Obj.mapSeq fun a => a.setIfInBounds k x1) = h2 at *
      refine ⟨todo, h2, tk1, k + 1, cur.set k x1, fun r hr => e1 r (List.mem_cons_of_mem _ hr), (List.pairwise_cons.mp pw).2, ?_, rfl, rfl, ?_, hT2, by rw [List.length_set]; exact hcl, fun r hr => ?_, fun c o c1 c2 c3 e => ?_⟩
      · obtain ⟨r, hr, er⟩ := en
        rcases List.mem_cons.mp hr with rfl | hr
        · omega
        · exact ⟨r, hr, er⟩
      · exact sb2.extBut _ _ D.TOz.symm (sb1.extBut _ _ (D.itz q hq).symm hzz)
      · have hr' := e1 r (List.mem_cons_of_mem _ hr)
        exact hsO r hr' _ _ _ sb2 (D.itO r hr') (D.lO r hr') _ (hsO r hr' _ _ _ sb1 (tdq r hr) (D.lit r hr' q hq) _ (a2 r (List.mem_cons_of_mem _ hr)))
      · exact sb2.extBut _ _ c2 (sb1.extBut _ _ (c3 q hq) (kp c o c1 c2 c3 e))
    · have hi : i = q.items.length := by have := hle q hq; omega
      refine wpAny_bind (Dq.done _ _ _ (by rw [← hi]; exact a2 q List.mem_cons_self) fun h1 e hs1 he => ?_)
      obtain ⟨oe, hoe, hce⟩ := he
      have hz1 : IsZip h1 z TI TO .ellipsis := hs1 _ _ (D.itz q hq).symm hzz
      have hez : e ≠ z := fun x => by subst x; rw [hz1] at hoe; cases hoe; simp at hce
      refine wpAny_setField_rec hz1 (by simp) fun h3 _ hs3 => ?_
      replace hs3 : Heap.SameBut z h1 h3 := hs3
      exact hE h3 tk e (fun c o c1 c2 c3 x => hs3.extBut _ _ c1 (hs1 _ _ (c3 q hq) (kp c o c1 c2 c3 x))) ⟨oe, hs3.extBut _ _ hez hoe, hce⟩
  · rintro b s' ⟨todo, h, tk, k, cur, e1, pw, en, e2, _⟩
    obtain ⟨q, hq, _⟩ := en
    cases todo with
    | nil => cases hq
    | cons q t => rw [List.map_cons, List.zipIdx_cons] at e2; cases e2
  · exact ⟨q0 :: qr, g0, tk0, 0, old, fun q hq => hq, D.its, hend, rfl, rfl, hz0, hs0.extBut _ _ D.TOz hTO, hol, fun q hq => hsO q hq _ _ _ hs0 (D.itz q hq) (D.lz q hq) _ (hst q hq), fun c o c1 _ _ e => hs0.extBut _ _ c1 e⟩
end
end Dx

/-! zip of many begins -/
namespace Dx
open PySem PySem.W
/-- a thing to be zipped -/
structure So where
  l : Nat
  tu : Bool
  items : List Value
def So.At (x : So) (h : Heap) : Prop := if x.tu = true then h.IsTuple x.l x.items.toArray else h.IsList x.l x.items.toArray
theorem So.At.keep {x : So} {h h' : Heap} (a : x.At h) (k : ∀ o, h.get? x.l = some o → h'.get? x.l = some o) : x.At h' := by
  unfold So.At at a ⊢
  split
  · rename_i e; rw [if_pos e] at a; exact a.at k
  · rename_i e; rw [if_neg e] at a; exact a.at k
theorem So.At.lt {x : So} {h : Heap} (a : x.At h) : x.l < h.objs.size := by
  unfold So.At at a
  split at a
  · obtain ⟨o, e, _⟩ := a; exact Heap.lt_size e
  · obtain ⟨o, e, _⟩ := a; exact Heap.lt_size e
def mkQ : Nat → List So → List Sr
  | _, [] => []
  | n, x :: r => ⟨n, x.l, x.tu, x.items⟩ :: mkQ (n + 1) r
theorem mkQ_len : ∀ (xs : List So) (n : Nat), (mkQ n xs).length = xs.length
  | [], _ => rfl
  | x :: r, n => by simp [mkQ, mkQ_len r]
theorem mkQ_app : ∀ (a b : List So) (n : Nat), mkQ n (a ++ b) = mkQ n a ++ mkQ (n + a.length) b
  | [], b, n => by simp [mkQ]
  | x :: a, b, n => by
    have := mkQ_app a b (n + 1)
    simp only [List.cons_append, mkQ, this, List.length_cons]
    rw [show n + 1 + a.length = n + (a.length + 1) by omega]
theorem mkQ_mem : ∀ {xs : List So} {n : Nat} {q : Sr}, q ∈ mkQ n xs → n ≤ q.it ∧ q.it < n + xs.length ∧ ∃ x ∈ xs, q.l = x.l ∧ q.tu = x.tu ∧ q.items = x.items
  | [], _, q, h => by cases h
  | x :: r, n, q, h => by
    rcases List.mem_cons.mp h with rfl | h
    · exact ⟨Nat.le_refl _, by simp, x, List.mem_cons_self, rfl, rfl, rfl⟩
    · obtain ⟨a, b, y, hy, c⟩ := mkQ_mem h
      exact ⟨by omega, by simp; omega, y, List.mem_cons_of_mem _ hy, c⟩
theorem mkQ_its : ∀ (xs : List So) (n : Nat), (mkQ n xs).Pairwise fun q r => q.it ≠ r.it
  | [], _ => .nil
  | x :: r, n => by
    refine List.pairwise_cons.mpr ⟨fun q hq => ?_, mkQ_its r (n + 1)⟩
    have := (mkQ_mem hq).1
    show n ≠ q.it
    omega
theorem mkQ_get : ∀ (xs : List So) (n : Nat) (j : Nat), (mkQ n xs)[j]? = (xs[j]?).map fun x => ⟨n + j, x.l, x.tu, x.items⟩
  | [], _, _ => by simp [mkQ]
  | x :: r, n, 0 => by simp [mkQ]
  | x :: r, n, j + 1 => by
    rw [mkQ, List.getElem?_cons_succ, List.getElem?_cons_succ, mkQ_get r (n + 1) j, show n + 1 + j = n + (j + 1) by omega]
theorem newClass_zip (as : List Value) : Builtin.SmallTypes.newClass "zip" ⟨.type "zip" :: as, []⟩ = pure (.type "zip", as) := by
  unfold Builtin.SmallTypes.newClass
  simp only [isType, sub_zip, pure_bind, Bool.not_true, Bool.false_eq_true, if_false]
/-- a zip as it is made -/
structure ZNew (h h' : Heap) (xs : List So) : Prop where
  at0 : ∀ q ∈ mkQ h.objs.size xs, q.At 0 h'
  ti : IsT h' (h.objs.size + xs.length) ((mkQ h.objs.size xs).map fun q => .ref q.it)
  to : IsT h' (h.objs.size + xs.length + 1) (List.replicate xs.length .none)
  z : IsZip h' (h.objs.size + xs.length + 2) (h.objs.size + xs.length) (h.objs.size + xs.length + 1) .none
  size : h'.objs.size = h.objs.size + xs.length + 3
  keep : ∀ c o, h.get? c = some o → h'.get? c = some o
theorem meets_zipN (xs : List So) (hl : xs.length ≤ sizeLine) :
    Meets (Builtin.«zip.__new__» ⟨.type "zip" :: xs.map fun x => .ref x.l, []⟩) (fun _ R s => (∀ x ∈ xs, x.At s.heap) ∧ ∀ h', ZNew s.heap h' xs → R (.ok (.ret (.ref (s.heap.objs.size + xs.length + 2)))) { s with heap := h' }) :=
  .of_wp fun prog w A R s h => by
    obtain ⟨hp, g, d, tk, os⟩ := s
    obtain ⟨hx, hR⟩ := h
    unfold Builtin.«zip.__new__»
    refine wpAny_bind (wpAny_of_eq (newClass_zip _) ?_)
    try dsimp only
    rw [if_neg (by decide)]
    refine wpAny_bind ?_
    unfold Builtin.SmallTypes.iterAll
    refine wpAny_bind (wpAny_forIn_list _ (fun rest (b : Array Value) s' => ∃ (dn todo : List So) (h : Heap), xs = dn ++ todo ∧ rest = (todo.map fun x => Value.ref x.l) ∧ b = ((mkQ hp.objs.size dn).map fun q => Value.ref q.it).toArray ∧ s' = ⟨h, g, d, tk, os⟩ ∧
      (∀ q ∈ mkQ hp.objs.size dn, q.At 0 h) ∧ h.objs.size = hp.objs.size + dn.length ∧ ∀ c o, hp.get? c = some o → h.get? c = some o) _ ?_ ?_ _ _ ?_)
    · rintro x rest b s' ⟨dn, todo, h, e1, e2, rfl, rfl, a1, sz, kp⟩
      obtain ⟨x, todo, rfl⟩ : ∃ q t, todo = q :: t := by
        cases todo with
        | nil => cases e2
        | cons q t => exact ⟨q, t, rfl⟩
      rw [List.map_cons] at e2
      obtain ⟨rfl, rfl⟩ := List.cons.inj e2
      have hxm : x ∈ xs := by rw [e1]; simp
      have hxa : x.At h := (hx x hxm).keep fun o e => kp _ o e
      have xlt : x.l < hp.objs.size := (hx x hxm).lt
      refine wpAny_bind (wpAny_holding ?_)
      have fin : ∀ (o : Obj), o.isFreed = false → (⟨hp.objs.size + dn.length, x.l, x.tu, x.items⟩ : Sr).At 0 (h.push o) → ∃ (dn' todo' : List So) (h' : Heap), xs = dn' ++ todo' ∧ (todo.map fun x => Value.ref x.l) = (todo'.map fun x => Value.ref x.l) ∧
          (((mkQ hp.objs.size dn).map fun q => Value.ref q.it).toArray.push (.ref h.objs.size)) = ((mkQ hp.objs.size dn').map fun q => Value.ref q.it).toArray ∧ (⟨h.push o, g, d, tk, os⟩ : Shared) = ⟨h', g, d, tk, os⟩ ∧
          (∀ q ∈ mkQ hp.objs.size dn', q.At 0 h') ∧ h'.objs.size = hp.objs.size + dn'.length ∧ ∀ c o, hp.get? c = some o → h'.get? c = some o := fun o _ hq => by
        refine ⟨dn ++ [x], todo, h.push o, by rw [e1]; simp, rfl, ?_, rfl, fun q hm => ?_, by rw [Heap.size_push, sz]; simp; omega, fun c o' e => Heap.get?_push_of_some _ (kp c o' e)⟩
        · rw [mkQ_app, List.map_append, sz]
          simp [mkQ]
        · rw [mkQ_app] at hm
          rcases List.mem_append.mp hm with hm | hm
          · exact (a1 q hm).keep (fun o' e => Heap.get?_push_of_some _ e) fun o' e => Heap.get?_push_of_some _ e
          · simp [mkQ] at hm
            rw [hm]; exact hq
      have nw : ∀ o : Obj, o.isFreed = false → (h.push o).get? (hp.objs.size + dn.length) = some o := fun o ho => by
        rw [← sz]
        exact Heap.get?_push_size _ ho
      by_cases ht : x.tu = true
      · have hxt : h.IsTuple x.l x.items.toArray := by have := hxa; unfold So.At at this; rw [if_pos ht] at this; exact this
        refine wpAny_pyIter_tuple (s := ⟨h, g, d, tk, os⟩) hxt (wpAny_pure (fin _ rfl ?_))
        unfold Sr.At
        rw [if_pos ht]
        exact ⟨⟨_, nw _ rfl, rfl, rfl⟩, hxt.push _⟩
      · have hxt : h.IsList x.l x.items.toArray := by have := hxa; unfold So.At at this; rw [if_neg ht] at this; exact this
        refine wpAny_pyIter_list (s := ⟨h, g, d, tk, os⟩) hxt (wpAny_pure (fin _ rfl ?_))
        unfold Sr.At
        rw [if_neg ht]
        exact ⟨⟨_, nw _ rfl, rfl, rfl⟩, hxt.push _⟩
    · rintro b s' ⟨dn, todo, h, e1, e2, rfl, rfl, a1, sz, kp⟩
      have ht : todo = [] := by
        cases todo with
        | nil => rfl
        | cons q t => cases e2
      subst ht
      rw [List.append_nil] at e1
      subst e1
      refine wpAny_pure ?_
      have ln : ((mkQ hp.objs.size xs).map fun q => Value.ref q.it).length = xs.length := by rw [List.length_map, mkQ_len]
      refine wpAny_bind (wpAny_newTuple ?_ (by show List.length _ ≤ sizeLine; rw [ln]; exact hl))
      refine wpAny_bind (wpAny_newTuple ?_ (by show List.length _ ≤ sizeLine; rw [List.length_map]; show List.length _ ≤ sizeLine; rw [ln]; exact hl))
      simp only [List.toList_toArray]
      generalize hH1 : h.push { cls := .type "tuple", data := .seq ((mkQ hp.objs.size xs).map fun q => Value.ref q.it).toArray } = H1
      have rep : (((mkQ hp.objs.size xs).map fun q => Value.ref q.it).map fun _ => Value.none) = List.replicate xs.length .none := by
        rw [List.map_const', ln]
      rw [rep]
      generalize hH2 : H1.push { cls := .type "tuple", data := .seq (List.replicate xs.length Value.none).toArray } = H2
      show wpAny _ _ (newObj (.type "zip") (.fields #[.none, .bool false, .bool false, .ref h.objs.size, .ref H1.objs.size]) >>= _) _ _ ⟨H2, g, d, tk, os⟩
      refine wpAny_bind (wpAny_newObj_type ?_)
      have z1 : H1.objs.size = hp.objs.size + xs.length + 1 := by rw [← hH1, Heap.size_push, sz]
      have z2 : H2.objs.size = hp.objs.size + xs.length + 2 := by rw [← hH2, Heap.size_push, z1]
      have g1 : H1.get? (hp.objs.size + xs.length) = some { cls := .type "tuple", data := .seq ((mkQ hp.objs.size xs).map fun q => Value.ref q.it).toArray } := by rw [← hH1, ← sz]; exact Heap.get?_push_size _ rfl
      have g2 : H2.get? (hp.objs.size + xs.length + 1) = some { cls := .type "tuple", data := .seq (List.replicate xs.length Value.none).toArray } := by rw [← hH2, ← z1]; exact Heap.get?_push_size _ rfl
      have up : ∀ c o, h.get? c = some o → (H2.push { cls := .type "zip", data := .fields #[.none, .bool false, .bool false, .ref h.objs.size, .ref H1.objs.size] }).get? c = some o := fun c o e => Heap.get?_push_of_some _ (by rw [← hH2]; exact Heap.get?_push_of_some _ (by rw [← hH1]; exact Heap.get?_push_of_some _ e))
      have g3 : (H2.push { cls := .type "zip", data := .fields #[.none, .bool false, .bool false, .ref h.objs.size, .ref H1.objs.size] }).get? (hp.objs.size + xs.length + 2) = some { cls := .type "zip", data := .fields #[.none, .bool false, .bool false, .ref h.objs.size, .ref H1.objs.size] } := by rw [← z2]; exact Heap.get?_push_size _ rfl
      have := hR (H2.push { cls := .type "zip", data := .fields #[.none, .bool false, .bool false, .ref h.objs.size, .ref H1.objs.size] }) ⟨fun q hq => (a1 q hq).keep (fun o e => up _ o e) fun o e => up _ o e, Heap.get?_push_of_some _ (by rw [← hH2]; exact Heap.get?_push_of_some _ g1), Heap.get?_push_of_some _ g2, by rw [sz, z1] at g3; rw [sz, z1]; exact g3, by rw [Heap.size_push, z2], fun c o e => up c o (kp c o e)⟩
      refine wpAny_pure ⟨_, rfl, ?_⟩
      show R (.ok (.ret (.ref H2.objs.size))) _
      rw [z2]
      exact this
    · exact ⟨[], xs, hp, rfl, rfl, rfl, rfl, fun q hq => (by cases hq), by simp, fun c o e => e⟩
end Dx

/-! tuple(zip(*rows)) -/
namespace Dx
open PySem PySem.W
theorem znew_sep {h h' : Heap} {xs : List So} (N : ZNew h h' xs) (hx : ∀ x ∈ xs, x.l < h.objs.size) : ZSep (h.objs.size + xs.length + 2) (h.objs.size + xs.length) (h.objs.size + xs.length + 1) (mkQ h.objs.size xs) where
  TIz := by show (_ : Nat) ≠ _; omega
  TOz := by show (_ : Nat) ≠ _; omega
  TITO := by show (_ : Nat) ≠ _; omega
  itz := fun q hq => by have := mkQ_mem hq; omega
  itI := fun q hq => by have := mkQ_mem hq; omega
  itO := fun q hq => by have := mkQ_mem hq; omega
  lz := fun q hq => by
    obtain ⟨_, _, x, hxm, e, _⟩ := mkQ_mem hq
    have : x.l < h.objs.size := hx x hxm
    show (q.l : Nat) ≠ _
    omega
  lO := fun q hq => by
    obtain ⟨_, _, x, hxm, e, _⟩ := mkQ_mem hq
    have : x.l < h.objs.size := hx x hxm
    show (q.l : Nat) ≠ _
    omega
  lit := fun q hq r hr => by
    obtain ⟨_, _, x, hxm, e, _⟩ := mkQ_mem hq
    have : x.l < h.objs.size := hx x hxm
    have := (mkQ_mem hr).1
    show (q.l : Nat) ≠ _
    omega
  its := mkQ_its _ _
theorem nolen_zip : typeLookup (.type "zip") "__len__" = pure none := by rw [typeLookup_type, builtinLookup_eq_fast]; kernel_rfl
theorem nohint_zip : typeLookup (.type "zip") "__length_hint__" = pure none := by rw [typeLookup_type, builtinLookup_eq_fast]; kernel_rfl
/-- a zip between its turns, gathered at S -/
def ZSt (h : Heap) (z TI TO S : Nat) (qs : List Sr) (i : Nat) : Prop :=
  IsT h TI (qs.map fun q => .ref q.it) ∧ (∀ q ∈ qs, q.At i h) ∧ ((i = 0 ∧ IsZip h z TI TO .none ∧ ∃ old : List Value, IsT h TO old ∧ old.length = qs.length) ∨ ∃ (T : Nat) (f : Bool) (oT : Obj), IsZipHeld h z TI TO T f ∧ h.get? T = some oT ∧ S < T)
/-- the rows gathered so far -/
structure ZG (qs : List Sr) (S : Nat) (h : Heap) (as : List Nat) : Prop where
  rise : as.Pairwise (· < ·)
  above : ∀ a ∈ as, S < a
  rows : ∀ (j a : Nat), as[j]? = some a → ∃ vs, Row qs j vs ∧ IsT h a vs
theorem ZG.there {qs : List Sr} {S : Nat} {h : Heap} {as : List Nat} (g : ZG qs S h as) {a : Nat} (ha : a ∈ as) : a < h.objs.size := by
  obtain ⟨j, hj⟩ := List.mem_iff_getElem?.mp ha
  obtain ⟨_, _, e⟩ := g.rows j a hj
  exact Heap.lt_size e
/-- where the cells of a zip lie: all below the list that gathers -/
structure ZLow (z TI TO S : Nat) (qs : List Sr) : Prop where
  zS : z < S
  TIS : TI < S
  TOS : TO < S
  its : ∀ q ∈ qs, q.it < S
  ls : ∀ q ∈ qs, q.l < S
section
variable {prog : Program} {w : World} {A : Around} {E : Value → Shared → Prop} {s : Shared} {z TI TO S i : Nat} {qs : List Sr}
theorem zst_keep {h h' : Heap} (L : ZLow z TI TO S qs) (st : ZSt h z TI TO S qs i) (k : ∀ c o, c ≠ S → h.get? c = some o → h'.get? c = some o) : ZSt h' z TI TO S qs i := by
  obtain ⟨a, b, c⟩ := st
  refine ⟨k _ _ (Nat.ne_of_lt L.TIS) a, fun q hq => (b q hq).keep (fun o e => k _ o (Nat.ne_of_lt (L.its q hq)) e) fun o e => k _ o (Nat.ne_of_lt (L.ls q hq)) e, ?_⟩
  rcases c with ⟨c1, c2, old, c3, c4⟩ | ⟨T, f, oT, c1, c2, c3⟩
  · exact .inl ⟨c1, k _ _ (Nat.ne_of_lt L.zS) c2, old, k _ _ (Nat.ne_of_lt L.TOS) c3, c4⟩
  · exact .inr ⟨T, f, oT, k _ _ (Nat.ne_of_lt L.zS) c1, k _ _ (Nat.ne_of_gt c3) c2, c3⟩
theorem zn_item {Q : Option Value → Shared → Prop} (hh : A.handled = none) (D : ZSep z TI TO qs) (L : ZLow z TI TO S qs) (hne : qs ≠ []) (st : ZSt s.heap z TI TO S qs i) (hS : S < s.heap.objs.size) (hlt : ∀ q ∈ qs, i < q.items.length) (hsz : qs.length ≤ sizeLine)
    (hQ : ∀ vs h' tk, Row qs i vs → ZSt h' z TI TO S qs (i + 1) → IsT h' s.heap.objs.size vs → h'.objs.size = s.heap.objs.size + 1 → (∀ c o, c ≠ z → c ≠ TO → (∀ q ∈ qs, c ≠ q.it) → s.heap.get? c = some o → h'.get? c = some o) →
      Q (some (.ref s.heap.objs.size)) { s with heap := h', toks := tk }) : wpAny (model prog w) A (pyNext (.ref z)) Q E s := by
  obtain ⟨a, b, c⟩ := st
  have ob : ∃ o : Obj, s.heap.get? z = some o ∧ o.cls = .type "zip" := by
    rcases c with ⟨_, c2, _⟩ | ⟨T, f, oT, c1, _⟩
    · exact ⟨_, c2, rfl⟩
    · exact ⟨_, c1, rfl⟩
  have hT : s.TypeIs (.ref z) "zip" := by
    obtain ⟨o, e1, e2⟩ := ob
    exact ⟨o, e1, e2⟩
  unfold pyNext
  refine wpAny_bind (wpAny_attempt (wpAny_callSpecial?_slot (name := Str.ofString "__next__") hT F.slot_zip_next (wpAny_call_entry F.slot_zip_next hT F.entry_zip_next ?_ (F.args_zip_next_1 _))))
  rcases c with ⟨c1, c2, old, c3, c4⟩ | ⟨T, f, oT, c1, c2, c3⟩
  · subst c1
    refine zn_free_item hh D hne c2 a c3 c4 b hlt hsz fun vs h' tk rw hz hTO at' hp sz kp => wpAny_pure ?_
    refine hQ vs h' tk rw ⟨kp _ _ D.TIz D.TITO (fun q hq => (D.itI q hq).symm) a, at', .inr ⟨s.heap.objs.size, false, _, hz, hp, hS⟩⟩ hp sz kp
  · refine zn_held_item hh D hne c1 c2 a b hlt hsz fun vs h' tk rw hz at' hp sz kp => wpAny_pure ?_
    have hTz : T ≠ z := fun e => by subst e; exact absurd (Nat.lt_trans L.zS c3) (Nat.lt_irrefl _)
    have hTi : ∀ q ∈ qs, T ≠ q.it := fun q hq e => by have := L.its q hq; rw [← e] at this; exact absurd (Nat.lt_trans this c3) (Nat.lt_irrefl _)
    refine hQ vs h' tk rw ⟨kp _ _ D.TIz (fun q hq => (D.itI q hq).symm) a, at', .inr ⟨T, true, oT, hz, kp _ _ hTz hTi c2, c3⟩⟩ hp sz fun c o d1 _ d3 e => kp c o d1 d3 e
theorem zn_end {Q : Option Value → Shared → Prop} (hh : A.handled = none) (D : ZSep z TI TO qs) (hne : qs ≠ []) (st : ZSt s.heap z TI TO S qs i) (hle : ∀ q ∈ qs, i ≤ q.items.length) (hend : ∃ q ∈ qs, q.items.length = i) (hsz : qs.length ≤ sizeLine)
    (hQ : ∀ h' tk, (∀ c o, c ≠ z → c ≠ TO → (∀ q ∈ qs, c ≠ q.it) → s.heap.get? c = some o → h'.get? c = some o) → Q none { s with heap := h', toks := tk }) : wpAny (model prog w) A (pyNext (.ref z)) Q E s := by
  obtain ⟨a, b, c⟩ := st
  have ob : ∃ o : Obj, s.heap.get? z = some o ∧ o.cls = .type "zip" := by
    rcases c with ⟨_, c2, _⟩ | ⟨T, f, oT, c1, _⟩
    · exact ⟨_, c2, rfl⟩
    · exact ⟨_, c1, rfl⟩
  have hT : s.TypeIs (.ref z) "zip" := by
    obtain ⟨o, e1, e2⟩ := ob
    exact ⟨o, e1, e2⟩
  unfold pyNext
  refine wpAny_bind (wpAny_attempt (wpAny_callSpecial?_slot (name := Str.ofString "__next__") hT F.slot_zip_next (wpAny_call_entry F.slot_zip_next hT F.entry_zip_next ?_ (F.args_zip_next_1 _))))
  have stop : ∀ (h' : Heap) (tk : Nat) (e : Addr), (∀ c o, c ≠ z → c ≠ TO → (∀ q ∈ qs, c ≠ q.it) → s.heap.get? c = some o → h'.get? c = some o) → (∃ o, h'.get? e = some o ∧ o.cls = .type "StopIteration") →
      wpAny (model prog w) A (isInstance (.ref e) (.type "StopIteration")) (fun b s' => wpAny (model prog w) A (if b = true then pure none else throw (.ref e)) Q E s') E { s with heap := h', toks := tk } := fun h' tk e kp he => by
    obtain ⟨o, ho, hc⟩ := he
    exact wpAny_isInstance (T := "StopIteration") (b := true) ⟨o, ho, hc⟩ isSubtype_stop (wpAny_pure (hQ h' tk kp))
  rcases c with ⟨c1, c2, old, c3, c4⟩ | ⟨T, f, oT, c1, c2, c3⟩
  · exact zn_free_end hh D hne c2 a c3 (by rw [c4]; exact hsz) b hle hend fun h' tk e kp he => wpAny_bind (stop h' tk e kp he)
  · exact zn_held_end hh D hne c1 c2 a b hle hend fun h' tk e kp he => wpAny_bind (stop h' tk e (fun c o d1 _ d3 e => kp c o d1 d3 e) he)
end
end Dx

/-! tuple(zip(*rows)), gathered -/
namespace Dx
open PySem PySem.W
section
variable {prog : Program} {w : World} {A : Around} {s : Shared} {z TI TO S : Nat} {qs : List Sr} {n : Nat}
theorem zn_loop {R : Result → Shared → Prop} (hh : A.handled = none) (D : ZSep z TI TO qs) (L : ZLow z TI TO S qs) (hne : qs ≠ []) (hsz : qs.length ≤ sizeLine) (hle : ∀ q ∈ qs, n ≤ q.items.length) (hend : ∃ q ∈ qs, q.items.length = n) (hn : n ≤ sizeLine) (res : Value) {h₁ : Heap}
    (hR : ∀ h' tk acc c as, (∀ b o, b ≠ S → b ≠ z → b ≠ TO → (∀ q ∈ qs, b ≠ q.it) → h₁.get? b = some o → h'.get? b = some o) → h'.get? S = some { cls := .type "list", dict := none, data := .seq acc c, slots := #[] } → as.length = n → ZG qs S h' as →
      acc.toList = as.map Value.ref → R (.ok (.ret res)) { s with heap := h', toks := tk }) :
    ∀ (k i : Nat) (h : Heap) (tk c : Nat) (acc : Array Value) (as : List Nat), n - i = k → i ≤ n → ZSt h z TI TO S qs i → (∀ b o, b ≠ S → b ≠ z → b ≠ TO → (∀ q ∈ qs, b ≠ q.it) → h₁.get? b = some o → h.get? b = some o) →
      h.get? S = some { cls := .type "list", dict := none, data := .seq acc c, slots := #[] } → acc.toList = as.map Value.ref → as.length = i → ZG qs S h as →
      codeAny (model prog w) A (.builtin "list.extend.loop" ⟨[.ref S, .ref z, res], []⟩) R { s with heap := h, toks := tk } := by
  have old : ∀ {h : Heap} {as : List Nat}, ZG qs S h as → ∀ a ∈ as, a ≠ S ∧ a ≠ z ∧ a ≠ TO ∧ ∀ q ∈ qs, a ≠ q.it := fun g a ha => by
    have h1 := g.above a ha
    have h2 := L.zS
    have h3 := L.TOS
    refine ⟨by omega, by omega, by omega, fun q hq => ?_⟩
    have := L.its q hq
    omega
  intro k
  induction k with
  | zero =>
    intro i h tk c acc as hk hi hst hkeep hS hacc hal hG
    have hin : i = n := by omega
    subst hin
    refine codeAny_builtin PySem.F.entry_extend_loop ?_
    rw [Around.under_plainId PySem.F.plain_extend_loop _]
    show wpAny _ A.in1 (pyNext (.ref z) >>= _) _ _ _
    refine wpAny_bind (zn_end (s := { s with heap := h, toks := tk }) (A := A.in1) hh D hne hst hle hend hsz fun h' tk' he => ?_)
    refine wpAny_pure (hR h' tk' acc c as (fun b o h1 h2 h3 h4 e => he b o h2 h3 h4 (hkeep b o h1 h2 h3 h4 e)) (he S _ (Nat.ne_of_gt L.zS) (Nat.ne_of_gt L.TOS) (fun q hq => Nat.ne_of_gt (L.its q hq)) hS) hal ⟨hG.rise, hG.above, fun j a hj => ?_⟩ hacc)
    obtain ⟨vs, r, e⟩ := hG.rows j a hj
    obtain ⟨_, o2, o3, o4⟩ := old hG a (List.mem_of_getElem? hj)
    exact ⟨vs, r, he a _ o2 o3 o4 e⟩
  | succ k ih =>
    intro i h tk c acc as hk hi hst hkeep hS hacc hal hG
    have hlt : i < n := by omega
    have hsz' : acc.size = i := by rw [← Array.length_toList, hacc, List.length_map, hal]
    have hSl : S < h.objs.size := Heap.lt_size hS
    refine codeAny_builtin PySem.F.entry_extend_loop ?_
    rw [Around.under_plainId PySem.F.plain_extend_loop _]
    show wpAny _ A.in1 (pyNext (.ref z) >>= _) _ _ _
    refine wpAny_bind (zn_item (s := { s with heap := h, toks := tk }) (A := A.in1) hh D L hne hst hSl (fun q hq => Nat.lt_of_lt_of_le hlt (hle q hq)) hsz fun vs h' tk' rw hst' ht hz hkp => ?_)
    dsimp only at ht hz hkp ⊢
    have hS' := hkp S _ (Nat.ne_of_gt L.zS) (Nat.ne_of_gt L.TOS) (fun q hq => Nat.ne_of_gt (L.its q hq)) hS
    have up : ∀ b o, b ≠ S → h'.get? b = some o → (h'.update S (Obj.mapSeq (·.push (Value.ref h.objs.size)))).get? b = some o := fun b o hb e => (Heap.get?_update_other _ _ (Ne.symm hb)).trans e
    show wpAny _ A.in1 (updateSeq S (·.push (Value.ref h.objs.size)) >>= _) _ _ _
    refine wpAny_bind ?_
    refine wpAny_updateSeq hS' rfl (wpAny_pure ⟨plainId_quiet PySem.F.plain_extend_loop _, ih (i + 1) _ tk' _ (acc.push (Value.ref h.objs.size)) (as ++ [h.objs.size]) (by omega) hlt (zst_keep L hst' up)
      (fun b o h1 h2 h3 h4 e => up b o h1 (hkp b o h2 h3 h4 (hkeep b o h1 h2 h3 h4 e))) (Heap.get?_update_self _ hS' rfl) (by rw [Array.toList_push, hacc, List.map_append]; rfl) (by rw [List.length_append, hal]; rfl) ⟨?_, ?_, ?_⟩⟩) (by rw [hsz']; omega) (by rw [Array.size_push, hsz']; omega)
    · refine List.pairwise_append.mpr ⟨hG.rise, List.pairwise_singleton _ _, fun a ha b hb => ?_⟩
      rw [List.mem_singleton.mp hb]
      exact hG.there ha
    · intro a ha
      rcases List.mem_append.mp ha with ha | ha
      · exact hG.above a ha
      · rw [List.mem_singleton.mp ha]; exact hSl
    · intro j b hj
      rcases Nat.lt_trichotomy j as.length with h1 | h1 | h1
      · rw [List.getElem?_append_left h1] at hj
        obtain ⟨vs', r, e3⟩ := hG.rows j b hj
        obtain ⟨o1, o2, o3, o4⟩ := old hG b (List.mem_of_getElem? hj)
        exact ⟨vs', r, up b _ o1 (hkp b _ o2 o3 o4 e3)⟩
      · subst h1
        have hb : h.objs.size = b := by simpa using hj
        subst hb
        exact ⟨vs, by rw [hal]; exact rw, up _ _ (Nat.ne_of_gt hSl) ht⟩
      · have hnone : (as ++ [h.objs.size])[j]? = none := List.getElem?_eq_none (by rw [List.length_append, List.length_singleton]; omega)
        rw [hnone] at hj; cases hj
end
section
variable {prog : Program} {w : World} {A : Around} {E : Value → Shared → Prop} {s : Shared} {z TI TO : Nat} {qs : List Sr} {n : Nat}
theorem zn_hint {R : Bool → Shared → Prop} (hT : s.TypeIs (.ref z) "zip") (hR : R true s) : wpAny (model prog w) A (Builtin.List.listLengthHint (.ref z)) R E s := by
  unfold Builtin.List.listLengthHint
  refine wpAny_bind (wpAny_specialOf hT nolen_zip ?_)
  show wpAny _ A (specialOf (Value.ref z) (Str.ofString "__length_hint__") >>= _) _ _ _
  refine wpAny_bind (wpAny_specialOf hT nohint_zip ?_)
  exact wpAny_pure hR
/-- where the cells of a new zip lie -/
structure ZLow0 (h : Heap) (z TI TO : Nat) (qs : List Sr) : Prop where
  zS : z < h.objs.size
  TIS : TI < h.objs.size
  TOS : TO < h.objs.size
  its : ∀ q ∈ qs, q.it < h.objs.size
  ls : ∀ q ∈ qs, q.l < h.objs.size
theorem zn_collect {R : List Value → Shared → Prop} (hh : A.handled = none) (D : ZSep z TI TO qs) (L0 : ZLow0 s.heap z TI TO qs) (hne : qs ≠ []) (hsz : qs.length ≤ sizeLine) (hle : ∀ q ∈ qs, n ≤ q.items.length) (hend : ∃ q ∈ qs, q.items.length = n) (hn : n ≤ sizeLine)
    (hz : IsZip s.heap z TI TO .none) (hTI : IsT s.heap TI (qs.map fun q => .ref q.it)) {old : List Value} (hTO : IsT s.heap TO old) (hol : old.length = qs.length) (hat : ∀ q ∈ qs, q.At 0 s.heap)
    (h : ∀ (h' : Heap) (tk : Nat) (as : List Nat), (∀ b o, b ≠ z → b ≠ TO → (∀ q ∈ qs, b ≠ q.it) → s.heap.get? b = some o → h'.get? b = some o) → as.length = n → ZG qs s.heap.objs.size h' as → s.heap.objs.size < h'.objs.size → R (as.map Value.ref) { s with heap := h', toks := tk }) :
    wpAny (model prog w) A (collect (.ref z)) R E s := by
  have L : ZLow z TI TO s.heap.objs.size qs := ⟨L0.zS, L0.TIS, L0.TOS, L0.its, L0.ls⟩
  unfold collect
  refine wpAny_bind (wpAny_runValue (codeAny_builtin PySem.F.entry_proto_collect ?_))
  rw [Around.under_plainId PySem.F.plain_proto_collect _]
  show wpAny _ A.in1 (newList [] >>= fun l => again (.builtin "list.__iadd__" ⟨[l, .ref z], []⟩)) _ _ s
  refine wpAny_bind (wpAny_newObj_type ?_)
  refine wpAny_pure ⟨plainId_quiet PySem.F.plain_list_iadd _, codeAny_builtin PySem.F.entry_list_iadd ?_⟩
  rw [Around.under_plainId PySem.F.plain_list_iadd _]
  generalize hH1 : s.heap.push { cls := .type "list", data := .seq ([] : List Value).toArray } = H1
  have hS₁ : H1.get? s.heap.objs.size = some { cls := .type "list", data := .seq #[] } := by rw [← hH1]; exact Heap.get?_push_size _ rfl
  have up1 : ∀ b o, s.heap.get? b = some o → H1.get? b = some o := fun b o e => by rw [← hH1]; exact Heap.get?_push_of_some _ e
  have z1 := up1 _ _ hz
  have hT : ({ s with heap := H1 } : Shared).TypeIs (.ref z) "zip" := ⟨_, z1, rfl⟩
  have hSz : s.heap.objs.size ≠ z := Nat.ne_of_gt L.zS
  have h1 : Builtin.List.listSameRef (.ref s.heap.objs.size) (.ref z) = false := by simp [Builtin.List.listSameRef, hSz]
  show wpAny _ A.in1 (Builtin.List.listExtendWith (.ref s.heap.objs.size) (.ref z) (.ref s.heap.objs.size)) _ _ { s with heap := H1 }
  unfold Builtin.List.listExtendWith
  refine wpAny_bind (wpAny_typeOf hT ?_)
  rw [if_neg (by rw [h1]; decide)]
  refine wpAny_bind (wpAny_pyIter_zip (s := { s with heap := H1 }) z1 ?_)
  refine wpAny_bind (wpAny_holding (zn_hint hT ?_))
  rw [if_pos (by rfl)]
  refine wpAny_bind (wpAny_rule ?_)
  refine wpAny_bind ?_
  show wpAny _ _ (updateSeq s.heap.objs.size (·.push .none) >>= fun _ => updateSeq s.heap.objs.size (·.pop)) _ _ { s with heap := H1 }
  refine wpAny_bind (wpAny_updateSeq hS₁ rfl ?_)
  have hS₂ := Heap.get?_update_self (Obj.mapSeq (·.push Value.none)) hS₁ rfl
  refine wpAny_updateSeq (hz := by seq_fits) hS₂ rfl ?_
  have hS₃ := Heap.get?_update_self (Obj.mapSeq (·.pop)) hS₂ rfl
  have up3 : ∀ b o, b ≠ s.heap.objs.size → H1.get? b = some o → ((H1.update s.heap.objs.size (Obj.mapSeq (·.push Value.none))).update s.heap.objs.size (Obj.mapSeq (·.pop))).get? b = some o := fun b o hb e => (Heap.get?_update_other _ _ (Ne.symm hb)).trans ((Heap.get?_update_other _ _ (Ne.symm hb)).trans e)
  generalize (H1.update s.heap.objs.size (Obj.mapSeq (·.push Value.none))).update s.heap.objs.size (Obj.mapSeq (·.pop)) = H3 at *
  have st : ZSt H3 z TI TO s.heap.objs.size qs 0 := by
    refine ⟨up3 _ _ (Nat.ne_of_lt L.TIS) (up1 _ _ hTI), fun q hq => (hat q hq).keep (fun o e => up3 _ o (Nat.ne_of_lt (L.its q hq)) (up1 _ o e)) fun o e => up3 _ o (Nat.ne_of_lt (L.ls q hq)) (up1 _ o e), .inl ⟨rfl, up3 _ _ (Nat.ne_of_lt L.zS) z1, old, up3 _ _ (Nat.ne_of_lt L.TOS) (up1 _ _ hTO), hol⟩⟩
  refine wpAny_pure ⟨plainId_quiet PySem.F.plain_extend_loop _, ?_⟩
  refine zn_loop (n := n) (s := s) (h₁ := H3) hh D L hne hsz hle hend hn (.ref s.heap.objs.size) (fun h' tk acc c as hk hS hl hG hacc => ?_) n 0 H3 s.toks _ #[] [] (Nat.sub_zero _) (Nat.zero_le _) st (fun b o _ _ _ _ e => e) hS₃ rfl rfl ⟨List.Pairwise.nil, (fun a ha => by cases ha), (fun j a hj => by simp at hj)⟩
  show wpAny _ A (load s.heap.objs.size >>= _) _ _ _
  refine wpAny_bind (wpAny_load hS ?_)
  refine wpAny_pure ?_
  show R acc.toList _
  rw [hacc]
  exact h h' tk as (fun b o b2 b3 b4 e => hk b o (Nat.ne_of_lt (Heap.lt_size e)) b2 b3 b4 (up3 b o (Nat.ne_of_lt (Heap.lt_size e)) (up1 b o e))) hl hG (Heap.lt_size hS)
theorem zn_tupleNew {Q₁ : Value → Shared → Prop} (hh : A.handled = none) (D : ZSep z TI TO qs) (L0 : ZLow0 s.heap z TI TO qs) (hne : qs ≠ []) (hsz : qs.length ≤ sizeLine) (hle : ∀ q ∈ qs, n ≤ q.items.length) (hend : ∃ q ∈ qs, q.items.length = n) (hn : n ≤ sizeLine)
    (hz : IsZip s.heap z TI TO .none) (hTI : IsT s.heap TI (qs.map fun q => .ref q.it)) {old : List Value} (hTO : IsT s.heap TO old) (hol : old.length = qs.length) (hat : ∀ q ∈ qs, q.At 0 s.heap)
    (h : ∀ (h' : Heap) (tk : Nat) (as : List Nat), (∀ b o, b ≠ z → b ≠ TO → (∀ q ∈ qs, b ≠ q.it) → s.heap.get? b = some o → h'.get? b = some o) → as.length = n → ZG qs s.heap.objs.size h' as → s.heap.objs.size < h'.objs.size →
      Q₁ (.ref h'.objs.size) { s with heap := h'.push { cls := .type "tuple", data := .seq (as.map Value.ref).toArray }, toks := tk }) :
    codeAny (model prog w) A (.call (.builtin "tuple.__new__") ⟨[.type "tuple", .ref z], []⟩) (wants Q₁ E) s := by
  refine codeAny_of_tree ?_
  show wpAny _ A.in1 (do checkBuiltinCall "tuple.__new__" ⟨[.type "tuple", .ref z], []⟩; again (.builtin "tuple.__new__" ⟨[.type "tuple", .ref z], []⟩)) _ _ s
  refine wpAny_bind (wpAny_of_eq (PySem.F.newCall_tuple_1 _) (wpAny_pure ⟨plainId_quiet PySem.F.plain_tuple_new _, codeAny_builtin PySem.F.entry_tuple_new ?_⟩))
  rw [Around.under_plainId PySem.F.plain_tuple_new _]
  have hsub := sub_tuple_self
  have hinit := init_tuple_lookup
  have hmh := madeHere_tuple
  have hTI' : s.TypeIs (.ref z) "zip" := ⟨_, hz, rfl⟩
  have hh1 : A.in1.handled = none := hh
  wp_walk using wpAny_typeOf hTI', zn_collect (A := A.in1) hh1 D L0 hne hsz hle hend hn hz hTI hTO hol hat
  intro h' tk as hk hl hG hgr
  show wpAny _ _ (Builtin.Tuple.tupleExact (as.map Value.ref).toArray >>= fun v => ret v) _ _ _
  unfold Builtin.Tuple.tupleExact
  refine wpAny_bind (wpAny_newObj_type ?_ (by show (as.map Value.ref).toArray.size ≤ sizeLine; rw [List.size_toArray, List.length_map, hl]; exact hn))
  exact wpAny_pure (h h' tk as hk hl hG hgr)
theorem zn_tuple {Q : Value → Shared → Prop} (hh : A.handled = none) (D : ZSep z TI TO qs) (L0 : ZLow0 s.heap z TI TO qs) (hne : qs ≠ []) (hsz : qs.length ≤ sizeLine) (hle : ∀ q ∈ qs, n ≤ q.items.length) (hend : ∃ q ∈ qs, q.items.length = n) (hn : n ≤ sizeLine)
    (hz : IsZip s.heap z TI TO .none) (hTI : IsT s.heap TI (qs.map fun q => .ref q.it)) {old : List Value} (hTO : IsT s.heap TO old) (hol : old.length = qs.length) (hat : ∀ q ∈ qs, q.At 0 s.heap)
    (h : ∀ (h' : Heap) (tk : Nat) (as : List Nat), (∀ b o, b ≠ z → b ≠ TO → (∀ q ∈ qs, b ≠ q.it) → s.heap.get? b = some o → h'.get? b = some o) → as.length = n → ZG qs s.heap.objs.size h' as → s.heap.objs.size < h'.objs.size →
      Q (.ref h'.objs.size) { s with heap := h'.push { cls := .type "tuple", data := .seq (as.map Value.ref).toArray }, toks := tk }) :
    wpAny (model prog w) A (call (.type "tuple") [.ref z]) Q E s := by
  refine callType_codes (Q₁ := fun obj s₁ => s₁.TypeIs obj "tuple" ∧ Q obj s₁) PySem.F.called_tuple (PySem.F.typeCall_tuple_1 _) PySem.F.entry_object_init
    (zn_tupleNew (A := A.in1) hh D L0 hne hsz hle hend hn hz hTI hTO hol hat fun h' tk as hk hl hG hgr => ⟨⟨_, Heap.get?_push_size _ rfl, rfl⟩, h h' tk as hk hl hG hgr⟩) fun obj s₁ h₁ => ?_
  exact ⟨h₁.1, PySem.F.args_object_init_2 obj _, object_init_meets PySem.F.called_tuple.init.lookup PySem.F.called_tuple.made (by decide) prog w A.in1 _ s₁ ⟨h₁.1, rfl, h₁.2⟩⟩
end
end Dx

/-! tuple(zip(*rows)): the rule -/
namespace Dx
open PySem PySem.Spec PyProof.Rows L2
/-- the columns tracked at their addresses -/
def putC : Hp → List Addr → List (List V) → Hp
  | H, t :: ts, c :: cs => putC (upd H t (.tup c)) ts cs
  | H, _, _ => H
theorem putC_off {b : Addr} : ∀ (ts : List Addr) (cs : List (List V)) (H : Hp), b ∉ ts → putC H ts cs b = H b
  | [], _, _, _ => rfl
  | _ :: _, [], _, _ => rfl
  | t :: ts, c :: cs, H, h => by
    show putC (upd H t (.tup c)) ts cs b = H b
    rw [putC_off ts cs _ (fun z => h (List.mem_cons_of_mem _ z)), upd_ne (fun z => h (by rw [z]; exact List.mem_cons_self))]
theorem putC_at : ∀ (ts : List Addr) (cs : List (List V)) (H : Hp), ts.length = cs.length → ts.Nodup → ∀ (j : Nat) (t : Addr) (c : List V), ts[j]? = some t → cs[j]? = some c → putC H ts cs t = some (.tup c)
  | [], _, _, _, _, _, _, _, h, _ => by cases h
  | t :: ts, [], _, h, _, _, _, _, _, _ => by cases h
  | t :: ts, c :: cs, H, h, hn, 0, t', c', h1, h2 => by
    simp at h1 h2
    subst h1 h2
    show putC (upd H t (.tup c)) ts cs t = some (.tup c)
    rw [putC_off ts cs _ (List.nodup_cons.mp hn).1, upd_same]
  | t :: ts, c :: cs, H, h, hn, j + 1, t', c', h1, h2 => putC_at ts cs (upd H t (.tup c)) (Nat.succ.inj h) (List.nodup_cons.mp hn).2 j t' c' (by simpa using h1) (by simpa using h2)
def colsV (rows : List (List V)) (m : Nat) : List (List V) := (List.range m).map fun j => rows.map fun r => r.getD j .non
def tTupZip (K : PySem.W.Frag) (te : TE) : TE := fun σ H Q => te σ H fun x H1 => ∃ (a : Addr) (rows : List (Addr × List V)) (m : Nat), x = .ref a ∧ (SqT K H1 a (rows.map fun r => V.ref r.1) ∨ SqL K H1 a (rows.map fun r => V.ref r.1)) ∧ rows ≠ [] ∧ rows.length ≤ 12 ∧ m ≤ sizeLine ∧
  (∀ r ∈ rows, SqT K H1 r.1 r.2 ∧ r.2.length = m) ∧ ∀ (p : Addr) (ts : List Addr), H1 p = none → (∀ t ∈ ts, H1 t = none) → p ∉ ts → ts.Nodup → ts.length = m → Q (.ref p) (upd (putC H1 ts (colsV (rows.map (·.2)) m)) p (.tup (ts.map V.ref)))
section
variable {X : Cx}
theorem refs_vals : ∀ {as : List Addr} {us : List Value}, Vals (as.map V.ref) us → us = as.map Value.ref
  | [], _, .nil => rfl
  | a :: as, _, .cons r t => by
    obtain rfl := r
    rw [List.map_cons, refs_vals t]
theorem vals_get : ∀ {xs : List V} {us : List Value}, Vals xs us → ∀ (i : Nat) (u : Value), us[i]? = some u → ∃ x, xs[i]? = some x ∧ RelV x u
  | _, _, .nil, i, u, h => by cases h
  | _, _, .cons r t, 0, u, h => by
    cases Option.some.inj h
    exact ⟨_, rfl, r⟩
  | _, _, .cons r t, i + 1, u, h => vals_get t i u h
/-- the rows, as things to be zipped -/
theorem rows_so {pins : List (Addr × Obj)} {σ : L2.St} {H : Hp} {s : Shared} (I : Inv X pins σ H s) {m : Nat} : ∀ rows : List (Addr × List V), (∀ r ∈ rows, SqT X.K H r.1 r.2 ∧ r.2.length = m) →
    ∃ xs : List So, xs.map (·.l) = rows.map (·.1) ∧ (∀ x ∈ xs, x.At s.heap ∧ x.items.length = m) ∧ ∀ (j : Nat) (r : Addr × List V) (x : So), rows[j]? = some r → xs[j]? = some x → Vals r.2 x.items
  | [], _ => ⟨[], rfl, fun x hx => (by cases hx), fun j r x h => (by cases h)⟩
  | r :: rows, h => by
    obtain ⟨xs, h1, h2, h3⟩ := rows_so I rows fun q hq => h q (List.mem_cons_of_mem _ hq)
    obtain ⟨hs, hl⟩ := h r List.mem_cons_self
    obtain ⟨its, rv, p, _⟩ := I.tuple hs
    refine ⟨⟨r.1, true, its⟩ :: xs, by rw [List.map_cons, List.map_cons, h1], fun x hx => ?_, fun j q x e1 e2 => ?_⟩
    · rcases List.mem_cons.mp hx with rfl | hx
      · exact ⟨by unfold So.At; rw [if_pos rfl]; exact p, by show its.length = m; rw [← rv.length]; exact hl⟩
      · exact h2 x hx
    · cases j with
      | zero =>
        cases Option.some.inj e1
        cases Option.some.inj e2
        exact rv
      | succ j => exact h3 j q x (by simpa using e1) (by simpa using e2)
/-- one column -/
theorem col_vals {rows : List (Addr × List V)} {xs : List So} {n j : Nat} {vs : List Value} (hl : xs.map (·.l) = rows.map (·.1)) (hv : ∀ (j : Nat) (r : Addr × List V) (x : So), rows[j]? = some r → xs[j]? = some x → Vals r.2 x.items) (hw : Row (mkQ n xs) j vs) :
    Vals ((rows.map (·.2)).map fun r => r.getD j .non) vs := by
  have l1 : xs.length = rows.length := by have := congrArg List.length hl; simpa using this
  have l2 : vs.length = rows.length := by rw [hw.1, mkQ_len, l1]
  rw [List.map_map]
  have key : ∀ (rows : List (Addr × List V)) (vs : List Value), vs.length = rows.length → (∀ (k : Nat) (r : Addr × List V) (v : Value), rows[k]? = some r → vs[k]? = some v → RelV (r.2.getD j .non) v) → Vals (rows.map ((fun r : List V => r.getD j .non) ∘ (·.2))) vs := by
    intro rows
    induction rows with
    | nil => intro vs h _; rw [List.eq_nil_of_length_eq_zero h]; exact .nil
    | cons r rows ih =>
      intro vs h hk
      cases vs with
      | nil => cases h
      | cons v vs => exact .cons (hk 0 r v rfl rfl) (ih vs (Nat.succ.inj h) fun k r v e1 e2 => hk (k + 1) r v (by simpa using e1) (by simpa using e2))
  refine key rows vs l2 fun k r v e1 e2 => ?_
  obtain ⟨x, hx⟩ : ∃ x, xs[k]? = some x := ⟨xs[k]'(by have := (List.getElem?_eq_some_iff.mp e1).1; omega), List.getElem?_eq_getElem _⟩
  have hq : (mkQ n xs)[k]? = some ⟨n + k, x.l, x.tu, x.items⟩ := by rw [mkQ_get, hx]; rfl
  have hi := hw.2 k _ v hq e2
  obtain ⟨y, hy, ry⟩ := vals_get (hv k r x e1 hx) j v hi
  rw [List.getD_eq_getElem?_getD, hy]
  exact ry
/-- the columns and their tuple are there -/
theorem cols_laid {pins : List (Addr × Obj)} {σ : L2.St} {H : Hp} {s : Shared} {h' : Heap} {tk : Nat} {as : List Nat} {S : Nat} {qs : List Sr} {cs : List (List V)} (I : Inv X pins σ H s) (hS : s.heap.objs.size ≤ S) (hb : s.heap.objs.size ≤ h'.objs.size)
    (hk : ∀ b o, s.heap.get? b = some o → h'.get? b = some o) (hG : ZG qs S h' as) (hl : as.length = cs.length) (hm : as.length ≤ sizeLine) (hc : ∀ (j : Nat) (c : List V) (vs : List Value), cs[j]? = some c → Row qs j vs → Vals c vs ∧ c.length ≤ sizeLine) :
    H h'.objs.size = none ∧ (∀ t ∈ as, H t = none) ∧ h'.objs.size ∉ as ∧ as.Nodup ∧ Inv X pins σ (upd (putC H as cs) h'.objs.size (.tup (as.map V.ref))) { s with heap := h'.push { cls := .type "tuple", data := .seq (as.map Value.ref).toArray }, toks := tk } := by
  have new : ∀ t ∈ as, H t = none := fun t ht => I.hok.fresh (Nat.le_trans hS (Nat.le_of_lt (hG.above t ht)))
  have newP : H h'.objs.size = none := I.hok.fresh hb
  have pn : h'.objs.size ∉ as := fun z => Nat.lt_irrefl _ (hG.there z)
  have nd : as.Nodup := List.Pairwise.imp (fun {a b} (h : a < b) => Nat.ne_of_lt h) hG.rise
  have atP := putC_at as cs H hl nd
  have off : ∀ b, b ∉ as → b ≠ h'.objs.size → (upd (putC H as cs) h'.objs.size (.tup (as.map V.ref))) b = H b := fun b h1 h2 => by rw [upd_ne h2, putC_off as cs _ h1]
  have low : ∀ b o, s.heap.get? b = some o → b ∉ as ∧ b ≠ h'.objs.size := fun b o e => ⟨fun z => absurd (Heap.lt_size e) (Nat.not_lt.mpr (Nat.le_trans hS (Nat.le_of_lt (hG.above b z)))), Nat.ne_of_lt (Nat.lt_of_lt_of_le (Heap.lt_size e) hb)⟩
  have kp : ∀ b u, H b = some u → (upd (putC H as cs) h'.objs.size (.tup (as.map V.ref))) b = some u := fun b u e => by
    rw [off b (fun z => by rw [new b z] at e; cases e) (fun z => by rw [z, newP] at e; cases e)]
    exact e
  have hk2 : ∀ b o, s.heap.get? b = some o → (h'.push { cls := .type "tuple", data := .seq (as.map Value.ref).toArray }).get? b = some o := fun b o e => Heap.get?_push_of_some _ (hk b o e)
  refine ⟨newP, new, pn, nd, ?_⟩
  refine I.call' (ch := []) rfl ⟨fun b o q _ _ _ => hk2 b o q, fun b o q _ _ _ => ⟨o.slots, hk2 b o q⟩, fun b o q n _ => ?_, fun b o q _ => ⟨o, hk2 b o q⟩, fun b xs q => kp b _ q, fun b o u q => kp b _ q, fun b ps q => ⟨#[], by rw [kp b _ q]; simp⟩⟩ (fun b u q => ?_) I.bare fun b z => by simp at z
  · obtain ⟨z1, z2⟩ := low b o q
    rw [off b z1 z2]
    exact n
  · by_cases hbs : b = h'.objs.size
    · rw [hbs] at q ⊢
      rw [upd_same] at q
      cases q
      exact ⟨by show (as.map V.ref).length ≤ sizeLine; rw [List.length_map]; exact hm, as.map Value.ref, LiI.vals_refs as, ⟨_, Heap.get?_push_size _ rfl, rfl, _, rfl⟩⟩
    · by_cases hba : b ∈ as
      · obtain ⟨j, hj⟩ := List.mem_iff_getElem?.mp hba
        obtain ⟨c, hcj⟩ : ∃ c, cs[j]? = some c := ⟨cs[j]'(by have := (List.getElem?_eq_some_iff.mp hj).1; omega), List.getElem?_eq_getElem _⟩
        rw [upd_ne hbs, atP j b c hj hcj] at q
        cases q
        obtain ⟨vs, hw, hvs⟩ := hG.rows j b hj
        obtain ⟨r1, r2⟩ := hc j c vs hcj hw
        exact ⟨r2, vs, r1, ⟨_, Heap.get?_push_of_some _ hvs, rfl, _, rfl⟩⟩
      · rw [off b hba hbs] at q
        exact (I.hok b u q).stay (fun d v _ y => hk2 d v y) (fun d y => kp d _ y) fun d xs y => kp d _ y
/-- tuple(zip(*e)) -/
theorem pe_tupZip {e : Expr} {te : TE} {p p2 ps pos2 pos : Pos} (hc : X.calm = true) (hg : Gl X "tuple") (hm : X.mg "tuple" = none) (hg2 : Gl X "zip") (hm2 : X.mg "zip" = none) (he : PE X e te)
    (hs : starEach [.Call (.Name "zip" p2) [.Starred e ps] [] pos2] X.env = (false, eval (.Call (.Name "zip" p2) [.Starred e ps] [] pos2) X.env) :: starEach [] X.env := by rfl) (hs2 : starEach [.Starred e ps] X.env = [(true, eval e X.env)] := by rfl) :
    PE X (.Call (.Name "tuple" p) [.Call (.Name "zip" p2) [.Starred e ps] [] pos2] [] pos) (tTupZip X.K te) := by
  refine ⟨fun pins s σ H Q I hq => ?_⟩
  refine wpAny_Call_Name_kw (ld_blt I hg hm PyProof.Rows.boot_tuple ?_)
  refine PyProof.Rows.callWith_type1 ?_ hs rfl
  rw [hs]
  show wpAny _ _ (spliced ((false, eval (.Call (.Name "zip" p2) [.Starred e ps] [] pos2) X.env) :: backTo pos (starEach [] X.env))) _ _ s
  refine Calls.spliced_cons ?_
  refine wpAny_Call_Name_kw (ld_blt I hg2 hm2 PyProof.Rows.boot_zip ?_)
  rw [hs2]
  refine PySem.W.ks_call (P := fun _ => True) rfl (fun h _ => ⟨.machine, .inr (.inl rfl), PySem.W.Looks.of_pure rfl⟩) (PySem.W.ks_lone (thn (he.run pins s σ H _ I hq) fun v s1 ⟨y, H1, I1, ry, a, rows, m, ey, hx, hne, h12, hml, hr, q⟩ => ?_))
  subst ey
  obtain rfl : v = Value.ref a := ry
  refine StX.star_any I1 hx fun us s2 I2 rv => ⟨trivial, ?_⟩
  obtain ⟨xs, e1, e2, e3⟩ := rows_so I2 rows hr
  have us_e : us = xs.map fun x => Value.ref x.l := by
    have h1 : (rows.map fun r => V.ref r.1) = (rows.map (·.1)).map V.ref := by rw [List.map_map]; rfl
    rw [h1] at rv
    rw [refs_vals rv, ← e1, List.map_map]; rfl
  subst us_e
  have xl : xs.length = rows.length := by have := congrArg List.length e1; simpa using this
  have hsl : (12 : Nat) ≤ sizeLine := by decide
  show wpAny _ _ (call (.type "zip") (xs.map fun x => Value.ref x.l)) _ _ s2
  refine callType_new F.called_zip (by decide) (typeCall_zip _) (newCall_zip _ (by rw [List.length_map]; omega)) (fun obj => args_init obj _) F.entry_zip_new (meets_zipN xs (by omega)) ⟨fun x hx => (e2 x hx).1, fun h' N => ⟨⟨_, N.z, rfl⟩, ?_⟩⟩
  refine Calls.spliced_nil ?_
  have hlt : ∀ x ∈ xs, x.l < s2.heap.objs.size := fun x hx => (e2 x hx).1.lt
  have D := znew_sep N hlt
  have qlen : (mkQ s2.heap.objs.size xs).length = xs.length := mkQ_len _ _
  have L0 : ZLow0 h' (s2.heap.objs.size + xs.length + 2) (s2.heap.objs.size + xs.length) (s2.heap.objs.size + xs.length + 1) (mkQ s2.heap.objs.size xs) := by
    have sz := N.size
    refine ⟨by omega, by omega, by omega, fun q hq => ?_, fun q hq => ?_⟩
    · have := mkQ_mem hq; omega
    · obtain ⟨_, _, x, hx, el, _⟩ := mkQ_mem hq
      have := hlt x hx
      rw [el]; omega
  have items : ∀ q ∈ mkQ s2.heap.objs.size xs, q.items.length = m := fun q hq => by
    obtain ⟨_, _, x, hx, _, _, ei⟩ := mkQ_mem hq
    rw [ei]; exact (e2 x hx).2
  have xne : xs ≠ [] := fun z => hne (List.eq_nil_of_length_eq_zero (by rw [← xl, z]; rfl))
  have qne : mkQ s2.heap.objs.size xs ≠ [] := fun z => xne (List.eq_nil_of_length_eq_zero (by rw [← qlen, z]; rfl))
  refine zn_tuple (s := { s2 with heap := h' }) (n := m) (I2.ok.hd hc) D L0 qne (by omega) (fun q hq => Nat.le_of_eq (items q hq).symm) ?_ hml N.z N.ti N.to (by rw [List.length_replicate, qlen]) N.at0 fun h'' tk as hk hl hG hgr => ?_
  · obtain ⟨q0, r, er⟩ : ∃ q r, mkQ s2.heap.objs.size xs = q :: r := by
      cases h : mkQ s2.heap.objs.size xs with
      | nil => exact absurd h qne
      | cons q r => exact ⟨q, r, rfl⟩
    exact ⟨q0, by rw [er]; exact List.mem_cons_self, items q0 (by rw [er]; exact List.mem_cons_self)⟩
  have sz := N.size
  have kp : ∀ (b : Nat) (o : Obj), s2.heap.get? b = some o → h''.get? b = some o := fun b o ho => by
    have hb : b < s2.heap.objs.size := Heap.lt_size ho
    refine hk b o ?_ ?_ (fun q hq => ?_) (N.keep b o ho)
    · show b ≠ s2.heap.objs.size + xs.length + 2
      omega
    · show b ≠ s2.heap.objs.size + xs.length + 1
      omega
    · have := (mkQ_mem hq).1
      show b ≠ q.it
      omega
  have cl : (colsV (rows.map (·.2)) m).length = m := by unfold colsV; rw [List.length_map, List.length_range]
  obtain ⟨k1, k2, k3, k4, J⟩ := cols_laid (tk := tk) (cs := colsV (rows.map (·.2)) m) I2 (by show s2.heap.objs.size ≤ h'.objs.size; omega) (by have : h'.objs.size < h''.objs.size := hgr; omega) kp hG (by rw [hl, cl]) (by rw [hl]; exact hml) fun j c vs hj hw => by
    have hjm : j < m := by have := (List.getElem?_eq_some_iff.mp hj).1; rw [cl] at this; exact this
    unfold colsV at hj
    rw [List.getElem?_map, List.getElem?_range hjm] at hj
    obtain rfl := Option.some.inj hj
    refine ⟨col_vals e1 e3 hw, ?_⟩
    show ((rows.map (·.2)).map fun r => r.getD j V.non).length ≤ sizeLine
    rw [List.length_map, List.length_map]; omega
  exact ⟨.ref h''.objs.size, _, J, rfl, q _ as k1 k2 k3 k4 hl⟩
end
end Dx

namespace Dx
open PySem PySem.Spec PyProof.Rows L2
section
variable {K : PySem.W.Frag} {B : Bs} {Z H : Hp} {σ : L2.St} {ρ : Env1}
theorem seqD_dv {v : V} {d : PyData} {xs : List PyData} (h : Dv K Z v d) (e : seqD d = some xs) : ∃ a vs, v = .ref a ∧ (SqT K Z a vs ∨ SqL K Z a vs) ∧ DvAll K Z vs xs := by
  cases h with
  | lst hs ha => cases e; exact ⟨_, _, rfl, .inr hs, ha⟩
  | tup hs ha => cases e; exact ⟨_, _, rfl, .inl hs, ha⟩
  | _ => cases e
/-- rows as they stand -/
theorem tups_dv : ∀ {xs : List PyData} {rs : List (List PyData)} {vs : List V}, DvAll K Z vs xs → tupsD xs = some rs → ∃ rows : List (Addr × List V), vs = rows.map (fun r => V.ref r.1) ∧ rows.length = rs.length ∧ ∀ (j : Nat) (r : Addr × List V) (d : List PyData), rows[j]? = some r → rs[j]? = some d → SqT K Z r.1 r.2 ∧ DvAll K Z r.2 d
  | [], rs, vs, h, e => by
    cases h
    cases e
    exact ⟨[], rfl, rfl, fun j r d h => (by cases h)⟩
  | x :: xs, rs, vs, h, e => by
    cases h with
    | cons h1 h2 =>
      cases x with
      | tuple ys =>
        cases c : tupsD xs with
        | none => simp only [tupsD, c] at e; cases e
        | some rs' =>
          simp only [tupsD, c] at e
          cases e
          obtain ⟨rows, w1, w2, w3⟩ := tups_dv h2 c
          cases h1 with
          | tup hs ha =>
            rename_i a vs'
            refine ⟨(a, vs') :: rows, by rw [w1]; rfl, by simp [w2], fun j r d e1 e2 => ?_⟩
            cases j with
            | zero =>
              cases Option.some.inj e1
              cases Option.some.inj e2
              exact ⟨hs, ha⟩
            | succ j => exact w3 j r d (by simpa using e1) (by simpa using e2)
      | _ => cases e
theorem dvAll_of : ∀ {vs : List V} {ds : List PyData}, vs.length = ds.length → (∀ (j : Nat) (v : V) (d : PyData), vs[j]? = some v → ds[j]? = some d → Dv K Z v d) → DvAll K Z vs ds
  | [], [], _, _ => .nil
  | [], _ :: _, h, _ => by cases h
  | _ :: _, [], h, _ => by cases h
  | v :: vs, d :: ds, h, w => .cons (w 0 v d rfl rfl) (dvAll_of (Nat.succ.inj h) fun j v d e1 e2 => w (j + 1) v d (by simpa using e1) (by simpa using e2))
/-- new tuples, one behind the other -/
theorem newCols : ∀ (ts : List Addr) (cs : List (List V)) (ds : List (List PyData)) {Z H : Hp}, Rl K B Z H σ ρ → ts.length = cs.length → ds.length = cs.length → ts.Nodup → (∀ t ∈ ts, H t = none) → (∀ (j : Nat) (c : List V) (d : List PyData), cs[j]? = some c → ds[j]? = some d → DvAll K Z c d) →
    ∃ Z', Rl K B Z' (putC H ts cs) σ ρ ∧ Same Z Z' ∧ DvAll K Z' (ts.map V.ref) (ds.map PyData.tuple)
  | [], [], [], Z, H, r, _, _, _, _, _ => ⟨Z, r, Same.refl Z, .nil⟩
  | [], [], _ :: _, _, _, _, _, h, _, _, _ => by cases h
  | [], _ :: _, _, _, _, _, h, _, _, _, _ => by cases h
  | _ :: _, [], _, _, _, _, h, _, _, _, _ => by cases h
  | _ :: _, _ :: _, [], _, _, _, _, h, _, _, _ => by cases h
  | t :: ts, c :: cs, d :: ds, Z, H, r, l1, l2, nd, hn, hd => by
    obtain ⟨r1, sm1, dv1⟩ := r.newT (hn t List.mem_cons_self) (hd 0 c d rfl rfl)
    obtain ⟨n1, n2⟩ := List.nodup_cons.mp nd
    obtain ⟨Z2, r2, sm2, dv2⟩ := newCols ts cs ds r1 (Nat.succ.inj l1) (Nat.succ.inj l2) n2 (fun x hx => by
      have hxt : x ≠ t := fun z => n1 (by rw [← z]; exact hx)
      rw [upd_ne hxt]
      exact hn x (List.mem_cons_of_mem _ hx)) fun j c' d' e1 e2 => (hd (j + 1) c' d' (by simpa using e1) (by simpa using e2)).up sm1
    exact ⟨Z2, r2, sm1.trans sm2, .cons (dv1.up sm2) dv2⟩
end
/-- tuple(zip(*a)) -/
theorem de_tzp {X : Cx} {pn : List Nat} {a : Expr} {p p2 ps pos pos2 : Pos} {fa f : Env1 → Option (R × Env1)} (hc : X.calm = true) (hg : Gl X "tuple") (hm : X.mg "tuple" = none) (hg2 : Gl X "zip") (hm2 : X.mg "zip" = none) (ha : DE X pn a fa)
    (hf : ∀ ρ, f ρ = (do let (x, ρ1) ← fa ρ; let d ← zstD x.d; some (.dat d, ρ1))) : DE X pn (.Call (.Name "tuple" p) [.Call (.Name "zip" p2) [.Starred a ps] [] pos2] [] pos) f := by
  refine PE.imp (pe_tupZip hc hg hm hg2 hm2 ha) fun σ H Q ⟨B, Z, ρ, r, ρ', hp, rl, e1, q⟩ => ?_
  rw [hf] at e1
  cases c1 : fa ρ with
  | none => rw [c1] at e1; cases e1
  | some w =>
  obtain ⟨x, ρ1⟩ := w
  rw [c1] at e1
  simp only [Option.bind_eq_bind, Option.bind_some] at e1
  cases c3 : zstD x.d with
  | none => rw [c3] at e1; cases e1
  | some d =>
  rw [c3] at e1; cases e1
  refine tD_d hp rl c1 fun v H' Z' rl' sm dv => ?_
  unfold zstD at c3
  cases c4 : seqD x.d with
  | none => rw [c4] at c3; cases c3
  | some xs =>
  rw [c4] at c3
  simp only [Option.bind_eq_bind, Option.bind_some] at c3
  cases c5 : tupsD xs with
  | none => rw [c5] at c3; cases c3
  | some rs =>
  rw [c5] at c3
  simp only [Option.bind_some] at c3
  split at c3
  case isFalse => cases c3
  rename_i hcond
  obtain ⟨h1, h2, h3, h4⟩ := hcond
  cases c3
  obtain ⟨a0, vs, rfl, hs, hall⟩ := seqD_dv dv c4
  obtain ⟨rows, rfl, w2, w3⟩ := tups_dv hall c5
  generalize hm' : (rs.headD []).length = m at *
  have rlen : ∀ r ∈ rows, SqT X.K Z' r.1 r.2 ∧ r.2.length = m := fun r hr => by
    obtain ⟨j, hj⟩ := List.mem_iff_getElem?.mp hr
    have hjl := (List.getElem?_eq_some_iff.mp hj).1
    obtain ⟨a1, a2⟩ := w3 j r rs[j] hj (List.getElem?_eq_getElem (by omega))
    exact ⟨a1, by rw [a2.len]; exact h4 _ (List.getElem_mem _)⟩
  have up : ∀ {b : Addr} {ys : List V}, SqT X.K Z' b ys → SqT X.K H' b ys := fun h => sameT rl'.zh h
  refine ⟨a0, rows, m, rfl, hs.imp up (fun h => Same.seq rl'.zh h), fun z => h1 (List.eq_nil_of_length_eq_zero (by rw [← w2, z]; rfl)), by omega, h3, fun r hr => ⟨up (rlen r hr).1, (rlen r hr).2⟩, fun p ts k1 k2 k3 k4 k5 => ?_⟩
  have cl : (colsV (rows.map (·.2)) m).length = m := by unfold colsV; rw [List.length_map, List.length_range]
  obtain ⟨Z2, r2, sm2, dv2⟩ := newCols ts (colsV (rows.map (·.2)) m) ((List.range m).map fun j => rs.map fun r => r.getD j .none) rl' (by rw [k5, cl]) (by rw [List.length_map, List.length_range, cl]) k4 k2 fun j c d e1 e2 => by
    have hj : j < m := by have := (List.getElem?_eq_some_iff.mp e1).1; rw [cl] at this; exact this
    unfold colsV at e1
    rw [List.getElem?_map, List.getElem?_range hj] at e1 e2
    obtain rfl := Option.some.inj e1
    obtain rfl := Option.some.inj e2
    refine dvAll_of (by simp [w2]) fun k v d f1 f2 => ?_
    have f1 : ((rows.map (·.2)).map fun r => r.getD j V.non)[k]? = some v := f1
    have f2 : (rs.map fun r => r.getD j PyData.none)[k]? = some d := f2
    rw [List.getElem?_map, List.getElem?_map] at f1
    rw [List.getElem?_map] at f2
    cases g1 : rows[k]? with
    | none => rw [g1] at f1; cases f1
    | some r =>
    cases g2 : rs[k]? with
    | none => rw [g2] at f2; cases f2
    | some s =>
    rw [g1] at f1
    rw [g2] at f2
    obtain rfl := Option.some.inj f1
    obtain rfl := Option.some.inj f2
    obtain ⟨_, a2⟩ := w3 k r s g1 g2
    have sl : s.length = m := h4 s (List.mem_of_getElem? g2)
    obtain ⟨y, hy, dy⟩ := a2.get (i := j) (d := s[j]'(by omega)) (List.getElem?_eq_getElem _)
    show Dv X.K Z' (r.2.getD j V.non) (s.getD j PyData.none)
    rw [List.getD_eq_getElem?_getD, hy, List.getD_eq_getElem?_getD, List.getElem?_eq_getElem (show j < s.length by omega)]
    exact dy
  have np : (putC H' ts (colsV (rows.map (·.2)) m)) p = none := by rw [putC_off _ _ _ k3]; exact k1
  obtain ⟨r3, sm3, dv3⟩ := r2.newT np dv2
  rw [List.map_map] at dv3
  exact q _ _ _ r3 (sm.trans (sm2.trans sm3)) dv3
end Dx

namespace Dx
open PySem PySem.Spec PyProof.Rows L2
section
variable {c : Cc} {G : Gx} {wf : Nat} {pn : List Nat} {k : Nat}
theorem blt_pe {X : Cx} {N : List Str} (g : Gd G N k X) (hgcd : c.gcd = true → X.mg "gcd" = some (.builtin "math.gcd")) {x : Str} {u : Value} {e : Expr} {es : List Expr} {p pos : Pos} {t : TA} (hu : bltV x = some u) (hx : (bltNames.contains x || (x = "gcd" && c.gcd)) = true) (hg : Gl X x)
    (ha : PA X (e :: es) t) (he : starEach (e :: es) X.env = (false, eval e X.env) :: starEach es X.env) (hpl : (backTo pos (starEach es X.env)).any (·.1) = false) : PE X (.Call (.Name x p) (e :: es) [] pos) (tCB (cAny X u) t) := by
  unfold bltV at hu
  split at hu; · cases hu; subst x; exact pe_callB (call_any X _) hg (g.mg (by decide +kernel)) (by decide +kernel) ha (by decide) (by decide) he hpl
  split at hu; · cases hu; subst x; exact pe_callB (call_any X _) hg (g.mg (by decide +kernel)) (by decide +kernel) ha (by decide) (by decide) he hpl
  split at hu; · cases hu; subst x; exact pe_callTy (call_any X _) hg (g.mg (by decide +kernel)) (by decide +kernel) ha (by decide) (by decide) he hpl
  split at hu; · cases hu; subst x; exact pe_callB (call_any X _) hg (g.mg (by decide +kernel)) (by decide +kernel) ha (by decide) (by decide) he hpl
  split at hu; · cases hu; subst x; exact pe_callB (call_any X _) hg (g.mg (by decide +kernel)) (by decide +kernel) ha (by decide) (by decide) he hpl
  split at hu
  · cases hu; subst x
    have : c.gcd = true := by
      rcases Bool.or_eq_true_iff.mp hx with h | h
      · exact absurd h (by decide +kernel)
      · exact (Bool.and_eq_true_iff.mp h).2
    exact pe_callBfun (call_any X _) hg (hgcd this) ha (by decide) he hpl
  split at hu; · cases hu; subst x; exact pe_callB (call_any X _) hg (g.mg (by decide +kernel)) (by decide +kernel) ha (by decide) (by decide) he hpl
  split at hu; · cases hu; subst x; exact pe_callB (call_any X _) hg (g.mg (by decide +kernel)) (by decide +kernel) ha (by decide) (by decide) he hpl
  split at hu; · cases hu; subst x; exact pe_callB (call_any X _) hg (g.mg (by decide +kernel)) (by decide +kernel) ha (by decide) (by decide) he hpl
  split at hu; · cases hu; subst x; exact pe_callTy (call_any X _) hg (g.mg (by decide +kernel)) (by decide +kernel) ha (by decide) (by decide) he hpl
  split at hu; · cases hu; subst x; exact pe_callB (call_any X _) hg (g.mg (by decide +kernel)) (by decide +kernel) ha (by decide) (by decide) he hpl
  split at hu; · cases hu; subst x; exact pe_callTy (call_any X _) hg (g.mg (by decide +kernel)) (by decide +kernel) ha (by decide) (by decide) he hpl
  cases hu
theorem folded_ok {e : Expr} (env : Env) (h : ∀ a b p, e ≠ .Set a b p) : ∀ x, foldedSetIterable e env x = pure x := by
  intro x
  cases e <;> first | rfl | exact absurd rfl (h _ _ _)
/-- an iterable -/
theorem cI_ok {X : Cx} (g : Gd G c.N k X) {f : Expr → Option I} (hf : ∀ v p, f (.Starred v p) = none) (ok : ∀ e i, f e = some i → Ok X pn G wf e i) {tg e : Expr} {i : I} (h : cE.cI f (isTup tg) X.env.scope e = some i) : DI X pn tg e (sm G pn wf i).i := by
  have plain : ∀ {j : I}, (f e).map I.iv = some j → DI X pn tg e (sm G pn wf j).i := fun {j} h => by
    cases c1 : f e with
    | none => rw [c1] at h; cases h
    | some a => rw [c1] at h; cases h; exact di_iv (ok e a c1).1.1 fun ρ => rfl
  unfold cE.cI at h
  split at h
  case h_2 => exact plain h
  case h_1 x p as q =>
  split at h
  · rename_i hx
    obtain ⟨hx, hg⟩ := Bool.and_eq_true_iff.mp hx
    have hx := of_decide_eq_true hx
    subst hx
    obtain ⟨_, hg⟩ := gl_of hg
    split at h
    · rename_i a
      cases c1 : f a with
      | none => rw [c1] at h; cases h
      | some i1 => rw [c1] at h; cases h; exact di_rng1 hg (g.mg (by decide +kernel)) (ok a i1 c1).1.1 (noStar hf c1 [] X.env) fun ρ => rfl
    · rename_i a b
      cases c1 : f a with
      | none => rw [c1] at h; cases h
      | some i1 =>
        rw [c1] at h
        cases c2 : f b with
        | none => rw [c2] at h; cases h
        | some i2 =>
          rw [c2] at h; cases h
          have s2 := noStar hf c2 [] X.env
          have s1 := noStar hf c1 [b] X.env
          exact di_rng2 hg (g.mg (by decide +kernel)) (ok a i1 c1).1.1 (ok b i2 c2).1.1 (by rw [s1, s2]; rfl) s2 fun ρ => rfl
    · cases h
  split at h
  · rename_i hx
    obtain ⟨hx, hg⟩ := Bool.and_eq_true_iff.mp hx
    have hx := of_decide_eq_true hx
    subst hx
    obtain ⟨_, hg⟩ := gl_of hg
    split at h
    · rename_i a
      split at h
      · rename_i ht
        cases tg <;> first | (cases ht; done) | skip
        cases c1 : f a with
        | none => rw [c1] at h; cases h
        | some i1 => rw [c1] at h; cases h; exact di_enum hg (g.mg (by decide +kernel)) (ok a i1 c1).1.1 (noStar hf c1 [] X.env) fun ρ => rfl
      · cases h
    · cases h
  split at h
  · rename_i hx
    obtain ⟨hx, hg⟩ := Bool.and_eq_true_iff.mp hx
    have hx := of_decide_eq_true hx
    subst hx
    obtain ⟨_, hg⟩ := gl_of hg
    split at h
    · rename_i a b
      split at h
      · rename_i ht
        cases tg <;> first | (cases ht; done) | skip
        cases c1 : f a with
        | none => rw [c1] at h; cases h
        | some i1 =>
          rw [c1] at h
          cases c2 : f b with
          | none => rw [c2] at h; cases h
          | some i2 =>
            rw [c2] at h; cases h
            have s2 := noStar hf c2 [] X.env
            exact di_zip hg (g.mg (by decide +kernel)) (ok a i1 c1).1.1 (ok b i2 c2).1.1 (noStar hf c1 [b] X.env) s2 (by rw [s2]; rfl) fun ρ => rfl
      · cases h
    · cases h
  · exact plain h
/-- what a served comprehension is -/
def LcP (X : Cx) (pn : List Nat) (elt tg iter : Expr) (ifs : List Expr) (scope : Scope) (f : Env1 → Option (R × Env1)) : Prop := ∃ (own : List (Str × Nat)) (vs : List Nat) (fi : Env1 → Option (List PyData × Env1)) (ft : PyData → Env1 → Option Env1) (fc fe : Env1 → Option (R × Env1)),
    DI X pn tg iter fi ∧ BlkOk X.N X.env.scope scope own ∧ own.map (·.2) = vs ∧
    (∀ (s : Shared) (H : Hp) (C : Addr) (cl : List (Str × Addr)) (fp : List Addr), DG (X.blk s H scope (compEnvC scope cl C X.env) fp) pn vs tg ft) ∧
    (∀ (s : Shared) (H : Hp) (C : Addr) (cl : List (Str × Addr)) (fp : List Addr), PTs (X.blk s H scope (compEnvC scope cl C X.env) fp) ifs (tDT X.K pn fc)) ∧
    (∀ (s : Shared) (H : Hp) (C : Addr) (cl : List (Str × Addr)) (fp : List Addr), DE (X.blk s H scope (compEnvC scope cl C X.env) fp) pn elt fe) ∧
    (∀ x, foldedSetIterable iter X.env x = pure x) ∧
    (∀ ρ, f ρ = (do
      let (xs, ρ1) ← fi ρ
      if (vs.all fun v => match ρ1[v]? with | some (some (.own _)) => false | _ => true) then do
        let (acc, ρ2) ← lcG vs ρ1 ft fc fe xs ρ1 []
        some (.frs acc, ρ2)
      else none))
theorem cE_lc {n : Nat} (ihn : ∀ (X : Cx) (e : Expr) (i : I), Gd G c.N k X → (c.gcd = true → X.mg "gcd" = some (.builtin "math.gcd")) → cE c n X.fn X.env.scope e = some i → Ok X pn G wf e i) {X : Cx} {elt tg iter : Expr} {ifs : List Expr} {scope : Scope} {i : I} (g : Gd G c.N k X) (hgcd : c.gcd = true → X.mg "gcd" = some (.builtin "math.gcd"))
    (h : (do
      let it ← cE.cI (cE c n X.fn X.env.scope) (isTup tg) X.env.scope iter
      let fb' := fun x => scope.names.lookup x == some .cell
      let (t, vs) ← cT c.N fb' (relS scope X.env.scope) 20 tg
      let own := vs.map fun i => (c.N.getD i (⟨#[]⟩ : Str), i)
      if blkC c.N X.env.scope scope own then do
        let k ← match ifs with | [] => some (.bl true) | [d] => cE c n fb' (relS scope X.env.scope) d | _ => none
        let x ← cE c n fb' (relS scope X.env.scope) elt
        some (.lc x t it k vs)
      else none) = some i) : LcP X pn elt tg iter ifs scope (sm G pn wf i).e ∧ varI i = none := by
  have ih : ∀ e i, cE c n X.fn X.env.scope e = some i → Ok X pn G wf e i := fun e i h => ihn X e i g hgcd h
  cases c1 : cE.cI (cE c n X.fn X.env.scope) (isTup tg) X.env.scope iter with
  | none => rw [c1] at h; cases h
  | some it =>
  rw [c1] at h
  simp only [Option.bind_eq_bind, Option.bind_some] at h
  cases c2 : cT c.N (fun x => scope.names.lookup x == some .cell) (relS scope X.env.scope) 20 tg with
  | none => rw [c2] at h; cases h
  | some w =>
  obtain ⟨t, vs⟩ := w
  rw [c2] at h
  simp only [Option.bind_some] at h
  split at h
  case isFalse => cases h
  case isTrue hb =>
  have okB : BlkOk X.N X.env.scope scope (vs.map fun i => (c.N.getD i (⟨#[]⟩ : Str), i)) := by rw [g.hN]; exact blkOk_by hb
  have gB : ∀ (s : Shared) (H : Hp) (C : Addr) (cl : List (Str × Addr)) (fp : List Addr), Gd G c.N k (X.blk s H scope (compEnvC scope cl C X.env) fp) := fun s H C cl fp => g.blk s H scope _ fp
  have ihB : ∀ (s : Shared) (H : Hp) (C : Addr) (cl : List (Str × Addr)) (fp : List Addr) (e : Expr) (i : I), cE c n (fun x => scope.names.lookup x == some .cell) (relS scope X.env.scope) e = some i → Ok (X.blk s H scope (compEnvC scope cl C X.env) fp) pn G wf e i :=
    fun s H C cl fp e i h => ihn (X.blk s H scope (compEnvC scope cl C X.env) fp) e i (gB s H C cl fp) hgcd h
  have tB : ∀ (s : Shared) (H : Hp) (C : Addr) (cl : List (Str × Addr)) (fp : List Addr), DG (X.blk s H scope (compEnvC scope cl C X.env) fp) pn vs tg (sm G pn wf t).t := fun s H C cl fp =>
    (cT_ok (X := X.blk s H scope (compEnvC scope cl C X.env) fp) (G := G) (wf := wf) (pn := pn) g.nd' g.calm 20 tg t vs (by rw [← g.hN] at c2; exact c2)).1
  have done : ∀ {kk x : I}, (∀ (s : Shared) (H : Hp) (C : Addr) (cl : List (Str × Addr)) (fp : List Addr), PTs (X.blk s H scope (compEnvC scope cl C X.env) fp) ifs (tDT X.K pn (sm G pn wf kk).e)) →
      cE c n (fun x => scope.names.lookup x == some .cell) (relS scope X.env.scope) elt = some x → LcP X pn elt tg iter ifs scope (sm G pn wf (.lc x t it kk vs)).e ∧ varI (.lc x t it kk vs) = none := fun {kk x} hk hx =>
    ⟨⟨_, _, (sm G pn wf it).i, (sm G pn wf t).t, (sm G pn wf kk).e, (sm G pn wf x).e, cI_ok g cE_star ih c1, okB, (by rw [List.map_map]; exact List.map_id' vs), tB, hk, (fun s H C cl fp => (ihB s H C cl fp elt x hx).1.1),
      (folded_ok X.env fun a b p z => by
        subst z
        unfold cE.cI at c1
        cases n <;> cases c1), fun ρ => rfl⟩, rfl⟩
  cases ifs with
  | nil =>
    simp only [Option.bind_some] at h
    cases c3 : cE c n (fun x => scope.names.lookup x == some .cell) (relS scope X.env.scope) elt with
    | none => rw [c3] at h; cases h
    | some x =>
    rw [c3] at h; cases h
    exact done (fun s H C cl fp => ⟨fun pins s σ H Q I z => by
      obtain ⟨B, Z, ρ, r, ρ', k, hp, rl, e, hk, q⟩ := z
      cases e; cases hk
      exact pts_nil.run pins s σ H Q I (q H Z rl (Same.refl _))⟩) c3
  | cons d r =>
    cases r with
    | cons _ _ => cases h
    | nil =>
      simp only at h
      cases c4 : cE c n (fun x => scope.names.lookup x == some .cell) (relS scope X.env.scope) d with
      | none => rw [c4] at h; cases h
      | some kk =>
      rw [c4] at h
      simp only [Option.bind_some] at h
      cases c3 : cE c n (fun x => scope.names.lookup x == some .cell) (relS scope X.env.scope) elt with
      | none => rw [c3] at h; cases h
      | some x =>
      rw [c3] at h; cases h
      exact done (fun s H C cl fp => pts_one (ihB s H C cl fp d kk c4).1.2) c3
/-- THE EXPRESSIONS -/
theorem kwV_ok {X : Cx} {f : Expr → Option I} (ok : ∀ e i, f e = some i → Ok X pn G wf e i) : ∀ (kws : List Keyword) (i : I), lsG f (kwV kws) = some i → PK X kws (tDA X.K pn [] (sm G pn wf i).a)
  | [], i, h => by
    cases h
    exact pk_imp pk_nil fun σ H Q ⟨B, Z, ρ, as, ρ', hp, rl, e, q⟩ => by
      cases e
      exact q [] H Z rl (Same.refl Z) True.intro
  | ⟨nm, e, p⟩ :: r, i, h => by
    unfold kwV lsG at h
    cases h1 : f e with
    | none => rw [h1] at h; cases h
    | some a =>
    rw [h1] at h
    cases h2 : lsG f (kwV r) with
    | none => rw [h2] at h; cases h
    | some b =>
    rw [h2] at h; cases h
    exact dk_cons (ok e a h1).1.1 (kwV_ok ok r b h2) fun ks ρ => rfl
theorem pmOf_mem {kw : List (Str × List Str × List Nat)} {f : Str} {ks : List Str} {pm : List Nat} (h : pmOf kw f ks = some pm) : (f, ks, pm) ∈ kw := by
  unfold pmOf at h
  cases q : kw.find? fun q => q.1 == f && q.2.1 == ks with
  | none => rw [q] at h; cases h
  | some w =>
    rw [q] at h; cases h
    have h1 := List.find?_some q
    have h2 := List.mem_of_find?_eq_some q
    obtain ⟨h3, h4⟩ := Bool.and_eq_true_iff.mp h1
    obtain ⟨a, b, d⟩ := w
    have e1 : a = f := by simpa using h3
    have e2 : b = ks := by simpa using h4
    subst e1 e2
    exact h2
theorem cE_ok (hkw : c.kw = G.kw) : ∀ (n : Nat) (X : Cx) (e : Expr) (i : I), Gd G c.N k X → (c.gcd = true → X.mg "gcd" = some (.builtin "math.gcd")) → cE c n X.fn X.env.scope e = some i → Ok X pn G wf e i
  | 0, _, _, _, _, _, h => by cases h
  | n + 1, X, e, i, g, hgcd, h => by
    have ih : ∀ e i, cE c n X.fn X.env.scope e = some i → Ok X pn G wf e i := fun e i h => cE_ok hkw n X e i g hgcd h
    have two : ∀ {a b : Expr} {F : I → I → I}, (do let x ← cE c n X.fn X.env.scope a; let y ← cE c n X.fn X.env.scope b; some (F x y)) = some i → ∃ x y, Ok X pn G wf a x ∧ Ok X pn G wf b y ∧ i = F x y := fun {a b F} h => by
      cases c1 : cE c n X.fn X.env.scope a with
      | none => rw [c1] at h; cases h
      | some x =>
      rw [c1] at h
      cases c2 : cE c n X.fn X.env.scope b with
      | none => rw [c2] at h; cases h
      | some y =>
      rw [c2] at h; cases h
      exact ⟨x, y, ih a x c1, ih b y c2, rfl⟩
    have three : ∀ {a b d : Expr} {F : I → I → I → I}, (do let x ← cE c n X.fn X.env.scope a; let y ← cE c n X.fn X.env.scope b; let z ← cE c n X.fn X.env.scope d; some (F x y z)) = some i → ∃ x y z, Ok X pn G wf a x ∧ Ok X pn G wf b y ∧ Ok X pn G wf d z ∧ i = F x y z := fun {a b d F} h => by
      cases c1 : cE c n X.fn X.env.scope a with
      | none => rw [c1] at h; cases h
      | some x =>
      rw [c1] at h
      cases c2 : cE c n X.fn X.env.scope b with
      | none => rw [c2] at h; cases h
      | some y =>
      rw [c2] at h
      cases c3 : cE c n X.fn X.env.scope d with
      | none => rw [c3] at h; cases h
      | some z =>
      rw [c3] at h; cases h
      exact ⟨x, y, z, ih a x c1, ih b y c2, ih d z c3, rfl⟩
    unfold cE at h
    split at h
    · cases h; exact .plain (de_c pe_int (fun Z => .int _) fun ρ => rfl) (fun _ => rfl) rfl
    · cases h; exact .plain (de_c pe_str (fun Z => .str _) fun ρ => rfl) (fun _ => rfl) rfl
    · cases h; exact .plain (de_c pe_bl (fun Z => .bl _) fun ρ => rfl) (fun _ => rfl) rfl
    · cases h; exact .plain (de_c pe_non (fun Z => .non) fun ρ => rfl) (fun _ => rfl) rfl
    · -- a name
      rename_i x p
      split at h
      · rename_i j hj
        split at h
        · rename_i hv
          cases h
          obtain ⟨h1, h2⟩ := vis_of hv
          obtain ⟨d1, d2⟩ := okN_debug h1
          have pv : PE X (.Name x p) (tVar j) := pe_var (by rw [g.hN]; exact ixN?_some hj) h2 d1 d2
          have de : DE X pn (.Name x p) (sm G pn wf (.var j)).e := de_var pv fun ρ => rfl
          exact ⟨⟨de, dt_plain de fun _ => rfl⟩, fun q z => by cases z; exact pv⟩
        · cases h
      · split at h
        · rename_i hv
          cases h
          obtain ⟨h1, _⟩ := Bool.and_eq_true_iff.mp hv
          obtain ⟨h2, h3⟩ := gl_of h1
          refine .plain (?_ : DE X pn (.Name x p) _) (fun _ => rfl) rfl
          cases c1 : G.cons x with
          | none =>
            refine ⟨fun pins s σ H Q I z => ?_⟩
            obtain ⟨B, Z, ρ, r, ρ', _, _, e, _⟩ := z
            have e : (G.cons x).map (fun d => (R.dat d, ρ)) = some (r, ρ') := e
            rw [c1] at e; cases e
          | some d =>
            obtain ⟨v, u, a1, a2, a3⟩ := g.cons x d c1
            exact de_c (pe_glob h3 a1 a2 (okN_debug h2).1) a3 fun ρ => by
              show (G.cons x).map (fun d => (R.dat d, ρ)) = _
              rw [c1]; rfl
        · cases h
    · obtain ⟨x, y, o1, o2, rfl⟩ := two h
      exact .plain (de_bin g o1.1.1 o2.1.1 fun ρ => rfl) (fun _ => rfl) rfl
    · -- not
      rename_i a p
      cases c1 : cE c n X.fn X.env.scope a with
      | none => rw [c1] at h; cases h
      | some x =>
      rw [c1] at h; cases h
      have o := ih a x c1
      refine ⟨⟨PE.imp (pe_notT o.1.1) fun σ H Q ⟨B, Z, ρ, r, ρ', hp, rl, e, q⟩ => ?_, dt_not o.1.2 fun ρ => rfl⟩, fun j z => by cases z⟩
      have e : ((sm G pn wf x).e ρ >>= fun p => truD p.1.d >>= fun kb => some (R.dat (.bool (!kb)), p.2)) = some (r, ρ') := e
      cases c2 : (sm G pn wf x).e ρ with
      | none => rw [c2] at e; cases e
      | some w =>
      obtain ⟨y, ρ1⟩ := w
      rw [c2] at e
      simp only [Option.bind_eq_bind, Option.bind_some] at e
      cases c3 : truD y.d with
      | none => rw [c3] at e; cases e
      | some kb =>
      rw [c3] at e; cases e
      exact tD_d hp rl c2 fun v H1 Z1 rl1 sm1 dv => ⟨kb, tru_D c3 rl1.zh dv, q _ H1 Z1 rl1 sm1 (.bl _)⟩
    · -- -a
      rename_i a p
      cases c1 : cE c n X.fn X.env.scope a with
      | none => rw [c1] at h; cases h
      | some x =>
      rw [c1] at h; cases h
      exact .plain (de_neg (ih a x c1).1.1 fun ρ => rfl) (fun _ => rfl) rfl
    · -- and, or
      rename_i op vs p
      split at h
      · obtain ⟨i1, i2⟩ := boG_ok (pos := p) ih _ i h
        refine ⟨⟨i1, i2.pt⟩, fun j z => ?_⟩
        exfalso
        rename_i a b r
        unfold boG at h
        cases c1 : cE c n X.fn X.env.scope a with
        | none => rw [c1] at h; cases h
        | some x =>
        rw [c1] at h
        cases c2 : boG op (cE c n X.fn X.env.scope) (b :: r) with
        | none => rw [c2] at h; cases h
        | some y =>
        rw [c2] at h
        cases op <;> (cases h; cases z)
      · cases h
    · obtain ⟨x, y, z, o1, o2, o3, rfl⟩ := three h
      exact ⟨de_ite o1.1.2 o2.1 o3.1 fun ρ => rfl, fun j z => by cases z⟩
    · -- one comparison
      split at h
      · cases h
      · rename_i hm
        obtain ⟨x, y, o1, o2, rfl⟩ := two h
        exact ⟨de_cmp g o1.1.1 o1.2 o2.1.1 o2.2 (by simpa using hm) fun ρ => rfl, fun j z => by cases z⟩
    · split at h
      · cases h
      · rename_i hm
        obtain ⟨x, y, z, o1, o2, o3, rfl⟩ := three h
        exact ⟨de_cmp2 g o1.1.1 o2.1.1 o3.1.1 (by simpa using hm) fun ρ => rfl, fun j z => by cases z⟩
    · rename_i es kk p
      cases c1 : lsG (cE c n X.fn X.env.scope) es with
      | none => rw [c1] at h; cases h
      | some x =>
      rw [c1] at h; cases h
      exact .plain (de_tup (lsG_ok cE_star ih es x c1) fun ρ => rfl) (fun _ => rfl) rfl
    · rename_i es p
      cases c1 : lsG (cE c n X.fn X.env.scope) es with
      | none => rw [c1] at h; cases h
      | some x =>
      rw [c1] at h; cases h
      exact .plain (de_lst (lsG_ok cE_star ih es x c1) fun ρ => rfl) (fun _ => rfl) rfl
    · -- a call
      rename_i f p a as pos
      split at h
      case isFalse => cases h
      case isTrue hg =>
      obtain ⟨h1, h2⟩ := gl_of hg
      have hd := (okN_debug h1).1
      have star : ∀ {j : I}, lsG (cE c n X.fn X.env.scope) (a :: as) = some j → starEach (a :: as) X.env = (false, eval a X.env) :: starEach as X.env ∧ (backTo pos (starEach as X.env)).any (·.1) = false := fun {j} hj => by
        unfold lsG at hj
        cases c1 : cE c n X.fn X.env.scope a with
        | none => rw [c1] at hj; cases hj
        | some x =>
        rw [c1] at hj
        cases c2 : lsG (cE c n X.fn X.env.scope) as with
        | none => rw [c2] at hj; cases hj
        | some y => exact ⟨noStar cE_star c1 as X.env, noStars cE_star pos X.env as y c2⟩
      split at h
      · split at h
        · cases c1 : lsG (cE c n X.fn X.env.scope) (a :: as) with
          | none => rw [c1] at h; cases h
          | some x =>
          rw [c1] at h; cases h
          obtain ⟨s1, s2⟩ := star c1
          refine .plain (?_ : DE X pn _ _) (fun _ => rfl) rfl
          cases c2 : G.fns f with
          | none =>
            refine ⟨fun pins s σ H Q I z => ?_⟩
            obtain ⟨B, Z, ρ, r, ρ', _, _, e, _⟩ := z
            simp only [sm] at e
            rw [c2] at e; cases e
          | some gf =>
            refine de_call g c2 (lsG_ok cE_star ih _ x c1) h2 hd s1 s2 fun ρ => ?_
            simp only [sm, c2]
            rfl
        · cases h
      · split at h
        · rename_i hx
          split at h
          · rename_i t p2
            split at h
            · rename_i ht
              cases c1 : cE c n X.fn X.env.scope a with
              | none => rw [c1] at h; cases h
              | some x =>
              rw [c1] at h; cases h
              exact .plain (de_isi g hx h2 (ih a x c1).1.1 (tyN_ok g ht) (noStar cE_star c1 _ X.env) fun ρ => rfl) (fun _ => rfl) rfl
            · cases h
          · rename_i tes kk p2
            cases c0 : tysG X.env.scope tes with
            | none => rw [c0] at h; cases h
            | some l =>
            rw [c0] at h
            simp only [Option.bind_some] at h
            split at h
            case isFalse => cases h
            rename_i hz
            cases c1 : cE c n X.fn X.env.scope a with
            | none => rw [c1] at h; cases h
            | some x =>
            rw [c1] at h; cases h
            exact .plain (de_isiT g hx h2 (ih a x c1).1.1 c0 hz (noStar cE_star c1 _ X.env) fun ρ => rfl) (fun _ => rfl) rfl
          · cases h
        · split at h
          · rename_i hb
            simp only [Bool.and_eq_true, decide_eq_true_eq] at hb
            obtain ⟨⟨hl, ha⟩, he⟩ := hb
            have he : as = [] := List.isEmpty_iff.mp he
            subst he
            subst hl
            unfold rgArg at h ha
            split at h
            · rename_i r p2 b pos2
              split at h
              · rename_i hr
                simp only [Bool.and_eq_true, decide_eq_true_eq] at hr
                obtain ⟨hr1, hr2⟩ := hr
                subst hr1
                obtain ⟨r1, r2⟩ := gl_of hr2
                simp only [Option.bind_some] at h
                cases c1 : cE c n X.fn X.env.scope b with
                | none => rw [c1] at h; cases h
                | some x =>
                rw [c1] at h; cases h
                exact .plain (de_lrg g.calm h2 (g.mg (by decide +kernel)) r2 (g.mg (by decide +kernel)) (ih b x c1).1.1 (noStar cE_star c1 _ X.env) rfl fun ρ => rfl) (fun _ => rfl) rfl
              · cases h
            · cases h
          · split at h
            · rename_i hf
              simp only [Bool.and_eq_true, decide_eq_true_eq, List.isEmpty_iff] at hf
              obtain ⟨⟨hf1, ha⟩, hl⟩ := hf
              subst hf1
              subst hl
              unfold zsArg at h ha
              split at h
              · rename_i r p2 b ps pos2 _hx
                split at h
                · rename_i hr
                  simp only [Bool.and_eq_true, decide_eq_true_eq] at hr
                  obtain ⟨hr1, hr2⟩ := hr
                  subst hr1
                  obtain ⟨r1, r2⟩ := gl_of hr2
                  simp only [Option.bind_some] at h
                  cases c1 : cE c n X.fn X.env.scope b with
                  | none => rw [c1] at h; cases h
                  | some x =>
                  rw [c1] at h; cases h
                  exact .plain (de_tzp g.calm h2 (g.mg (by decide +kernel)) r2 (g.mg (by decide +kernel)) (ih b x c1).1.1 fun ρ => rfl) (fun _ => rfl) rfl
                · cases h
              · cases h
            split at h
            · rename_i hb
              obtain ⟨hb1, hb2⟩ := Bool.and_eq_true_iff.mp hb
              cases c1 : lsG (cE c n X.fn X.env.scope) (a :: as) with
              | none => rw [c1] at h; cases h
              | some x =>
              rw [c1] at h; cases h
              obtain ⟨s1, s2⟩ := star c1
              cases c2 : bltV f with
              | none => rw [c2] at hb1; cases hb1
              | some u =>
              have da := lsG_ok (pn := pn) (G := G) (wf := wf) cE_star ih _ x c1
              have old : Ok X pn G wf (.Call (.Name f p) (a :: as) [] pos) (.blt f x) := .plain (de_blt g c2 (blt_pe g hgcd c2 hb2 h2 (da []) s1 s2) da fun ρ => rfl) (fun _ => rfl) rfl
              unfold pkI
              split
              · rename_i j
                split
                · rename_i hpk
                  unfold lsG at c1
                  cases c3 : cE c n X.fn X.env.scope a with
                  | none => rw [c3] at c1; cases c1
                  | some y =>
                  rw [c3] at c1
                  cases c4 : lsG (cE c n X.fn X.env.scope) as with
                  | none => rw [c4] at c1; cases c1
                  | some z =>
                  rw [c4] at c1
                  simp only [Option.bind_eq_bind, Option.bind_some, Option.some.injEq, I.cons.injEq] at c1
                  obtain ⟨rfl, rfl⟩ := c1
                  have has : as = [] := by
                    cases as with
                    | nil => rfl
                    | cons b bs =>
                      unfold lsG at c4
                      cases c5 : cE c n X.fn X.env.scope b with
                      | none => rw [c5] at c4; cases c4
                      | some w =>
                      rw [c5] at c4
                      cases c6 : lsG (cE c n X.fn X.env.scope) bs with
                      | none => rw [c6] at c4; cases c4
                      | some w' => rw [c6] at c4; cases c4
                  subst has
                  exact .plain (de_pkb g hpk c2 (blt_pe g hgcd c2 hb2 h2 (pa_cons ((ih a _ c3).2 j rfl) pa_nil s1) s1 s2) fun ρ => rfl) (fun _ => rfl) rfl
                · exact old
              · exact old
            · cases h
    · -- a call by keywords alone
      rename_i f p q qs p2
      split at h
      case isFalse => cases h
      rename_i hg
      obtain ⟨h1, h2⟩ := gl_of hg
      have hd := (okN_debug h1).1
      cases c1 : kwN (q :: qs) with
      | none => rw [c1] at h; cases h
      | some ks =>
      rw [c1] at h
      simp only [Option.bind_eq_bind, Option.bind_some] at h
      cases c2 : pmOf c.kw f ks with
      | none => rw [c2] at h; cases h
      | some pm =>
      rw [c2] at h
      simp only [Option.bind_some] at h
      split at h
      · cases h
      · rename_i hpm
        cases c3 : lsG (cE c n X.fn X.env.scope) (kwV (q :: qs)) with
        | none => rw [c3] at h; cases h
        | some x =>
        rw [c3] at h; cases h
        have hne : pm ≠ [] := fun z => hpm (by rw [z]; rfl)
        refine .plain (?_ : DE X pn _ _) (fun _ => rfl) rfl
        cases c4 : G.fns f with
        | none =>
          refine ⟨fun pins s σ H Q I z => ?_⟩
          obtain ⟨B, Z, ρ, r, ρ', _, _, e, _⟩ := z
          simp only [sm] at e
          rw [c4] at e; cases e
        | some gf =>
          refine de_callK g c4 (kwV_ok ih _ x c3) h2 hd c1 (by rw [← hkw]; exact pmOf_mem c2) fun ρ => ?_
          simp only [sm, c4, if_neg hne]
          rfl
    · -- [::-1]
      rename_i a _ _ _ _ _
      cases c1 : cE c n X.fn X.env.scope a with
      | none => rw [c1] at h; cases h
      | some x =>
      rw [c1] at h; cases h
      exact .plain (de_rev (ih a x c1).1.1 fun ρ => rfl) (fun _ => rfl) rfl
    · -- a slice
      rename_i a lo hi _ _
      cases c1 : cE c n X.fn X.env.scope a with
      | none => rw [c1] at h; cases h
      | some x =>
      rw [c1] at h
      cases c2 : optG (cE c n X.fn X.env.scope) lo with
      | none => rw [c2] at h; cases h
      | some y =>
      rw [c2] at h
      cases c3 : optG (cE c n X.fn X.env.scope) hi with
      | none => rw [c3] at h; cases h
      | some z =>
      rw [c3] at h; cases h
      have part : ∀ {o : Option Expr} {j : I}, optG (cE c n X.fn X.env.scope) o = some j → PO X o (tDO X.K pn (if isAbs j then none else some (sm G pn wf j).e)) := fun {o j} h => by
        cases o with
        | none => cases h; exact do_none
        | some e =>
          have h : (do let i ← cE c n X.fn X.env.scope e; if isAbs i then none else some i) = some j := h
          cases c4 : cE c n X.fn X.env.scope e with
          | none => rw [c4] at h; cases h
          | some j' =>
          rw [c4] at h
          simp only [Option.bind_eq_bind, Option.bind_some] at h
          split at h
          · cases h
          · rename_i ha
            cases h
            rw [if_neg ha]; exact do_some (ih e _ c4).1.1
      have o := ih a x c1
      exact .plain (de_slc g o.1.1 o.2 (part c2) (part c3) fun ρ => rfl) (fun _ => rfl) rfl
    · -- a[b]
      rename_i a b p _ _
      split at h
      · cases h
      · rename_i hs
        obtain ⟨x, y, o1, o2, rfl⟩ := two h
        refine .plain (de_idx g o1.1.1 o1.2 o2.1.1 ?_ fun ρ => rfl) (fun _ => rfl) rfl
        intro o i
        cases b <;> first | rfl | exact absurd rfl hs
    · -- a comprehension
      obtain ⟨⟨own, vs, fi, ft, fc, fe, h1, h2, h3, h4, h5, h6, h7, h8⟩, hv⟩ := cE_lc (wf := wf) (fun X e i g hg hh => cE_ok hkw n X e i g hg hh) g hgcd h
      exact .plain (de_lc g.calm g.nd' h1 h2 h3 h4 h5 h6 h7 h8) (fun _ => rfl) hv
    · cases h
theorem cE_lcs (hkw : c.kw = G.kw) {n : Nat} {X : Cx} {elt : Expr} {gs : List Comprehension} {scope : Scope} {p : Pos} {i : I} (g : Gd G c.N k X) (hgcd : c.gcd = true → X.mg "gcd" = some (.builtin "math.gcd"))
    (h : cE c n X.fn X.env.scope (.ListComp elt gs scope p) = some i) : ∃ tg iter ifs, gs = [⟨tg, iter, ifs, 0⟩] ∧ LcP X pn elt tg iter ifs scope (sm G pn wf i).e := by
  cases n with
  | zero => cases h
  | succ n =>
  match gs, h with
  | [], h => cases h
  | ⟨_, _, _, .ofNat 0⟩ :: _ :: _, h => cases h
  | ⟨_, _, _, .ofNat (_ + 1)⟩ :: _ :: _, h => cases h
  | ⟨_, _, _, .negSucc _⟩ :: _ :: _, h => cases h
  | [⟨tg, iter, ifs, .ofNat 0⟩], h => exact ⟨tg, iter, ifs, rfl, (cE_lc (fun X e i g hg hh => cE_ok hkw n X e i g hg hh) g hgcd h).1⟩
  | [⟨tg, iter, ifs, .ofNat (m + 1)⟩], h => cases h
  | [⟨tg, iter, ifs, .negSucc m⟩], h => cases h
end
end Dx

namespace Dx
open PySem PySem.Spec PyProof.Rows L2
def isStar : Expr → Bool
  | .Starred .. => true
  | _ => false
theorem block_fn {env : Env} (h : env.scope.kind = .function) : env.blockKind = .function := by
  unfold Env.blockKind; rw [h]; rfl
theorem dd2 {x y : Str} (h : (y == x) = false) : [x, y].eraseDups = [x, y] := by
  rw [List.eraseDups_cons]
  have : [y].filter (fun b => !b == x) = [y] := by simp [h]
  rw [this]; rfl
theorem dd3 {x y z : Str} (h : (y == x) = false) (h1 : (z == x) = false) (h2 : (z == y) = false) : [x, y, z].eraseDups = [x, y, z] := by
  rw [List.eraseDups_cons]
  have : [y, z].filter (fun b => !b == x) = [y, z] := by simp [h, h1]
  rw [this, dd2 h2]
theorem sw2 {env : Env} {x y : Str} {px py pt pt2 : Pos} {kt k2 : Nat} {a b : Expr} (hk : env.scope.kind = .function) (hx : env.scope.names.lookup x = some .local) (hy : env.scope.names.lookup y = some .local) (hl : (py.line == px.line) = true) (hne : (y == x) = false)
    (ha : isStar a = false) (hb : isStar b = false) (hf : [a, b].all (foldedForSure 8) = false) (hc : [a, b].all (constantsAlone 8) = false) :
    swappedStores [.Tuple [.Name x px, .Name y py] kt pt] (.Tuple [a, b] k2 pt2) env = pure (some [x, y]) := by
  have kx : env.kindOf x = some .local := hx
  have ky : env.kindOf y = some .local := hy
  have hb := block_fn hk
  have hl' : py.line = px.line := by simpa using hl
  unfold swappedStores
  simp only [hf, hc, hb, kx, ky, List.length_cons, List.length_nil, List.head?_cons, Option.map_some, Option.getD_some, Expr.pos, List.filterMap_cons, List.filterMap_nil, hl']
  simp only [beq_self_eq_true, Bool.and_self, Bool.true_and, if_true, dd2 hne]
  simp
  rintro (h | h)
  · have h : isStar a = true := h
    simp_all
  · have h : isStar b = true := h
    simp_all
theorem sw3 {env : Env} {x y z : Str} {px py pz pt pt2 : Pos} {kt k2 : Nat} {a b c : Expr} (hk : env.scope.kind = .function) (hx : env.scope.names.lookup x = some .local) (hy : env.scope.names.lookup y = some .local) (hz : env.scope.names.lookup z = some .local) (hl : (py.line == px.line) = true) (hl2 : (pz.line == px.line) = true)
    (hne : (y == x) = false) (hne1 : (z == x) = false) (hne2 : (z == y) = false)
    (ha : isStar a = false) (hb : isStar b = false) (hcs : isStar c = false) (hf : [a, b, c].all (foldedForSure 8) = false) (hc : [a, b, c].all (constantsAlone 8) = false) :
    swappedStores [.Tuple [.Name x px, .Name y py, .Name z pz] kt pt] (.Tuple [a, b, c] k2 pt2) env = pure (some [x, y, z]) := by
  have kx : env.kindOf x = some .local := hx
  have ky : env.kindOf y = some .local := hy
  have kz : env.kindOf z = some .local := hz
  have hb := block_fn hk
  have hl' : py.line = px.line := by simpa using hl
  have hl2' : pz.line = px.line := by simpa using hl2
  unfold swappedStores
  simp only [hf, hc, hb, kx, ky, kz, List.length_cons, List.length_nil, List.head?_cons, Option.map_some, Option.getD_some, Expr.pos, List.filterMap_cons, List.filterMap_nil, hl', hl2']
  simp only [beq_self_eq_true, Bool.and_self, Bool.true_and, if_true, dd3 hne hne1 hne2]
  simp
  rintro (h | h | h)
  · have h : isStar a = true := h
    simp_all
  · have h : isStar b = true := h
    simp_all
  · have h : isStar c = true := h
    simp_all
/-- the pair is made and taken apart -/
theorem swN {env : Env} {ts vs : List Expr} {kt k2 : Nat} {pt pt2 : Pos} (h : (decide (vs.length ≠ ts.length) || !(decide (ts.length = 2) || decide (ts.length = 3)) || vs.all (foldedForSure 8)) = true) : swappedStores [.Tuple ts kt pt] (.Tuple vs k2 pt2) env = pure none := by
  unfold swappedStores
  simp only
  rcases Bool.or_eq_true_iff.mp h with h | h
  · rw [if_pos]
    rcases Bool.or_eq_true_iff.mp h with h | h
    · have h := of_decide_eq_true h
      simp [h]
    · simp at h
      simp [h]
  · simp only [h, if_true]
    split
    · rfl
    · split
      · rfl
      · split <;> rfl
theorem swT {env : Env} {t e : Expr} (h : (match e with | .Tuple .. => true | _ => false) = false) : swappedStores [t] e env = pure none := by
  cases e <;> first | (cases t <;> rfl) | cases h
/-- a name that is not swapped -/
def swNm (sc : Scope) (l : Nat) : Expr → Bool
  | .Name x p => sc.names.lookup x == some .local && p.line == l
  | _ => false
def swOff (sc : Scope) (ts : List Expr) : Bool := !ts.all (swNm sc ((ts.head?.map (·.pos.line)).getD 0))
theorem swO {env : Env} {ts vs : List Expr} {kt k2 : Nat} {pt pt2 : Pos} (h : swOff env.scope ts = true) : swappedStores [.Tuple ts kt pt] (.Tuple vs k2 pt2) env = pure none := by
  unfold swappedStores
  simp only
  split
  · rfl
  · split
    · rfl
    · rename_i h1 h2
      rw [if_pos]
      · refine Bool.or_eq_true_iff.mpr (.inl (bne_iff_ne.mpr fun z => ?_))
        have z := List.filterMap_length_eq_length.mp z
        unfold swOff at h
        have : (ts.all (swNm env.scope ((ts.head?.map (·.pos.line)).getD 0))) = true := List.all_eq_true.mpr fun t ht => by
          have z := z t ht
          cases t <;> first | (cases z; done) | skip
          rename_i id pos
          have z : (if env.kindOf id == some .local && pos.line == (ts.head?.map (·.pos.line)).getD 0 then some id else none).isSome = true := z
          split at z
          · rename_i q; exact q
          · cases z
        rw [this] at h; cases h
theorem swS {env : Env} {t e : Expr} (h : (match t with | .Tuple .. => true | .List .. => true | _ => false) = false) : swappedStores [t] e env = pure none := by
  cases t <;> first | (cases e <;> rfl) | cases h
def noComp : Expr → Bool
  | .ListComp .. => false
  | .SetComp .. => false
  | .DictComp .. => false
  | _ => true
theorem sw_no {env : Env} {e : Expr} {t : Option Expr} {l : Nat} (h : noComp e = true) : swapsWith e t l env = pure false := by
  cases e <;> first | rfl | cases h
theorem sws_tup {env : Env} {e : Expr} {ts : List Expr} {kt : Nat} {pt : Pos} {l : Nat} : swapsWithSole [.Tuple ts kt pt] e l env = pure false := by
  cases e <;> rfl
theorem sws_no {env : Env} {e t : Expr} {l : Nat} (h : noComp e = true) : swapsWithSole [t] e l env = pure false := sw_no h

/-! ## Statements to trees -/
def fb1 : Str → Bool := fun _ => true
def isFn (sc : Scope) : Bool := match sc.kind with | .function => true | _ => false
theorem isFn_eq {sc : Scope} (h : isFn sc = true) : sc.kind = .function := by
  unfold isFn at h
  split at h
  · assumption
  · cases h
def lclB (sc : Scope) (x : Str) : Bool := sc.names.lookup x == some .local
/-- a name's slot -/
def slotOf (c : Cc) (sc : Scope) (x : Str) : Option Nat := do let i ← ixN? c.N x; if locB fb1 sc x && okN x then some i else none
/-- a name that is read and written -/
def visOf (c : Cc) (sc : Scope) (x : Str) : Option Nat := do let i ← ixN? c.N x; if visB sc x then some i else none
def swB (sc : Scope) (x : Str) (px q : Pos) (scope : Scope) : Bool := isFn sc && lclB sc x && (px.line == q.line) && !(scope.names.any fun (n, k) => n == x && (k == .local || k == .cell))
def setOk (sc : Scope) (e : Expr) : Bool := noComp e || (match e with | .ListComp _ _ _ _ => isFn sc | _ => false)
theorem sw_off {env : Env} {elt : Expr} {gs : List Comprehension} {scope : Scope} {q px : Pos} {x : Str} {l : Nat} (hk : env.scope.kind = .function) (h : swB env.scope x px q scope = false) : swapsWith (.ListComp elt gs scope q) (some (.Name x px)) l env = pure false := by
  have hb := block_fn hk
  have e : (env.blockKind == .function && env.kindOf x == some .local && px.line == q.line && !(scope.names.any fun (n, k) => n == x && (k == .local || k == .cell))) = false := by
    unfold swB isFn at h
    rw [hk] at h
    rw [hb]
    exact h
  show pure (env.blockKind == .function && env.kindOf x == some .local && px.line == q.line && !(scope.names.any fun (n, k) => n == x && (k == .local || k == .cell))) = pure false
  rw [e]
/-- name = e -/
def cSet (c : Cc) (m : Nat) (sc : Scope) (x : Str) (px : Pos) (e : Expr) (p : Pos) : Option I := do
  let i ← slotOf c sc x
  let y ← cE c m fb1 sc e
  if setOk sc e then
    some (if c.mv.contains i then .sown i y else .sset i y)
  else none
/-- a, b = x, y at once -/
def cPar (c : Cc) (m : Nat) (sc : Scope) : List Expr → List Expr → Option I
  | [.Name x px, .Name y py], [a, b] => do
    let i ← slotOf c sc x
    let j ← slotOf c sc y
    if isFn sc && lclB sc x && lclB sc y && (py.line == px.line) && !(y == x) && !([a, b].all (foldedForSure 8)) && !([a, b].all (constantsAlone 8)) then do
      let as ← lsG (cE c m fb1 sc) [a, b]
      some (.spar [(i, c.mv.contains i), (j, c.mv.contains j)] as)
    else none
  | [.Name x px, .Name y py, .Name z pz], [a, b, d] => do
    let i ← slotOf c sc x
    let j ← slotOf c sc y
    let l ← slotOf c sc z
    if isFn sc && lclB sc x && lclB sc y && lclB sc z && (py.line == px.line) && (pz.line == px.line) && !(y == x) && !(z == x) && !(z == y) && !([a, b, d].all (foldedForSure 8)) && !([a, b, d].all (constantsAlone 8)) then do
      let as ← lsG (cE c m fb1 sc) [a, b, d]
      some (.spar [(i, c.mv.contains i), (j, c.mv.contains j), (l, c.mv.contains l)] as)
    else none
  | _, _ => none
/-- a, b = x, y by a tuple, one of the slots an own list -/
def cParU (c : Cc) (m : Nat) (sc : Scope) : List Expr → List Expr → Option I
  | [.Name x _, .Name y _], [a, b] => do
    let i ← slotOf c sc x
    let j ← slotOf c sc y
    let as ← lsG (cE c m fb1 sc) [a, b]
    some (.spar [(i, c.mv.contains i), (j, c.mv.contains j)] as)
  | _, _ => none
def ownT (c : Cc) (sc : Scope) (ts : List Expr) : Bool := ts.any fun t => match t with
  | .Name x _ => match slotOf c sc x with
    | some i => c.mv.contains i
    | none => false
  | _ => false
/-- a target tuple, taken apart -/
def cUnp (c : Cc) (m : Nat) (sc : Scope) (t e : Expr) : Option I := do
  let tg ← cT c.N fb1 sc m t
  let y ← cE c m fb1 sc e
  some (.stg tg.1 y)
def cStm (c : Cc) (m : Nat) (sc : Scope) : Stmt → Option I
  | .Pass _ => some .snil
  | .Raise _ _ _ => some .sno
  | .Return none _ => some (.sret .non)
  | .Return (some (.Name x p)) _ => match visOf c sc x with
    | some i => some (.sretv i)
    | none => (cE c m fb1 sc (.Name x p)).map .sret
  | .Return (some e) _ => (cE c m fb1 sc e).map .sret
  | .Expr (.Constant (.str _) _ _) _ => some .snil
  | .Expr (.Call (.Attribute (.Name x _) mth pa) [] [] pc) _ => do
    let i ← visOf c sc x
    if pa.endLine == pc.line then
      if mth = "pop" then some (.spop i) else none
    else none
  | .Expr (.Call (.Attribute (.Name x _) mth pa) [a] [] pc) _ => do
    let i ← visOf c sc x
    let y ← cE c m fb1 sc a
    if pa.endLine == pc.line then
      if mth = "append" then some (.sapp i y) else if mth = "extend" then some (.sext i y) else none
    else none
  | .Expr e _ => if noComp e then (cE c m fb1 sc e).map .sexp else none
  | .Assign [.Name x px] e p => cSet c m sc x px e p
  | .Assign [.Tuple ts kt pt] (.Tuple vs k2 p2) _ =>
    if (decide (vs.length ≠ ts.length) || !(decide (ts.length = 2) || decide (ts.length = 3)) || vs.all (foldedForSure 8)) = true then cUnp c m sc (.Tuple ts kt pt) (.Tuple vs k2 p2) else if swOff sc ts then (if ownT c sc ts then cParU c m sc ts vs else cUnp c m sc (.Tuple ts kt pt) (.Tuple vs k2 p2)) else cPar c m sc ts vs
  | .Assign [.Tuple [.Subscript (.Name x _) k _, .Name y _] _ _] (.Call (.Name d _) [a, b] [] _) _ =>
    if d = "divmod" && glB sc d && !isSlice k then do
      let i ← visOf c sc x
      let j ← slotOf c sc y
      let q ← cE c m fb1 sc k
      let u ← cE c m fb1 sc a
      let v ← cE c m fb1 sc b
      some (.sdm i q j u v)
    else none
  | .Assign [.Tuple ts kt pt] e _ => if !isTup e then cUnp c m sc (.Tuple ts kt pt) e else none
  | .Assign [.Subscript (.Name x _) k _] e _ => if noComp e && !isSlice k then do
      let i ← visOf c sc x
      let q ← cE c m fb1 sc k
      let y ← cE c m fb1 sc e
      some (.sidx i q y)
    else none
  | _ => none
def stG (f : Stmt → Option I) : List Stmt → Option I
  | [] => some .snil
  | s :: r => do let a ← f s; let b ← stG f r; some (.scons a b)
def fgOf (c : Cc) (p : Pos) (i : I) : I := match c.fg.lookup p.line with
  | some vs => .sfg vs i
  | none => i
def borI : List Nat → I → I
  | [], i => i
  | v :: vs, i => .bor v (borI vs i)
def brOf (c : Cc) (p : Pos) (i : I) : I := match c.br.lookup p.line with
  | some vs => borI vs i
  | none => i
def cS (c : Cc) (m : Nat) (sc : Scope) : Nat → Stmt → Option I
  | 0, _ => none
  | n + 1, s => match s with
    | .If t as bs p => do
      let x ← cE c m fb1 sc t
      let a ← stG (cS c m sc n) as
      let b ← stG (cS c m sc n) bs
      some (.sif (brOf c p x) a b)
    | .For tg it body [] p => do
      let t ← cT c.N fb1 sc m tg
      let i ← cE.cI (cE c m fb1 sc) (isTup tg) sc it
      let b ← stG (cS c m sc n) body
      some (fgOf c p (.sfor t.1 i (fgOf c p b)))
    | .While t body [] p => do
      let x ← cE c m fb1 sc t
      let b ← stG (cS c m sc n) body
      some (fgOf c p (.swh x (fgOf c p b)))
    | s => cStm c m sc s

/-! ### what they mean -/
section
variable {c : Cc} {G : Gx} {wf : Nat} {pn : List Nat} {k : Nat} {X : Cx}
structure Fx (c : Cc) (G : Gx) (k : Nat) (X : Cx) : Prop where
  g : Gd G c.N k X
  gcd : c.gcd = true → X.mg "gcd" = some (.builtin "math.gcd")
  fn : X.fn = fb1
  kw : c.kw = G.kw
theorem Fx.e (F : Fx c G k X) {m : Nat} {e : Expr} {i : I} (h : cE c m fb1 X.env.scope e = some i) : Ok X pn G wf e i := cE_ok F.kw m X e i F.g F.gcd (by rw [F.fn]; exact h)
theorem Fx.t (F : Fx c G k X) {m : Nat} {e : Expr} {i : I × List Nat} (h : cT c.N fb1 X.env.scope m e = some i) : DG X pn i.2 e (sm G pn wf i.1).t ∧ (∀ es, (assignEach (e :: es) X.env) = (false, assign e X.env) :: assignEach es X.env) :=
  cT_ok F.g.nd' F.g.calm m e i.1 i.2 (by rw [F.fn, F.g.hN]; exact h)
theorem slotOf_ok (F : Fx c G k X) {x : Str} {i : Nat} (h : slotOf c X.env.scope x = some i) : X.N[i]? = some x ∧ Loc X.env.scope x ∧ (X.fn x = true ∨ X.env.scope.names.lookup x = some .local) := by
  unfold slotOf at h
  cases q : ixN? c.N x with
  | none => rw [q] at h; cases h
  | some j =>
    rw [q] at h
    simp only [Option.bind_eq_bind, Option.bind_some] at h
    split at h
    · rename_i hb
      cases h
      have := loc_of (Bool.and_eq_true_iff.mp hb).1
      exact ⟨by rw [F.g.hN]; exact ixN?_some q, this.1, .inl (by rw [F.fn]; rfl)⟩
    · cases h
theorem visOf_ok (F : Fx c G k X) {x : Str} {i : Nat} (h : visOf c X.env.scope x = some i) (p : Pos) : PE X (.Name x p) (tVar i) := by
  unfold visOf at h
  cases q : ixN? c.N x with
  | none => rw [q] at h; cases h
  | some j =>
    rw [q] at h
    simp only [Option.bind_eq_bind, Option.bind_some] at h
    split at h
    · rename_i hb
      cases h
      obtain ⟨h1, h2⟩ := vis_of hb
      obtain ⟨d1, d2⟩ := okN_debug h1
      exact pe_var (by rw [F.g.hN]; exact ixN?_some q) h2 d1 d2
    · cases h
theorem cSet_ok (F : Fx c G k X) {m : Nat} {x : Str} {px p : Pos} {e : Expr} {i : I} (h : cSet c m X.env.scope x px e p = some i) : DS X pn (.Assign [.Name x px] e p) (sm G pn wf i).s := by
  unfold cSet at h
  cases h1 : slotOf c X.env.scope x with
  | none => rw [h1] at h; cases h
  | some j =>
  rw [h1] at h
  simp only [Option.bind_eq_bind, Option.bind_some] at h
  cases h2 : cE c m fb1 X.env.scope e with
  | none => rw [h2] at h; cases h
  | some y =>
  rw [h2] at h
  simp only [Option.bind_some] at h
  split at h
  case isFalse => cases h
  rename_i hb
  obtain ⟨g1, g2, g3⟩ := slotOf_ok F h1
  have hA : PS X (.Assign [.Name x px] e p) (tAsg (tD X.K pn (sm G pn wf y).e) (gName j)) := by
    unfold setOk at hb
    rcases Bool.or_eq_true_iff.mp hb with hb | hb
    · exact ps_set F.g.nd' g1 g2 (F.e h2).1.1 (sw_no hb) g3
    · split at hb
      · rename_i elt gs scope q _
        by_cases hsw : swB X.env.scope x px q scope = true
        case neg => exact ps_set F.g.nd' g1 g2 (F.e h2).1.1 (sw_off (isFn_eq hb) (by simpa using hsw)) g3
        have hb := hsw
        unfold swB at hb
        simp only [Bool.and_eq_true, Bool.not_eq_true'] at hb
        obtain ⟨⟨⟨b1, b2⟩, b3⟩, b4⟩ := hb
        have b2 : X.env.scope.names.lookup x = some .local := by simpa [lclB] using b2
        obtain ⟨tg, iter, ifs, rfl, own, vs, fi, ft, fc, fe, p1, p2, p3, p4, p5, p6, p7, p8⟩ := cE_lcs (wf := wf) (pn := pn) F.kw (X := X) F.g F.gcd (by rw [F.fn]; exact h2)
        exact set_lc g1 b2 (sw_true (isFn_eq b1) b2 b3 b4) F.g.calm F.g.nd' p1 p2 p3 p4 p5 p6 p7 p8
      · cases hb
  cases h
  by_cases hm : c.mv.contains j = true
  · rw [if_pos hm]; exact ds_own hA fun ρ => rfl
  · rw [if_neg hm]; exact ds_set hA fun ρ => rfl
end
end Dx

namespace Dx
open PySem PySem.Spec PyProof.Rows L2
section
variable {c : Cc} {G : Gx} {wf : Nat} {pn : List Nat} {k : Nat} {X : Cx}
theorem notStar {m : Nat} {fb : Str → Bool} {sc : Scope} {e : Expr} {i : I} (h : cE c m fb sc e = some i) : isStar e = false := by
  cases e <;> first
    | rfl
    | (rw [cE_star] at h; cases h)
theorem lsG_mem {f : Expr → Option I} : ∀ {es : List Expr} {i : I}, lsG f es = some i → ∀ e ∈ es, ∃ j, f e = some j
  | [], _, _, _, h => by cases h
  | a :: es, i, h, e, he => by
    unfold lsG at h
    cases h1 : f a with
    | none => rw [h1] at h; cases h
    | some x =>
    rw [h1] at h
    cases h2 : lsG f es with
    | none => rw [h2] at h; cases h
    | some y =>
    rcases List.mem_cons.mp he with rfl | he
    · exact ⟨x, h1⟩
    · exact lsG_mem h2 e he
theorem lcl_eq {sc : Scope} {x : Str} (h : lclB sc x = true) : sc.names.lookup x = some .local := by simpa [lclB] using h
theorem nd_ix {N : List Str} {x y : Str} {i j : Nat} (hi : N[i]? = some x) (hj : N[j]? = some y) (h : (y == x) = false) : i ≠ j := fun e => by
  subst e
  rw [hi] at hj; cases hj
  simp at h
theorem cParU_ok (F : Fx c G k X) {m : Nat} {ts vs : List Expr} {kt k2 : Nat} {pt p2 pos : Pos} {i : I} (hw : swappedStores [.Tuple ts kt pt] (.Tuple vs k2 p2) X.env = pure none) (h : cParU c m X.env.scope ts vs = some i) : DS X pn (.Assign [.Tuple ts kt pt] (.Tuple vs k2 p2) pos) (sm G pn wf i).s := by
  unfold cParU at h
  split at h
  · rename_i x px y py a b
    cases h1 : slotOf c X.env.scope x with
    | none => rw [h1] at h; cases h
    | some i =>
    rw [h1] at h
    cases h2 : slotOf c X.env.scope y with
    | none => rw [h2] at h; cases h
    | some j =>
    rw [h2] at h
    simp only [Option.bind_eq_bind, Option.bind_some] at h
    cases h3 : lsG (cE c m fb1 X.env.scope) [a, b] with
    | none => rw [h3] at h; cases h
    | some as =>
    rw [h3] at h; cases h
    obtain ⟨g1, g2, g3⟩ := slotOf_ok F h1
    obtain ⟨f1, f2, f3⟩ := slotOf_ok F h2
    exact ds_unp2 F.g g1 g2 g3 f1 f2 f3 hw (lsG_ok cE_star (fun e i h => F.e h) _ _ h3) fun ρ => rfl
  · cases h
theorem cPar_ok (F : Fx c G k X) {m : Nat} {ts vs : List Expr} {kt k2 : Nat} {pt p2 pos : Pos} {i : I} (h : cPar c m X.env.scope ts vs = some i) : DS X pn (.Assign [.Tuple ts kt pt] (.Tuple vs k2 p2) pos) (sm G pn wf i).s := by
  unfold cPar at h
  split at h
  · rename_i x px y py a b
    cases h1 : slotOf c X.env.scope x with
    | none => rw [h1] at h; cases h
    | some i =>
    rw [h1] at h
    cases h2 : slotOf c X.env.scope y with
    | none => rw [h2] at h; cases h
    | some j =>
    rw [h2] at h
    simp only [Option.bind_eq_bind, Option.bind_some] at h
    split at h
    case isFalse => cases h
    rename_i hb
    cases h3 : lsG (cE c m fb1 X.env.scope) [a, b] with
    | none => rw [h3] at h; cases h
    | some as =>
    rw [h3] at h; cases h
    simp only [Bool.and_eq_true, Bool.not_eq_true'] at hb
    obtain ⟨⟨⟨⟨⟨⟨b1, b2⟩, b3⟩, b4⟩, b5⟩, b6⟩, b7⟩ := hb
    obtain ⟨u1, u2⟩ := lsG_mem h3 a (by simp)
    obtain ⟨v1, v2⟩ := lsG_mem h3 b (by simp)
    obtain ⟨g1, _, _⟩ := slotOf_ok F h1
    obtain ⟨f1, _, _⟩ := slotOf_ok F h2
    exact ds_par2 F.g.calm F.g.nd' g1 f1 (nd_ix g1 f1 b5) (lcl_eq b2) (lcl_eq b3) (sw2 (kt := kt) (k2 := k2) (pt := pt) (pt2 := p2) (isFn_eq b1) (lcl_eq b2) (lcl_eq b3) b4 b5 (notStar u2) (notStar v2) b6 b7) (lsG_ok cE_star (fun e i h => F.e h) _ _ h3) fun ρ => rfl
  · rename_i x px y py z pz a b d
    cases h1 : slotOf c X.env.scope x with
    | none => rw [h1] at h; cases h
    | some i =>
    rw [h1] at h
    cases h2 : slotOf c X.env.scope y with
    | none => rw [h2] at h; cases h
    | some j =>
    rw [h2] at h
    cases h4 : slotOf c X.env.scope z with
    | none => rw [h4] at h; cases h
    | some l =>
    rw [h4] at h
    simp only [Option.bind_eq_bind, Option.bind_some] at h
    split at h
    case isFalse => cases h
    rename_i hb
    cases h3 : lsG (cE c m fb1 X.env.scope) [a, b, d] with
    | none => rw [h3] at h; cases h
    | some as =>
    rw [h3] at h; cases h
    simp only [Bool.and_eq_true, Bool.not_eq_true'] at hb
    obtain ⟨⟨⟨⟨⟨⟨⟨⟨⟨⟨b1, b2⟩, b3⟩, b4⟩, b5⟩, b6⟩, b7⟩, b8⟩, b9⟩, b10⟩, b11⟩ := hb
    obtain ⟨u1, u2⟩ := lsG_mem h3 a (by simp)
    obtain ⟨v1, v2⟩ := lsG_mem h3 b (by simp)
    obtain ⟨w1, w2⟩ := lsG_mem h3 d (by simp)
    obtain ⟨g1, _, _⟩ := slotOf_ok F h1
    obtain ⟨f1, _, _⟩ := slotOf_ok F h2
    obtain ⟨e1, _, _⟩ := slotOf_ok F h4
    exact ds_par3 F.g.calm F.g.nd' g1 f1 e1 (nd_ix g1 f1 b7) (nd_ix g1 e1 b8) (nd_ix f1 e1 b9) (lcl_eq b2) (lcl_eq b3) (lcl_eq b4)
      (sw3 (kt := kt) (k2 := k2) (pt := pt) (pt2 := p2) (isFn_eq b1) (lcl_eq b2) (lcl_eq b3) (lcl_eq b4) b5 b6 b7 b8 b9 (notStar u2) (notStar v2) (notStar w2) b10 b11) (lsG_ok cE_star (fun e i h => F.e h) _ _ h3) fun ρ => rfl
  · cases h
theorem cUnp_ok (F : Fx c G k X) {m : Nat} {t e : Expr} {pos : Pos} {i : I} (hs : swapsWithSole [t] e pos.line X.env = pure false) (hw : swappedStores [t] e X.env = pure none) (h : cUnp c m X.env.scope t e = some i) : DS X pn (.Assign [t] e pos) (sm G pn wf i).s := by
  unfold cUnp at h
  cases h1 : cT c.N fb1 X.env.scope m t with
  | none => rw [h1] at h; cases h
  | some tg =>
  rw [h1] at h
  cases h2 : cE c m fb1 X.env.scope e with
  | none => rw [h2] at h; cases h
  | some y =>
  rw [h2] at h; cases h
  obtain ⟨g1, g2⟩ := F.t (wf := wf) (pn := pn) h1
  exact ds_tg (F.e h2).1.1 g1 hs hw (by rw [g2 []]; rfl) fun ρ => rfl
theorem asg_sub {x k : Expr} {pt : Pos} {env : Env} (hk : isSlice k = false) (v : Value) : assign (.Subscript x k pt) env v = (do
      let ov ← holding [v] (eval x env)
      let iv ← holding [v, ov] (eval k env)
      standAt pt
      holding [v, ov, iv] (setItem ov iv v)
      release [v, ov, iv] []) := by
  cases k <;> first | rfl | cases hk
theorem cStm_ok (F : Fx c G k X) {m : Nat} {s : Stmt} {i : I} (h : cStm c m X.env.scope s = some i) : DS X pn s (sm G pn wf i).s := by
  unfold cStm at h
  split at h
  · cases h; exact ds_pass fun ρ => rfl
  · cases h; exact ds_never fun ρ => rfl
  · cases h; exact ds_retN fun ρ => rfl
  · rename_i x p q
    cases h1 : visOf c X.env.scope x with
    | some j => rw [h1] at h; cases h; exact ds_retv (visOf_ok F h1 p) fun ρ => rfl
    | none =>
      rw [h1] at h
      cases h2 : cE c m fb1 X.env.scope (.Name x p) with
      | none => rw [h2] at h; cases h
      | some y => rw [h2] at h; cases h; exact ds_ret (F.e h2).1.1 fun ρ => rfl
  · rename_i e q _
    cases h2 : cE c m fb1 X.env.scope e with
    | none => rw [h2] at h; cases h
    | some y => rw [h2] at h; cases h; exact ds_ret (F.e h2).1.1 fun ρ => rfl
  · cases h; exact ds_doc fun ρ => rfl
  · rename_i x px mth pa pc q
    cases h1 : visOf c X.env.scope x with
    | none => rw [h1] at h; cases h
    | some j =>
    rw [h1] at h
    simp only [Option.bind_eq_bind, Option.bind_some] at h
    split at h
    case isFalse => cases h
    rename_i hl
    split at h
    · rename_i hm; subst hm; cases h
      exact ds_pop (visOf_ok F h1 px) hl (fun ρ => rfl) rfl
    · cases h
  · rename_i x px mth pa a pc q
    cases h1 : visOf c X.env.scope x with
    | none => rw [h1] at h; cases h
    | some j =>
    rw [h1] at h
    cases h2 : cE c m fb1 X.env.scope a with
    | none => rw [h2] at h; cases h
    | some y =>
    rw [h2] at h
    simp only [Option.bind_eq_bind, Option.bind_some] at h
    split at h
    case isFalse => cases h
    rename_i hl
    split at h
    · rename_i hm; subst hm; cases h
      exact ds_app (visOf_ok F h1 px) (F.e h2).1.1 (noStar cE_star h2 [] X.env) hl (fun ρ => rfl) rfl
    · split at h
      · rename_i hm; subst hm; cases h
        exact ds_ext (visOf_ok F h1 px) (F.e h2).1.1 (noStar cE_star h2 [] X.env) hl (fun ρ => rfl) rfl
      · cases h
  · rename_i e q _ _ _
    split at h
    case isFalse => cases h
    rename_i hn
    cases h2 : cE c m fb1 X.env.scope e with
    | none => rw [h2] at h; cases h
    | some y => rw [h2] at h; cases h; exact ds_exp (F.e h2).1.1 (sw_no hn) fun ρ => rfl
  · exact cSet_ok F h
  · rename_i ts kt pt vs k2 p2 q
    split at h
    · rename_i hb
      exact cUnp_ok F (sws_no rfl) (swN hb) h
    · split at h
      · rename_i hb2
        split at h
        · exact cParU_ok F (swO hb2) h
        · exact cUnp_ok F (sws_no rfl) (swO hb2) h
      · exact cPar_ok F h
  · rename_i x px kk pk y py kt pt d pd a b pc q
    split at h
    case isFalse => cases h
    rename_i hb
    simp only [Bool.and_eq_true, Bool.not_eq_true', decide_eq_true_eq] at hb
    obtain ⟨⟨b1, b2⟩, b3⟩ := hb
    cases h1 : visOf c X.env.scope x with
    | none => rw [h1] at h; cases h
    | some i =>
    rw [h1] at h
    cases h2 : slotOf c X.env.scope y with
    | none => rw [h2] at h; cases h
    | some j =>
    rw [h2] at h
    cases h3 : cE c m fb1 X.env.scope kk with
    | none => rw [h3] at h; cases h
    | some q1 =>
    rw [h3] at h
    cases h4 : cE c m fb1 X.env.scope a with
    | none => rw [h4] at h; cases h
    | some u =>
    rw [h4] at h
    cases h5 : cE c m fb1 X.env.scope b with
    | none => rw [h5] at h; cases h
    | some v =>
    rw [h5] at h; cases h
    obtain ⟨g1, g2, g3⟩ := slotOf_ok F h2
    exact ds_dm b1 F.g (visOf_ok F h1 px) (F.e h3).1.1 g1 g2 g3 (F.e h4).1.1 (F.e h5).1.1 (gl_of b2).2 (noStar cE_star h4 _ X.env) (noStar cE_star h5 _ X.env) (asg_sub b3) rfl rfl fun ρ => rfl
  · rename_i ts kt pt e q _ _
    split at h
    case isFalse => cases h
    rename_i hb
    exact cUnp_ok F sws_tup (swT (by
      have := hb
      cases e <;> first | rfl | cases this)) h
  · rename_i x px kk pk e q
    split at h
    case isFalse => cases h
    rename_i hb
    simp only [Bool.and_eq_true, Bool.not_eq_true'] at hb
    cases h1 : visOf c X.env.scope x with
    | none => rw [h1] at h; cases h
    | some i =>
    rw [h1] at h
    cases h3 : cE c m fb1 X.env.scope kk with
    | none => rw [h3] at h; cases h
    | some q1 =>
    rw [h3] at h
    cases h4 : cE c m fb1 X.env.scope e with
    | none => rw [h4] at h; cases h
    | some u =>
    rw [h4] at h; cases h
    exact ds_idx (visOf_ok F h1 px) (F.e h3).1.1 (F.e h4).1.1 (sws_no hb.1) (swS rfl) rfl (asg_sub hb.2) fun ρ => rfl
  · cases h
theorem borI_ok {e : Expr} {i : I} (h : DE X pn e (sm G pn wf i).e ∧ DT X pn e (sm G pn wf i).e) : ∀ vs : List Nat, DE X pn e (sm G pn wf (borI vs i)).e ∧ DT X pn e (sm G pn wf (borI vs i)).e
  | [] => h
  | v :: vs => de_bor (borI_ok h vs).1 (borI_ok h vs).2 fun ρ => rfl
theorem brOf_ok {e : Expr} {i : I} {p : Pos} (h : DE X pn e (sm G pn wf i).e ∧ DT X pn e (sm G pn wf i).e) : DE X pn e (sm G pn wf (brOf c p i)).e ∧ DT X pn e (sm G pn wf (brOf c p i)).e := by
  unfold brOf
  split
  · exact borI_ok h _
  · exact h
theorem fgS_ok {p : Pos} {s : Stmt} {i : I} (h : DS X pn s (sm G pn wf i).s) : DS X pn s (sm G pn wf (fgOf c p i)).s := by
  unfold fgOf
  split
  · exact ds_fg h fun ρ => rfl
  · exact h
theorem fgSs_ok {p : Pos} {s : List Stmt} {i : I} (h : DSs X pn s (sm G pn wf i).s) : DSs X pn s (sm G pn wf (fgOf c p i)).s := by
  unfold fgOf
  split
  · exact dss_fg h fun ρ => rfl
  · exact h
theorem stG_ok {f : Stmt → Option I} (ok : ∀ s i, f s = some i → DS X pn s (sm G pn wf i).s) : ∀ (ss : List Stmt) (i : I), stG f ss = some i → DSs X pn ss (sm G pn wf i).s
  | [], i, h => by cases h; exact dss_nil fun ρ => rfl
  | s :: ss, i, h => by
    unfold stG at h
    cases h1 : f s with
    | none => rw [h1] at h; cases h
    | some a =>
    rw [h1] at h
    cases h2 : stG f ss with
    | none => rw [h2] at h; cases h
    | some b =>
    rw [h2] at h; cases h
    exact dss_cons (ok s a h1) (stG_ok ok ss b h2) fun ρ => rfl
/-- THE STATEMENTS -/
theorem cS_ok (F : Fx c G k X) {m : Nat} : ∀ (n : Nat) (s : Stmt) (i : I), cS c m X.env.scope n s = some i → DS X pn s (sm G pn wf i).s
  | 0, _, _, h => by cases h
  | n + 1, s, i, h => by
    have blk : ∀ (ss : List Stmt) (i : I), stG (cS c m X.env.scope n) ss = some i → DSs X pn ss (sm G pn wf i).s := fun ss i h => stG_ok (fun s i h => cS_ok F n s i h) ss i h
    unfold cS at h
    split at h
    · rename_i t as bs q
      cases h1 : cE c m fb1 X.env.scope t with
      | none => rw [h1] at h; cases h
      | some x =>
      rw [h1] at h
      cases h2 : stG (cS c m X.env.scope n) as with
      | none => rw [h2] at h; cases h
      | some a =>
      rw [h2] at h
      cases h3 : stG (cS c m X.env.scope n) bs with
      | none => rw [h3] at h; cases h
      | some b =>
      rw [h3] at h; cases h
      exact ds_if (brOf_ok (F.e h1).1).2 (blk as a h2) (blk bs b h3) fun ρ => rfl
    · rename_i tg it body q
      cases h1 : cT c.N fb1 X.env.scope m tg with
      | none => rw [h1] at h; cases h
      | some t =>
      rw [h1] at h
      cases h2 : cE.cI (cE c m fb1 X.env.scope) (isTup tg) X.env.scope it with
      | none => rw [h2] at h; cases h
      | some x =>
      rw [h2] at h
      cases h3 : stG (cS c m X.env.scope n) body with
      | none => rw [h3] at h; cases h
      | some b =>
      rw [h3] at h; cases h
      exact fgS_ok (ds_for F.g.never F.g.calm (cI_ok F.g cE_star (fun e i h => F.e h) h2) (F.t h1).1 (fgSs_ok (blk body b h3)) (folded_ok X.env fun a b p z => by
            subst z
            unfold cE.cI at h2
            cases m <;> cases h2) fun ρ => rfl)
    · rename_i t body q
      cases h1 : cE c m fb1 X.env.scope t with
      | none => rw [h1] at h; cases h
      | some x =>
      rw [h1] at h
      cases h3 : stG (cS c m X.env.scope n) body with
      | none => rw [h3] at h; cases h
      | some b =>
      rw [h3] at h; cases h
      exact fgS_ok (ds_while F.g.never (F.e h1).1.2 (fgSs_ok (blk body b h3)) fun ρ => rfl)
    · exact cStm_ok F h
end
end Dx

namespace Dx
open PySem PySem.Spec PyProof.Rows L2
/-! ## A def's promise from its body's tree -/
structure Tb (P : Program) (w : World) (K : PySem.W.Frag) (mg : Str → Option Value) (base : Heap) (G : Gx) (k : Nat) : Prop where
  fns : ∀ f g, G.fns f = some g → ∃ (fa : Addr) (fd : FuncData) (ps : List Str), mg f = some (.ref fa) ∧ PySem.W.keepIn K (.ref fa) = true ∧ ps.length = g.kinds.length ∧ Binds K fd ps [] ∧ Ct P w K mg base k fa fd ps (spR K g) ∧ ∀ ks pm, (f, ks, pm) ∈ G.kw → KB K fd ps ks pm
  cons : ∀ x d, G.cons x = some d → ∃ (v : V) (u : Value), mg x = some u ∧ RelV v u ∧ ∀ Z, Dv K Z v d
  blt : ∀ x ∈ bltNames, mg x = none
section
variable {K : PySem.W.Frag}
theorem outs_at : ∀ {args : List Sl} {ρ : Env1} {out : List Sl}, outs args ρ = some out → ∀ i : Nat,
    (∀ d, args[i]? = some (.dat d) → out[i]? = some (.dat d)) ∧ (∀ ds, args[i]? = some (.own ds) → ∃ es, ρ[i]? = some (some (.own es)) ∧ out[i]? = some (.own es)) ∧ (args[i]? = none → out[i]? = none)
  | [], ρ, out, h, i => by cases h; exact ⟨fun d e => by simp at e, fun ds e => by simp at e, fun _ => by simp⟩
  | .dat d :: r, ρ, out, h, i => by
    unfold outs at h
    cases q : outs r ρ.tail with
    | none => rw [q] at h; cases h
    | some o =>
      rw [q] at h; cases h
      cases i with
      | zero => exact ⟨fun d' e => by simpa using e, fun ds e => by simp at e, fun e => by simp at e⟩
      | succ i =>
        obtain ⟨h1, h2, h3⟩ := outs_at q i
        refine ⟨fun d' e => by simpa using h1 d' (by simpa using e), fun ds e => ?_, fun e => by simpa using h3 (by simpa using e)⟩
        obtain ⟨es, e1, e2⟩ := h2 ds (by simpa using e)
        refine ⟨es, ?_, by simpa using e2⟩
        cases ρ with
        | nil => simp at e1
        | cons a ρ => simpa using e1
  | .own ds :: r, [], out, h, i => by cases h
  | .own ds :: r, none :: ρ, out, h, i => by cases h
  | .own ds :: r, some (.dat d) :: ρ, out, h, i => by cases h
  | .own ds :: r, some (.own es) :: ρ, out, h, i => by
    unfold outs at h
    cases q : outs r ρ with
    | none => rw [q] at h; cases h
    | some o =>
      rw [q] at h; cases h
      cases i with
      | zero => exact ⟨fun d' e => by simp at e, fun ds e => ⟨es, by simp, by simp⟩, fun e => by simp at e⟩
      | succ i =>
        obtain ⟨h1, h2, h3⟩ := outs_at q i
        refine ⟨fun d' e => by simpa using h1 d' (by simpa using e), fun ds e => ?_, fun e => by simpa using h3 (by simpa using e)⟩
        obtain ⟨es', e1, e2⟩ := h2 ds (by simpa using e)
        exact ⟨es', by simpa using e1, by simpa using e2⟩
theorem outs_len : ∀ {args : List Sl} {ρ : Env1} {out : List Sl}, outs args ρ = some out → out.length = args.length
  | [], ρ, out, h => by cases h; rfl
  | .dat d :: r, ρ, out, h => by
    unfold outs at h
    cases q : outs r ρ.tail with
    | none => rw [q] at h; cases h
    | some o => rw [q] at h; cases h; simp [outs_len q]
  | .own ds :: r, [], out, h => by cases h
  | .own ds :: r, none :: ρ, out, h => by cases h
  | .own ds :: r, some (.dat d) :: ρ, out, h => by cases h
  | .own ds :: r, some (.own es) :: ρ, out, h => by
    unfold outs at h
    cases q : outs r ρ with
    | none => rw [q] at h; cases h
    | some o => rw [q] at h; cases h; simp [outs_len q]
theorem map_some_at {α : Type} {xs : List α} {i : Nat} {x : α} : (xs.map some)[i]? = some (some x) ↔ xs[i]? = some x := by
  rw [List.getElem?_map]
  cases xs[i]? <;> simp
/-- the callee's end, seen at the parameters -/
theorem leave {B : Bs} {Z' H H' : Hp} {σ' : L2.St} {ρ' : Env1} {args out : List Sl} {vs : List V} (hB : B.H = H) (hpd : B.pend = []) (e0 : Rl K B B.Z H (vs.map some) (args.map some)) (rl : Rl K B Z' H' σ' ρ') (sm : Same B.Z Z') (ho : outs args ρ' = some out) :
    Rl K B Z' H' (vs.map some) (out.map some) ∧ ∀ {v : V} {r : R}, RR K B Z' H' σ' ρ' v r → RR K B Z' H' (vs.map some) (out.map some) v r := by
  have hl : vs.length = args.length := by have := e0.len; simpa using this
  -- an own slot behind is a pinned parameter
  have key : ∀ (i : Nat) (es : List PyData), (out.map some)[i]? = some (some (.own es)) → ∃ p, vs[i]? = some (.ref p) ∧ (i, p) ∈ B.pins ∧ σ'[i]? = some (some (.ref p)) ∧ ρ'[i]? = some (some (.own es)) := fun i es h => by
    have h := map_some_at.mp h
    obtain ⟨o1, o2, o3⟩ := outs_at ho i
    cases q : args[i]? with
    | none => rw [o3 q] at h; cases h
    | some s =>
      cases s with
      | dat d => rw [o1 d q] at h; cases h
      | own ds =>
        obtain ⟨es', a1, a2⟩ := o2 ds q
        rw [a2] at h; cases h
        obtain ⟨p, xs, b1, b2, b3, b4, b5⟩ := e0.own i ds (map_some_at.mpr q)
        have hp : (i, p) ∈ B.pins := by
          rcases b5 with b5 | b5
          · exact b5
          · rw [hB, b2] at b5; cases b5
        exact ⟨p, map_some_at.mp b1, hp, (rl.pin (i, p) hp).1, a1⟩
  refine ⟨⟨by simp [hl, outs_len ho], rl.bz, rl.zh, rl.zn, rl.kp, fun i d h => ?_, fun i es h => ?_, fun i j es fs p h1 h2 h3 h4 => ?_, fun q hq => ?_, fun q hq => by rw [hpd] at hq; cases hq⟩, fun {v r} h => ?_⟩
  · have h := map_some_at.mp h
    obtain ⟨o1, o2, o3⟩ := outs_at ho i
    cases q : args[i]? with
    | none => rw [o3 q] at h; cases h
    | some s =>
      cases s with
      | own ds =>
        obtain ⟨es', a1, a2⟩ := o2 ds q
        rw [a2] at h; cases h
      | dat d' =>
        rw [o1 d' q] at h; cases h
        obtain ⟨v, h1, h2⟩ := e0.dat i d (map_some_at.mpr q)
        exact ⟨v, h1, h2.up sm⟩
  · obtain ⟨p, a1, a2, a3, a4⟩ := key i es h
    obtain ⟨p', xs, b1, b2, b3, b4, b5⟩ := rl.own i es a4
    rw [a3] at b1; cases b1
    exact ⟨p, xs, map_some_at.mpr a1, b2, b3, b4, .inl a2⟩
  · obtain ⟨p1, a1, a2, a3, a4⟩ := key i es h1
    obtain ⟨p2, c1, c2, c3, c4⟩ := key j fs h2
    have h3 := map_some_at.mp h3
    have h4 := map_some_at.mp h4
    rw [a1] at h3; cases h3
    rw [c1] at h4; cases h4
    exact rl.apart i j es fs p a4 c4 a3 c3
  · obtain ⟨h1, ds, h2⟩ := e0.pin q hq
    refine ⟨h1, ?_⟩
    obtain ⟨es, _, h3⟩ := (outs_at ho q.1).2.1 ds (map_some_at.mp h2)
    exact ⟨es, map_some_at.mpr h3⟩
  · cases r with
    | dat d => exact h
    | frs ds =>
      obtain ⟨p, xs, h1, h2, h3, h4, h5, h6, h7⟩ := h
      refine ⟨p, xs, h1, h2, h3, h4, h5, h6, fun i es e1 e2 => ?_⟩
      obtain ⟨p1, a1, a2, a3, a4⟩ := key i es e1
      have e2 := map_some_at.mp e2
      rw [a1] at e2; cases e2
      exact h7 i es a4 a3
/-- the callee's beginning -/
theorem enter {B : Bs} {H : Hp} {args : List Sl} {vs : List V} {m n : Nat} (e0 : Rl K B B.Z H (vs.map some) (args.map some)) (hm : n = m) (hpd : B.pend = []) : Rl K B B.Z H (vs.map some ++ List.replicate n none) (args.map some ++ List.replicate m none) := by
  have hl : vs.length = args.length := by have := e0.len; simpa using this
  have up : ∀ {i : Nat} {s : Sl}, (args.map some ++ List.replicate m none)[i]? = some (some s) → (args.map some)[i]? = some (some s) ∧ (vs.map some ++ List.replicate n none)[i]? = (vs.map some)[i]? := fun {i s} h => by
    by_cases hi : i < args.length
    · rw [List.getElem?_append_left (by simpa using hi)] at h
      exact ⟨h, List.getElem?_append_left (by simpa [hl] using hi)⟩
    · rw [List.getElem?_append_right (by simpa using hi), List.getElem?_replicate] at h
      split at h <;> cases h
  refine ⟨by simp [hl, hm], e0.bz, e0.zh, e0.zn, e0.kp, fun i d h => ?_, fun i ds h => ?_, fun i j ds es p h1 h2 h3 h4 => ?_, fun q hq => ?_, fun q hq => by rw [hpd] at hq; cases hq⟩
  · obtain ⟨h1, h2⟩ := up h
    rw [h2]; exact e0.dat i d h1
  · obtain ⟨h1, h2⟩ := up h
    rw [h2]; exact e0.own i ds h1
  · obtain ⟨a1, a2⟩ := up h1
    obtain ⟨b1, b2⟩ := up h2
    exact e0.apart i j ds es p a1 b1 (by rw [← a2]; exact h3) (by rw [← b2]; exact h4)
  · obtain ⟨h1, ds, h2⟩ := e0.pin q hq
    have hi : q.1 < args.length := by
      have := (List.getElem?_eq_some_iff.mp h2).1
      simpa using this
    exact ⟨by rw [List.getElem?_append_left (by simpa [hl] using hi)]; exact h1, ds, by rw [List.getElem?_append_left (by simpa using hi)]; exact h2⟩
end
section
variable {P : Program} {w : World} {K : PySem.W.Frag} {mg : Str → Option Value} {base : Heap} {c : Cc} {G : Gx} {k m n wf : Nat}
/-- THE DEF -/
theorem ct_of {x qual : Str} {st : Stmt} {f : Addr} {fd : FuncData} {ps : List Str} {ks : List Bool} {ir : I} (F : Fun K x qual st f fd) (S : FnScope c.N ps (defScope st)) (T : Tb P w K mg base G k) (hgcd : c.gcd = true → mg "gcd" = some (.builtin "math.gcd")) (hkw : c.kw = G.kw)
    (hks : ps.length = ks.length) (hc : stG (cS c m (defScope st) n) (defBody st) = some ir) : Ct P w K mg base (k + 1) f fd ps (spR K ⟨ks, fnS G wf c.N.length ps.length ir⟩) := by
  obtain ⟨oc, od, kV, doc, pm, an, cdv, ct, osl, rfl, lk, hcd⟩ := F.ex
  refine ⟨fun A outer s H args us vs Q hr e0 hb r hsp => ?_⟩
  obtain ⟨hlv, B, as, out, res, hB, hpd, hpn, rl0, hf, fin⟩ := hsp
  have hl : vs.length = ps.length := by rw [hlv, hks]
  have hla : vs.length = as.length := by have := rl0.len; simpa using this
  have KX : K.In s.heap := e0.mod.kin.keeps fun b o e => (e0.bs b o e).1
  have NL : s.heap.NoLimit := e0.mod.nolimit.keeps fun b o e => (e0.bs b o e).1
  have locs : ∀ y ∈ ps.zip us, (defScope st).names.lookup y.1 = some .local ∨ ((defScope st).names.lookup y.1 = some .cell ∧ ((cellsFrom (s.heap.objs.size + 1) (defScope st).names []).lookup y.1).isSome = true) := fun y hy => by
    have hy := (List.of_mem_zip (show (y.1, y.2) ∈ ps.zip us from hy)).1
    exact (S.par y.1 hy).imp id fun q => ⟨q, PySem.W.cellsFrom_some _ _ _ (.inl q)⟩
  refine codeAny_call_function hr.room.depth (KX _ _ lk) rfl S.co S.gen rfl (PySem.W.codeRec_of KX hcd) (hb _ _ _ _ ?_)
  refine wpAny_newFunctionEnv_cells S.kind locs fun env he s1 x1 => ?_
  subst he
  refine ⟨NL.keeps x1.toInCall.keep, codeAny_func ?_⟩
  have I := inv_start (CX := CX0) (E := E0) (cd := cdv) (f := f) (qual := qual) (w := w) (P := P) (mg := mg) (base := base) S hr.room.hd e0 hl r x1
  have fx : Fx c G k (cxOf CX0 P w K mg base c.N qual (defScope st) f cdv A outer s H E0).nox :=
    ⟨⟨rfl, S.nd, rfl, hr.deeper _, T.fns, T.cons, T.blt, PassesOwn.never⟩, hgcd, rfl, hkw⟩
  have body := (stG_ok (wf := wf) (pn := ownsAt as 0) (fun s i h => cS_ok (m := m) fx n s i h) _ ir hc).nox
  -- the tree's answer
  have hf : (if as.length = ps.length then
      match (sm G (ownsAt as 0) wf ir).s (as.map some ++ List.replicate (c.N.length - as.length) none) with
      | some (.nx ρ) => (outs as ρ).map fun o => (R.dat .none, o)
      | some (.rt r ρ) => (outs as ρ).map fun o => (r, o)
      | _ => none
    else none) = some (res, out) := hf
  rw [if_pos (by omega)] at hf
  have start : Rl K B B.Z H (L2.start c.N vs) (as.map some ++ List.replicate (c.N.length - as.length) none) := enter rl0 (by rw [hla]) hpd
  have go : ∀ (t : L2.Ends), (∀ σ' H', t.nx σ' H' ↔ Q .non H') → t.rt = Q → tDS K (ownsAt as 0) (sm G (ownsAt as 0) wf ir).s t (L2.start c.N vs) H := fun t h1 h2 => by
    split at hf
    · rename_i ρ hρ
      cases ho : outs as ρ with
      | none => rw [ho] at hf; cases hf
      | some o =>
        rw [ho] at hf; cases hf
        refine ⟨B, B.Z, _, _, hpn, start, hρ, fun σ' H' Z' rl' sm' => (h1 σ' H').mpr ?_⟩
        obtain ⟨g1, g2⟩ := leave hB hpd rl0 rl' sm' ho
        exact fin _ H' Z' g1 sm' .non
    · rename_i r0 ρ hρ
      cases ho : outs as ρ with
      | none => rw [ho] at hf; cases hf
      | some o =>
        rw [ho] at hf; cases hf
        refine ⟨B, B.Z, _, _, hpn, start, hρ, fun v σ' H' Z' rl' sm' rr => ?_⟩
        rw [h2]
        obtain ⟨g1, g2⟩ := leave hB hpd rl0 rl' sm' ho
        exact fin v H' Z' g1 sm' (g2 rr)
    · cases hf
  have fine := go { nx := fun _ H' => Q .non H', rt := Q } (fun σ' H' => Iff.rfl) rfl
  refine wpAny_mono (body.run [] s1 (L2.start c.N vs) H _ I fine) (fun fl s' hs => ?_) fun e s' hs => hs
  have stop : ∀ {σ' : L2.St} {H' : Hp} {v : V} {u : Value}, Inv (cxOf CX0 P w K mg base c.N qual (defScope st) f cdv A outer s H E0) [] σ' H' s' → RelV v u → Q v H' → CE outer P w H s Q u s' :=
    fun {σ' H' v u} J rv q => ⟨v, H', J.os, J.bare, J.base, J.hok, rv, q⟩
  cases fl with
  | next =>
    obtain ⟨σ', H', J, q⟩ := hs
    exact stop (v := .non) (u := .none) J rfl q
  | ret u =>
    obtain ⟨v, σ', H', J, rv, q⟩ := hs
    exact stop J rv q
  | brk => exact hs.elim fun _ z => z.elim fun _ z => z.2.elim
  | cont => exact hs.elim fun _ z => z.elim fun _ z => z.2.elim
/-- a sharper account of what it computes -/
theorem Ct.of_le {f : Addr} {fd : FuncData} {ps : List Str} {g g' : Gf} (h : Ct P w K mg base k f fd ps (spR K g)) (hk : g'.kinds = g.kinds) (hf : ∀ as r, g'.f as = some r → g.f as = some r) : Ct P w K mg base k f fd ps (spR K g') :=
  ⟨fun A outer s H args us vs Q hr e0 hb r hsp => h.run A outer s H args us vs Q hr e0 hb r (by
    obtain ⟨h1, B, as, out, res, h2, h3, h4, h5, h6, h7⟩ := hsp
    exact ⟨by rw [← hk]; exact h1, B, as, out, res, h2, h3, h4, h5, hf _ _ h6, h7⟩)⟩
end
end Dx

namespace Dx
open PySem PySem.Spec PyProof.Rows L2
/-! ## The law's end -/
theorem dv_ints {K : PySem.W.Frag} {Z : Hp} : ∀ ns : List Int, DvAll K Z (ns.map V.int) (ns.map PyData.int)
  | [] => .nil
  | n :: ns => .cons (.int n) (dv_ints ns)
/-- what the law's def answers at the script -/
theorem spR_law {K : PySem.W.Frag} {H : Hp} {a : Addr} {ns : List Int} {f : Fn} {out : List Sl} (hS : SqL K H a (ns.map V.int)) (hf : f [.dat (.list (ns.map PyData.int))] = some (.dat (.bool true), out)) : spR K ⟨[false], f⟩ [.ref a] H (fun v _ => v = .bl true) E0 := by
  have dv : DvAll K H [V.ref a] [PyData.list (ns.map PyData.int)] := .one (.lst hS (dv_ints ns))
  refine ⟨rfl, ⟨H, H, [], []⟩, [.dat (.list (ns.map PyData.int))], out, _, rfl, rfl, rfl, (hn_dat dv).entry (Same.refl H), hf, fun v H' Z' _ _ rr => ?_⟩
  cases rr; rfl
section
variable {P : Program} {w : World} {K : PySem.W.Frag} {mg mb : Str → Option Value} {k : Nat} {fa a : Addr} {fd : FuncData} {x : Str} {s₁ : Shared} {vs : List Value} {ns : List Int} {f : Fn} {out : List Sl}
/-- from a heap of known things in which the script alone may stand -/
theorem law_from {H : Hp} (KX : K.In s₁.heap) (hns : s₁.heap.Ns mainGlobals mg) (hb : s₁.heap.Ns builtinsNs mb) (hbb : ∀ x : Str, x ≠ "__name__" → mb x = bootBuiltins x) (hlim : s₁.heap.NoLimit) (hg : s₁.gens = #[])
    (ha : s₁.heap.get? a = some { cls := .type "list", data := .seq vs.toArray }) (hr : GRoom k callerA)
    (F : ∀ base : Heap, K.In base → base.Ns mainGlobals mg → Ct P w K mg base k fa fd [x] (spR K ⟨[false], f⟩)) (hbind : ∀ (s : Shared) (u : Value), BindsTo s fd ⟨[u], []⟩ [(x, u)])
    (hf : f [.dat (.list (ns.map PyData.int))] = some (.dat (.bool true), out)) (hO : Only H) (hS : SqL K H a (ns.map V.int)) (ok : HOk P w H s₁.heap) (alone : ∀ b, H b ≠ none → b = a ∧ K.lookup a = none) :
    codeAny (model P w) callerA (.call (.ref fa) ⟨[.ref a], []⟩) (fun r s' => r = .ok (.ret (.bool true)) ∧ OldK s₁.heap s'.heap ∧ s'.os = s₁.os ∧ AllBare s'.gens) s₁ := by
  have seen : ∀ {b : Addr} {o : Obj}, s₁.heap.get? b = some o → (b = a → K.lookup a ≠ none ∨ (∀ q, o.data ≠ .seq vs.toArray q)) → H b = none := fun {b o} e d => by
    cases q : H b with
    | none => rfl
    | some u =>
      obtain ⟨e1, e2⟩ := alone b (by rw [q]; simp)
      rcases d e1 with d1 | d1
      · exact absurd e2 d1
      · rw [e1, ha] at e; cases e
        exact absurd rfl (d1 _)
  have spaces : ∀ {b : Addr} {m : Str → Option Value}, s₁.heap.Ns b m → (hidT s₁.heap H).Ns b m := fun {b m} ⟨o, es, ep, e, d, r⟩ =>
    ⟨o, es, ep, hidT_get e (seen e fun _ => .inr fun q z => by rw [d] at z; cases z), d, r⟩
  have KB' : K.In (hidT s₁.heap H) := fun b o e => hidT_get (KX b o e) (seen (KX b o e) fun z => .inl (by rw [← z, e]; simp))
  have nl : (hidT s₁.heap H).NoLimit := hlim.elim fun mc h => ⟨mc, spaces h.1, h.2⟩
  have ent : Env0 P w K mg (hidT s₁.heap H) callerA [] s₁ H :=
    { frames := rfl, mod := ⟨KB', spaces hns, ⟨mb, spaces hb, hbb⟩, nl⟩, bs := fun b o e => of_hidT e, bsz := Nat.le_of_eq (hidT_size _ _), funs := True.intro, frf := fun b z => (List.not_mem_nil z).elim, hok := ok, bare := .of_eq hg }
  have got := (F _ KB' (spaces hns)).run callerA [] s₁ H ⟨[.ref a], []⟩ [.ref a] [.ref a] (fun v _ => v = .bl true) hr ent (hbind s₁ (.ref a)) (.cons rfl .nil) (spR_law hS hf)
  refine codeAny_mono got fun r s' h => ?_
  match r, h with
  | .ok (.ret u), h =>
    obtain ⟨v, H', os, bare, un, hok', rv, q⟩ := h
    have q : v = .bl true := q
    subst q
    have eu : u = Value.bool true := rv
    subst eu
    refine ⟨rfl, OldK.of_keep fun b o e => ?_, os, bare⟩
    cases hb1 : H b with
    | none => exact un.keep b o e hb1 (fun z => (List.not_mem_nil z).elim) (fun z => (List.not_mem_nil z).elim)
    | some u1 =>
      obtain z | ⟨ob, ys, z⟩ := hO b
      · rw [hb1] at z; cases z
      · have before := (ok b _ z).1
        have behind := (hok' b _ (un.frzs b ob _ z)).1
        rw [e] at before; cases before
        exact behind
  | .ok .next, h => exact h.elim
  | .ok .brk, h => exact h.elim
  | .ok .cont, h => exact h.elim
  | .error e, h => exact h.elim
theorem law_ct (KX : K.In s₁.heap) (hns : s₁.heap.Ns mainGlobals mg) (hb : s₁.heap.Ns builtinsNs mb) (hbb : ∀ x : Str, x ≠ "__name__" → mb x = bootBuiltins x) (hlim : s₁.heap.NoLimit) (hg : s₁.gens = #[])
    (ha : s₁.heap.get? a = some { cls := .type "list", data := .seq vs.toArray }) (hi : IntsAre vs ns) (hl : ns.length ≤ sizeLine) (hr : GRoom k callerA)
    (F : ∀ base : Heap, K.In base → base.Ns mainGlobals mg → Ct P w K mg base k fa fd [x] (spR K ⟨[false], f⟩)) (hbind : ∀ (s : Shared) (u : Value), BindsTo s fd ⟨[u], []⟩ [(x, u)])
    (hf : f [.dat (.list (ns.map PyData.int))] = some (.dat (.bool true), out)) :
    codeAny (model P w) callerA (.call (.ref fa) ⟨[.ref a], []⟩) (fun r s' => r = .ok (.ret (.bool true)) ∧ OldK s₁.heap s'.heap ∧ s'.os = s₁.os ∧ AllBare s'.gens) s₁ := by
  have vls := vals_ints hi
  have same := hi.length
  cases hk : K.lookup a with
  | none =>
    -- the script as a known object
    let Hs : Hp := fun b => if b = a then some (.frz { cls := .type "list", data := .seq vs.toArray } (.lst (ns.map V.int))) else none
    have at1 : Hs a = some (.frz { cls := .type "list", data := .seq vs.toArray } (.lst (ns.map V.int))) := if_pos rfl
    have at2 : ∀ b, b ≠ a → Hs b = none := fun b ne => if_neg ne
    refine law_from (H := Hs) KX hns hb hbb hlim hg ha hr F hbind hf (fun b => ?_) (.inl (.inr ⟨_, at1⟩)) (fun b u z => ?_) (fun b z => ?_)
    · by_cases e : b = a
      · subst e; exact .inr ⟨_, _, at1⟩
      · exact .inl (at2 b e)
    · by_cases e : b = a
      · subst e
        rw [at1] at z; cases z
        exact ⟨ha, (by rw [List.length_map]; exact hl), vs, _, vls, ha⟩
      · rw [at2 b e] at z; cases z
    · by_cases e : b = a
      · exact ⟨e, hk⟩
      · exact absurd (at2 b e) z
  | some o =>
    have eo : o = { cls := .type "list", data := .seq vs.toArray } := Option.some.inj ((KX a o hk).symm.trans ha)
    subst eo
    exact law_from (H := fun _ => none) KX hns hb hbb hlim hg ha hr F hbind hf (fun _ => .inl rfl) (.inr ⟨_, vs.toArray, _, hk, rfl, rfl, rfl, (by rw [List.size_toArray, same]; exact hl), by simpa using vls⟩) (fun b u z => by cases z) fun b z => absurd rfl z
end
/-- THE GOAL that the head leaves -/
theorem walk_ct {l : PySem.W.OpenLaw} {n k : Nat} {q : Program} {loose : List Str} {XP : (Str → Option Value) → Heap → Prop} {YP : World → Heap → Prop} {d : DefRec} {K : Params → PySem.W.Frag} {x : Str} {f : Fn}
    (hn : l.most = some n) (hn2 : n ≤ sizeLine) (hdf : d.params.defaults = []) (hr : GRoom k callerA) (hY : ∀ (w : World) (h : Heap), YP w h → (K w.params).In h)
    (F : ∀ (w : World) (mg : Str → Option Value) (fa : Addr) (h : Heap), (K w.params).In h → h.Ns mainGlobals mg → mg d.name = some (.ref fa) →
      ∃ fd : FuncData, (∀ (s : Shared) (u : Value), BindsTo s fd ⟨[u], []⟩ [(x, u)]) ∧
        ∀ base : Heap, (K w.params).In base → base.Ns mainGlobals mg → Ct l.prog w (K w.params) mg base k fa fd [x] (spR (K w.params) ⟨[false], f⟩))
    (hf : ∀ ns : List Int, ns.length ≤ n → (∀ z ∈ ns, Builtin.Int.intBits z ≤ 1048576) → ∃ out, f [.dat (.list (ns.map PyData.int))] = some (.dat (.bool true), out)) :
    PySem.W.WalkO q loose XP YP l.row.toRowW d [] (fun f vs => PySem.call f vs) := Att.attach_callB hn hdf fun w s₀ s₁ mg mb fa o pm cd doc a vs ns G Y ho hd hcd hmg hobj hints hlen hbits hg => by
  obtain ⟨fd, bind, prom⟩ := F w mg fa _ (hY w _ Y) G.T.g hmg
  obtain ⟨out, ho⟩ := hf ns hlen hbits
  exact law_ct (hY w _ Y) G.T.g G.T.b G.T.builtins G.T.nolimit hg hobj hints (Nat.le_trans hlen hn2) hr prom bind ho
end Dx

namespace Dx
open PySem PySem.Spec PyProof.Rows L2
/-! ## One def after another -/
def Gx.add (G : Gx) (x : Str) (g : Gf) : Gx := { G with fns := fun y => if y = x then some g else G.fns y }
theorem Gx.add_at (G : Gx) (x : Str) (g : Gf) : (G.add x g).fns x = some g := if_pos rfl
theorem Gx.add_ne (G : Gx) {x y : Str} (g : Gf) (h : y ≠ x) : (G.add x g).fns y = G.fns y := if_neg h
section
variable {P : Program} {w : World} {K : PySem.W.Frag} {mg : Str → Option Value} {base : Heap} {G : Gx} {k : Nat}
theorem Tb.add {x : Str} {g : Gf} {fa : Addr} {fd : FuncData} {ps : List Str} (T : Tb P w K mg base G k) (m : mg x = some (.ref fa)) (kp : PySem.W.keepIn K (.ref fa) = true) (hl : ps.length = g.kinds.length) (hb : Binds K fd ps [])
    (hc : Ct P w K mg base (k + 1) fa fd ps (spR K g)) (hkw : ∀ q ∈ G.kw, q.1 = x → KB K fd ps q.2.1 q.2.2) : Tb P w K mg base (G.add x g) (k + 1) := by
  refine ⟨fun f h e => ?_, T.cons, T.blt⟩
  by_cases q : f = x
  · subst q
    rw [Gx.add_at] at e
    cases e
    exact ⟨fa, fd, ps, m, kp, hl, hb, hc, fun ks pm z => hkw (f, ks, pm) z rfl⟩
  · rw [Gx.add_ne G g q] at e
    obtain ⟨fa', fd', ps', h1, h2, h3, h4, h5, h6⟩ := T.fns f h e
    exact ⟨fa', fd', ps', h1, h2, h3, h4, h5.mono (Nat.le_succ k), h6⟩
theorem kb_of {x qual : Str} {st : Stmt} {f : Addr} {fd : FuncData} {ps ks : List Str} {pm : List Nat} (F : Fun K x qual st f fd) (h1 : ks.length = pm.length) (h2 : ps.length = pm.length) (h3 : ∀ i ∈ pm, i < ks.length)
    (h : ∀ (kV doc pmv : Value) (an : Option Addr) (cdv ct : Value) (ws : List Value), ws.length = ks.length → bindArgs (PySem.W.fnOf x qual (defArgs st) (defBody st) (defScope st) .none kV doc pmv an cdv ct) ⟨[], ks.zip ws⟩ = pure (ps.zip (pm.map fun i => ws.getD i .none))) : KB K fd ps ks pm := by
  obtain ⟨oc, od, kV, doc, pmv, an, cdv, ct, osl, rfl, _, _⟩ := F.ex
  exact ⟨h1, h2, h3, fun s ws _ hl => .of_eq (h kV doc pmv an cdv ct ws hl)⟩
/-- the names of a def's scope, looked at -/
def scopeOk (N ps : List Str) (sc : Scope) : Bool :=
  isFn sc && (!sc.isCoroutine && (!sc.isGenerator && (decide N.Nodup && (decide (N.take ps.length = ps) && (ps.all (fun x => visB sc x && !(sc.names.lookup x == some .free)) && sc.names.all fun y => !(y.2 == .free))))))
theorem fnS_by {N ps : List Str} {sc : Scope} (h : scopeOk N ps sc = true) : FnScope N ps sc := by
  unfold scopeOk at h
  simp only [Bool.and_eq_true, Bool.not_eq_true', decide_eq_true_eq, List.all_eq_true] at h
  obtain ⟨h1, h2, h3, h4, h5, h6, h7⟩ := h
  refine ⟨isFn_eq h1, h2, h3, h4, h5, fun x hx => ?_, fun y hy e => ?_⟩
  · obtain ⟨a, b⟩ := h6 x hx
    obtain ⟨_, v⟩ := vis_of a
    rcases v with v | v | v
    · exact .inl v
    · exact .inr v
    · rw [v] at b; simp at b
  · have := h7 y hy
    rw [e] at this; simp at this
end
end Dx

set_option exponentiation.threshold 10000
namespace Dx
open PySem PySem.Spec PyProof.Rows L2
/-! ## What trees answer: rows for simp -/
@[simp] theorem rd_dat (d : PyData) : (R.dat d).d = d := rfl
@[simp] theorem rd_frs (ds : List PyData) : (R.frs ds).d = .list ds := rfl
@[simp] theorem tru_non : truD .none = some false := rfl
@[simp] theorem tru_bl (b : Bool) : truD (.bool b) = some b := rfl
@[simp] theorem tru_int (i : Int) : truD (.int i) = some (i != 0) := rfl
@[simp] theorem tru_lst (xs : List PyData) : truD (.list xs) = some (!xs.isEmpty) := rfl
@[simp] theorem tru_tup (xs : List PyData) : truD (.tuple xs) = some (!xs.isEmpty) := rfl
@[simp] theorem cmp_lt (i j : Int) : cmpD .Lt (.int i) (.int j) = some (decide (i < j)) := rfl
@[simp] theorem cmp_le (i j : Int) : cmpD .LtE (.int i) (.int j) = some (decide (i ≤ j)) := rfl
@[simp] theorem cmp_gt (i j : Int) : cmpD .Gt (.int i) (.int j) = some (decide (j < i)) := rfl
@[simp] theorem cmp_ge (i j : Int) : cmpD .GtE (.int i) (.int j) = some (decide (j ≤ i)) := rfl
@[simp] theorem okD_int (i : Int) : okD (.int i) = true := rfl
@[simp] theorem okD_str (x : Str) : okD (.str x) = true := rfl
@[simp] theorem okD_none : okD .none = true := rfl
@[simp] theorem okD_bool (b : Bool) : okD (.bool b) = true := by cases b <;> rfl
@[simp] theorem eqv_int (i j : Int) : PyData.eqv (.int i) (.int j) = decide (i = j) := by
  first | rfl | (unfold PyData.eqv; simp)
theorem cmp_eq {x y : PyData} (h1 : okD x = true) (h2 : okD y = true) : cmpD .Eq x y = some (PyData.eqv x y) := by
  show (if okD x && okD y then _ else _) = _
  rw [h1, h2]; rfl
theorem cmp_ne {x y : PyData} (h1 : okD x = true) (h2 : okD y = true) : cmpD .NotEq x y = some (!PyData.eqv x y) := by
  show (if okD x && okD y then _ else _) = _
  rw [h1, h2]; rfl
@[simp] theorem cmp_eqI (i j : Int) : cmpD .Eq (.int i) (.int j) = some (decide (i = j)) := by rw [cmp_eq (okD_int i) (okD_int j), eqv_int]
@[simp] theorem cmp_neI (i j : Int) : cmpD .NotEq (.int i) (.int j) = some (!decide (i = j)) := by rw [cmp_ne (okD_int i) (okD_int j), eqv_int]
def isNon : PyData → Bool
  | .none => true
  | _ => false
@[simp] theorem cmp_is (x : PyData) : cmpD .Is x .none = some (isNon x) := by cases x <;> rfl
@[simp] theorem cmp_isn (x : PyData) : cmpD .IsNot x .none = some (!isNon x) := by cases x <;> rfl
@[simp] theorem isNon_none : isNon .none = true := rfl
@[simp] theorem isNon_int (i : Int) : isNon (.int i) = false := rfl
@[simp] theorem isNon_tup (i : List PyData) : isNon (.tuple i) = false := rfl
@[simp] theorem bin_add (i j : Int) : binD .Add (.int i) (.int j) = some (.dat (.int (i + j))) := rfl
@[simp] theorem bin_sub (i j : Int) : binD .Sub (.int i) (.int j) = some (.dat (.int (i - j))) := rfl
theorem bin_mul {i j : Int} (h1 : small i = true) (h2 : small j = true) : binD .Mult (.int i) (.int j) = some (.dat (.int (i * j))) := by
  show (if small i && small j then _ else _) = _
  rw [h1, h2]; rfl
theorem bin_div {i j : Int} (h1 : 0 < j) (h2 : small j = true) : binD .FloorDiv (.int i) (.int j) = some (.dat (.int (i / j))) := by
  show (if decide (0 < j) && small j then _ else _) = _
  rw [decide_eq_true h1, h2]; rfl
theorem bin_mod {i j : Int} (h1 : 0 < j) : binD .Mod (.int i) (.int j) = some (.dat (.int (i % j))) := if_pos h1
theorem bin_cat {xs ys : List PyData} (h : xs.length + ys.length ≤ sizeLine) : binD .Add (.list xs) (.list ys) = some (.frs (xs ++ ys)) := if_pos h
theorem bin_catT {xs ys : List PyData} (h : xs.length + ys.length ≤ sizeLine) : binD .Add (.tuple xs) (.tuple ys) = some (.dat (.tuple (xs ++ ys))) := if_pos h
theorem bin_rep {xs : List PyData} {k : Int} (h1 : 0 ≤ k) (h2 : k ≤ 1000) (h3 : xs.length ≤ 1000) : binD .Mult (.tuple xs) (.int k) = some (.dat (.tuple (List.replicate k.toNat xs).flatten)) := if_pos ⟨h1, h2, h3⟩
theorem bin_repL {xs : List PyData} {k : Int} (h1 : 0 ≤ k) (h2 : k ≤ 1000) (h3 : xs.length ≤ 1000) : binD .Mult (.list xs) (.int k) = some (.frs (List.replicate k.toNat xs).flatten) := if_pos ⟨h1, h2, h3⟩
theorem small_of {i : Int} {n : Nat} (h : -(2 ^ n : Int) < i) (h' : i < 2 ^ n) (hn : n ≤ 4000) : small i = true := by
  refine decide_eq_true ?_
  have : (i.natAbs : Int) < 2 ^ n := by omega
  have h2 : i.natAbs < 2 ^ n := by exact_mod_cast this
  exact Nat.lt_of_lt_of_le h2 (Nat.pow_le_pow_right (by decide) hn)
@[simp] theorem bl_lenL (xs : List PyData) : bltD "len" [.list xs] = some (.dat (.int xs.length)) := rfl
@[simp] theorem bl_lenT (xs : List PyData) : bltD "len" [.tuple xs] = some (.dat (.int xs.length)) := rfl
@[simp] theorem bl_abs (i : Int) : bltD "abs" [.int i] = some (.dat (.int (if i < 0 then -i else i))) := rfl
@[simp] theorem bl_int (i : Int) : bltD "int" [.int i] = some (.dat (.int i)) := rfl
@[simp] theorem bl_max (i j : Int) : bltD "max" [.int i, .int j] = some (.dat (.int (if j > i then j else i))) := rfl
@[simp] theorem bl_maxL (xs : List PyData) : bltD "max" [.list xs] = (allInt xs).bind fun ns => if ns.isEmpty then none else some (.dat (.int (maxL ns))) := rfl
@[simp] theorem bl_maxT (xs : List PyData) : bltD "max" [.tuple xs] = (allInt xs).bind fun ns => if ns.isEmpty then none else some (.dat (.int (maxL ns))) := rfl
@[simp] theorem bl_minL (xs : List PyData) : bltD "min" [.list xs] = (allInt xs).bind fun ns => if ns.isEmpty then none else some (.dat (.int (minL ns))) := rfl
@[simp] theorem bl_min (i j : Int) : bltD "min" [.int i, .int j] = some (.dat (.int (if j < i then j else i))) := rfl
@[simp] theorem bl_gcd (i j : Int) : bltD "gcd" [.int i, .int j] = some (.dat (.int ((Nat.gcd i.natAbs j.natAbs : Nat) : Int))) := rfl
@[simp] theorem bl_listL (xs : List PyData) : bltD "list" [.list xs] = some (.frs xs) := rfl
@[simp] theorem bl_listT (xs : List PyData) : bltD "list" [.tuple xs] = some (.frs xs) := rfl
@[simp] theorem bl_tupL (xs : List PyData) : bltD "tuple" [.list xs] = some (.dat (.tuple xs)) := rfl
@[simp] theorem bl_tupT (xs : List PyData) : bltD "tuple" [.tuple xs] = some (.dat (.tuple xs)) := rfl
@[simp] theorem bl_all (xs : List PyData) : bltD "all" [.list xs] = (allBl xs).map fun bs => .dat (.bool (bs.all id)) := rfl
@[simp] theorem bl_any (xs : List PyData) : bltD "any" [.list xs] = (allBl xs).map fun bs => .dat (.bool (bs.any id)) := rfl
@[simp] theorem bl_sum (xs : List PyData) : bltD "sum" [.list xs] = (allInt xs).map fun bs => .dat (.int bs.sum) := rfl
theorem bl_repr {d : PyData} (h : reprOk d = true) : bltD "repr" [d] = some (.dat (.str d.shown)) := by
  show (if reprOk d then _ else _) = _
  rw [if_pos h]
theorem allBl_map (bs : List Bool) : allBl (bs.map PyData.bool) = some bs := by
  induction bs with
  | nil => rfl
  | cons b bs ih => simp [allBl, ih]
@[simp] theorem late_none (x : PyData) (ρ : Env1) : late none x ρ = some x := rfl
@[simp] theorem late_some (i : Nat) (x : PyData) (ρ : Env1) : late (some i) x ρ = getD ρ i := rfl
@[simp] theorem eOr_some (f : Env1 → Option (R × Env1)) (i : Nat) (ρ : Env1) : eOr f (some i) ρ = (getD ρ i).map fun d => (d, ρ) := rfl
@[simp] theorem eOr_none (f : Env1 → Option (R × Env1)) (ρ : Env1) : eOr f none ρ = (f ρ).map fun p => (p.1.d, p.2) := rfl
@[simp] theorem idx_L (xs : List PyData) (i : Int) : idxD (.list xs) (.int i) = atI xs i := rfl
@[simp] theorem idx_T (xs : List PyData) (i : Int) : idxD (.tuple xs) (.int i) = atI xs i := rfl
@[simp] theorem at2_0 (a b : PyData) : atI [a, b] 0 = some a := rfl
@[simp] theorem at2_1 (a b : PyData) : atI [a, b] 1 = some b := rfl
@[simp] theorem ix2_0 : ixN 2 0 = some 0 := rfl
@[simp] theorem ix2_1 : ixN 2 1 = some 1 := rfl
@[simp] theorem sl_L (xs : List PyData) (lo hi : Option Int) : slcD (.list xs) lo hi = some (.frs (cutD xs lo hi)) := rfl
@[simp] theorem sl_T (xs : List PyData) (lo hi : Option Int) : slcD (.tuple xs) lo hi = some (.dat (.tuple (cutD xs lo hi))) := rfl
@[simp] theorem seq_L (xs : List PyData) : seqD (.list xs) = some xs := rfl
@[simp] theorem seq_T (xs : List PyData) : seqD (.tuple xs) = some xs := rfl
theorem at_nat {xs : List PyData} {i : Nat} {d : PyData} (h : xs[i]? = some d) : atI xs (i : Int) = some d := atI_nat h
def isNum : PyData → Bool
  | .int _ => true
  | .bool _ => true
  | _ => false
def isBlD : PyData → Bool
  | .bool _ => true
  | _ => false
def isTupD : PyData → Bool
  | .tuple _ => true
  | _ => false
def isLstD : PyData → Bool
  | .list _ => true
  | _ => false
@[simp] theorem isi_int (d : PyData) : isiL d ["int"] = some (isNum d) := by cases d <;> rfl
@[simp] theorem isi_bool (d : PyData) : isiL d ["bool"] = some (isBlD d) := by cases d <;> rfl
@[simp] theorem isi_tup (d : PyData) : isiL d ["tuple"] = some (isTupD d) := by cases d <;> rfl
@[simp] theorem isi_lst (d : PyData) : isiL d ["list"] = some (isLstD d) := by cases d <;> rfl
@[simp] theorem varI_var (i : Nat) : varI (.var i) = some i := rfl
@[simp] theorem varI_int (x0 : Int) : varI (.int x0) = none := rfl
@[simp] theorem varI_str (x0 : Str) : varI (.str x0) = none := rfl
@[simp] theorem varI_non : varI .non = none := rfl
@[simp] theorem varI_bl (x0 : Bool) : varI (.bl x0) = none := rfl
@[simp] theorem varI_con (x0 : Str) : varI (.con x0) = none := rfl
@[simp] theorem varI_bin (x0 : Operator) (x1 x2 : I) : varI (.bin x0 x1 x2) = none := rfl
@[simp] theorem varI_inot (x0 : I) : varI (.inot x0) = none := rfl
@[simp] theorem varI_neg (x0 : I) : varI (.neg x0) = none := rfl
@[simp] theorem varI_and (x0 x1 : I) : varI (.and x0 x1) = none := rfl
@[simp] theorem varI_or (x0 x1 : I) : varI (.or x0 x1) = none := rfl
@[simp] theorem varI_cmp (x0 : CmpOp) (x1 x2 : I) : varI (.cmp x0 x1 x2) = none := rfl
@[simp] theorem varI_cmp2 (x0 x1 : CmpOp) (x2 x3 x4 : I) : varI (.cmp2 x0 x1 x2 x3 x4) = none := rfl
@[simp] theorem varI_ite (x0 x1 x2 : I) : varI (.ite x0 x1 x2) = none := rfl
@[simp] theorem varI_tup (x0 : I) : varI (.tup x0) = none := rfl
@[simp] theorem varI_lst (x0 : I) : varI (.lst x0) = none := rfl
@[simp] theorem varI_nil : varI .nil = none := rfl
@[simp] theorem varI_cons (x0 x1 : I) : varI (.cons x0 x1) = none := rfl
@[simp] theorem varI_call (x0 : Str) (x1 : I) (x2 : List Nat) : varI (.call x0 x1 x2) = none := rfl
@[simp] theorem varI_blt (x0 : Str) (x1 : I) : varI (.blt x0 x1) = none := rfl
@[simp] theorem varI_isi (x0 : I) (x1 : List Str) : varI (.isi x0 x1) = none := rfl
@[simp] theorem varI_idx (x0 x1 : I) : varI (.idx x0 x1) = none := rfl
@[simp] theorem varI_slc (x0 x1 x2 : I) : varI (.slc x0 x1 x2) = none := rfl
@[simp] theorem varI_abs : varI .abs = none := rfl
@[simp] theorem varI_rev (x0 : I) : varI (.rev x0) = none := rfl
@[simp] theorem varI_lc (x0 x1 x2 x3 : I) (x4 : List Nat) : varI (.lc x0 x1 x2 x3 x4) = none := rfl
@[simp] theorem varI_tnm (x0 : Nat) : varI (.tnm x0) = none := rfl
@[simp] theorem varI_ttp (x0 : I) : varI (.ttp x0) = none := rfl
@[simp] theorem varI_iv (x0 : I) : varI (.iv x0) = none := rfl
@[simp] theorem varI_irg (x0 : I) : varI (.irg x0) = none := rfl
@[simp] theorem varI_irg2 (x0 x1 : I) : varI (.irg2 x0 x1) = none := rfl
@[simp] theorem varI_ien (x0 : I) : varI (.ien x0) = none := rfl
@[simp] theorem varI_izp (x0 x1 : I) : varI (.izp x0 x1) = none := rfl
@[simp] theorem varI_sset (x0 : Nat) (x1 : I) : varI (.sset x0 x1) = none := rfl
@[simp] theorem varI_sown (x0 : Nat) (x1 : I) : varI (.sown x0 x1) = none := rfl
@[simp] theorem varI_stg (x0 x1 : I) : varI (.stg x0 x1) = none := rfl
@[simp] theorem varI_spar (x0 : List (Nat × Bool)) (x1 : I) : varI (.spar x0 x1) = none := rfl
@[simp] theorem varI_sdm (x0 : Nat) (x1 : I) (x2 : Nat) (x3 x4 : I) : varI (.sdm x0 x1 x2 x3 x4) = none := rfl
@[simp] theorem varI_sidx (x0 : Nat) (x1 x2 : I) : varI (.sidx x0 x1 x2) = none := rfl
@[simp] theorem varI_sapp (x0 : Nat) (x1 : I) : varI (.sapp x0 x1) = none := rfl
@[simp] theorem varI_sext (x0 : Nat) (x1 : I) : varI (.sext x0 x1) = none := rfl
@[simp] theorem varI_spop (x0 : Nat) : varI (.spop x0) = none := rfl
@[simp] theorem varI_sfg (x0 : List Nat) (x1 : I) : varI (.sfg x0 x1) = none := rfl
@[simp] theorem varI_lrg (x0 : I) : varI (.lrg x0) = none := rfl
@[simp] theorem varI_tzp (x0 : I) : varI (.tzp x0) = none := rfl
@[simp] theorem varI_bor (x0 : Nat) (x1 : I) : varI (.bor x0 x1) = none := rfl
@[simp] theorem varI_pkb (x0 : Str) (x1 : Nat) : varI (.pkb x0 x1) = none := rfl
@[simp] theorem varI_sif (x0 x1 x2 : I) : varI (.sif x0 x1 x2) = none := rfl
@[simp] theorem varI_sfor (x0 x1 x2 : I) : varI (.sfor x0 x1 x2) = none := rfl
@[simp] theorem varI_swh (x0 x1 : I) : varI (.swh x0 x1) = none := rfl
@[simp] theorem varI_sret (x0 : I) : varI (.sret x0) = none := rfl
@[simp] theorem varI_sretv (x0 : Nat) : varI (.sretv x0) = none := rfl
@[simp] theorem varI_sexp (x0 : I) : varI (.sexp x0) = none := rfl
@[simp] theorem varI_sno : varI .sno = none := rfl
@[simp] theorem varI_scons (x0 x1 : I) : varI (.scons x0 x1) = none := rfl
@[simp] theorem varI_snil : varI .snil = none := rfl
@[simp] theorem scal_none : Dx.scal .none = true := rfl
@[simp] theorem scal_bool (b : Bool) : Dx.scal (.bool b) = true := rfl
@[simp] theorem scal_int (i : Int) : Dx.scal (.int i) = true := rfl
@[simp] theorem scal_str (i : Str) : Dx.scal (.str i) = true := rfl
theorem szE : sizeLine = 16777216 := rfl
end Dx

namespace Dx
open PySem PySem.Spec PyProof.Rows L2
/-! ## Loops and comprehensions at the data -/
section
variable {G : Gx} {pn : List Nat} {wf : Nat}
/-- a comprehension whose parts change nothing: filter and map -/
theorem lcG_fm {vs : List Nat} {ρ0 : Env1} {t : PyData → Env1 → Option Env1} {c e : Env1 → Option (R × Env1)} {p : PyData → Bool} {g : PyData → PyData} : ∀ (xs acc : List PyData),
    (∀ x ∈ xs, ∃ ρ1 k, t x (wipeE ρ0 vs) = some ρ1 ∧ c ρ1 = some (k, ρ1) ∧ truD k.d = some (p x) ∧ (p x = true → ∃ r, e ρ1 = some (r, ρ1) ∧ r.d = g x) ∧ backE ρ0 ρ1 vs = ρ0) → acc.length + xs.length ≤ sizeLine →
    lcG vs ρ0 t c e xs ρ0 acc = some (acc ++ (xs.filter p).map g, ρ0)
  | [], acc, _, _ => by simp [lcG]
  | x :: xs, acc, h, hl => by
    obtain ⟨ρ1, k, h1, h2, h3, h4, h5⟩ := h x List.mem_cons_self
    have ih := fun acc hl => lcG_fm xs acc (fun y hy => h y (List.mem_cons_of_mem _ hy)) hl
    simp only [List.length_cons] at hl
    unfold lcG
    simp only [h1, h2, h3, Option.bind_eq_bind, Option.bind_some]
    cases q : p x with
    | false =>
      simp only [h5]
      rw [ih acc (by omega), List.filter_cons_of_neg (by simp [q])]
    | true =>
      obtain ⟨r, h6, h7⟩ := h4 q
      simp only [h6, Option.bind_some]
      rw [if_pos (by omega), h5, h7, ih (acc ++ [g x]) (by simp; omega), List.filter_cons_of_pos q]
      simp
theorem lcG_map {vs : List Nat} {ρ0 : Env1} {t : PyData → Env1 → Option Env1} {c e : Env1 → Option (R × Env1)} {g : PyData → PyData} (xs acc : List PyData)
    (h : ∀ x ∈ xs, ∃ ρ1 k, t x (wipeE ρ0 vs) = some ρ1 ∧ c ρ1 = some (k, ρ1) ∧ truD k.d = some true ∧ (∃ r, e ρ1 = some (r, ρ1) ∧ r.d = g x) ∧ backE ρ0 ρ1 vs = ρ0) (hl : acc.length + xs.length ≤ sizeLine) :
    lcG vs ρ0 t c e xs ρ0 acc = some (acc ++ xs.map g, ρ0) := by
  have := lcG_fm (p := fun _ => true) (g := g) (vs := vs) (ρ0 := ρ0) (t := t) (c := c) (e := e) xs acc (fun x hx => by
    obtain ⟨ρ1, k, h1, h2, h3, h4, h5⟩ := h x hx
    exact ⟨ρ1, k, h1, h2, h3, fun _ => h4, h5⟩) hl
  rw [List.filter_eq_self.mpr fun _ _ => rfl] at this
  exact this
theorem lc_ev {elt tgt it cnd : I} {vs : List Nat} {ρ ρ1 ρ2 : Env1} {xs acc : List PyData} (h1 : (sm G pn wf it).i ρ = some (xs, ρ1)) (h2 : (vs.all fun v => match ρ1[v]? with | some (some (.own _)) => false | _ => true) = true)
    (h3 : lcG vs ρ1 (sm G pn wf tgt).t (sm G pn wf cnd).e (sm G pn wf elt).e xs ρ1 [] = some (acc, ρ2)) : (sm G pn wf (.lc elt tgt it cnd vs)).e ρ = some (.frs acc, ρ2) := by
  simp only [sm, h1, h3, Option.bind_eq_bind, Option.bind_some]
  exact if_pos h2
theorem for_ev {t it b : I} {ρ ρ1 : Env1} {xs : List PyData} {o : Out} (h1 : (sm G pn wf it).i ρ = some (xs, ρ1)) (h2 : forG (sm G pn wf t).t (sm G pn wf b).s xs ρ1 = some o) : (sm G pn wf (.sfor t it b)).s ρ = some o := by
  simp only [sm, h1, h2, Option.bind_eq_bind, Option.bind_some]
/-- a for whose body goes on each turn, an invariant of what is done and what is left -/
theorem forG_inv {t : PyData → Env1 → Option Env1} {b : Env1 → Option Out} (Pv : List PyData → Env1 → Prop) : ∀ (xs : List PyData) (ρ : Env1), Pv xs ρ →
    (∀ x r ρ, Pv (x :: r) ρ → ∃ ρ1 ρ2, t x ρ = some ρ1 ∧ (b ρ1 = some (.nx ρ2) ∨ b ρ1 = some (.ct ρ2)) ∧ Pv r ρ2) → ∃ ρ', forG t b xs ρ = some (.nx ρ') ∧ Pv [] ρ'
  | [], ρ, h, _ => ⟨ρ, rfl, h⟩
  | x :: r, ρ, h, st => by
    obtain ⟨ρ1, ρ2, h1, h2, h3⟩ := st x r ρ h
    obtain ⟨ρ', h4, h5⟩ := forG_inv Pv r ρ2 h3 st
    refine ⟨ρ', ?_, h5⟩
    unfold forG
    rcases h2 with h2 | h2 <;> simp only [h1, h2, Option.bind_eq_bind, Option.bind_some, h4]
theorem whileG_inv {c : Env1 → Option (R × Env1)} {b : Env1 → Option Out} (Pv : Env1 → Prop) (μ : Env1 → Nat) : ∀ (n : Nat) (ρ : Env1), Pv ρ → μ ρ < n →
    (∀ ρ, Pv ρ → ∃ r ρ1 k, c ρ = some (r, ρ1) ∧ truD r.d = some k ∧ (k = true → ∃ ρ2, (b ρ1 = some (.nx ρ2) ∨ b ρ1 = some (.ct ρ2)) ∧ Pv ρ2 ∧ μ ρ2 < μ ρ)) → ∃ ρ0 r ρ', Pv ρ0 ∧ c ρ0 = some (r, ρ') ∧ truD r.d = some false ∧ whileG c b n ρ = some (.nx ρ')
  | 0, ρ, _, hm, _ => absurd hm (Nat.not_lt_zero _)
  | n + 1, ρ, h, hm, st => by
    obtain ⟨r, ρ1, k, h1, h2, h3⟩ := st ρ h
    cases k with
    | false =>
      refine ⟨ρ, r, ρ1, h, h1, h2, ?_⟩
      unfold whileG
      simp only [h1, h2, Option.bind_eq_bind, Option.bind_some]
    | true =>
      obtain ⟨ρ2, h4, h5, h6⟩ := h3 rfl
      obtain ⟨ρ0, r', ρ', g1, g2, g3, g4⟩ := whileG_inv Pv μ n ρ2 h5 (by omega) st
      refine ⟨ρ0, r', ρ', g1, g2, g3, ?_⟩
      unfold whileG
      rcases h4 with h4 | h4 <;> simp only [h1, h2, h4, Option.bind_eq_bind, Option.bind_some, g4]
/-- a comprehension that draws: an invariant of the slots, what is gathered told by Q -/
theorem lcG_inv {vs : List Nat} {ρ0 : Env1} {t : PyData → Env1 → Option Env1} {c e : Env1 → Option (R × Env1)} (Pv : Env1 → Prop) (Q : PyData → Prop) : ∀ (xs : List PyData) (ρ : Env1) (acc : List PyData), Pv ρ → acc.length + xs.length ≤ sizeLine →
    (∀ x ∈ xs, ∀ ρ, Pv ρ → ∃ ρ1 k ρ2 r ρ3, t x (wipeE ρ vs) = some ρ1 ∧ c ρ1 = some (k, ρ2) ∧ truD k.d = some true ∧ e ρ2 = some (r, ρ3) ∧ Q r.d ∧ Pv (backE ρ0 ρ3 vs)) →
    ∃ ds ρ', lcG vs ρ0 t c e xs ρ acc = some (acc ++ ds, ρ') ∧ ds.length = xs.length ∧ (∀ d ∈ ds, Q d) ∧ Pv ρ'
  | [], ρ, acc, h, _, _ => ⟨[], ρ, by simp [lcG], rfl, fun d hd => (List.not_mem_nil hd).elim, h⟩
  | x :: xs, ρ, acc, h, hl, st => by
    obtain ⟨ρ1, k, ρ2, r, ρ3, h1, h2, h3, h4, h5, h6⟩ := st x List.mem_cons_self ρ h
    simp only [List.length_cons] at hl
    obtain ⟨ds, ρ', g1, g2, g3, g4⟩ := lcG_inv Pv Q xs _ (acc ++ [r.d]) h6 (by simp; omega) fun y hy => st y (List.mem_cons_of_mem _ hy)
    refine ⟨r.d :: ds, ρ', ?_, by simp [g2], fun d hd => ?_, g4⟩
    · unfold lcG
      simp only [h1, h2, h3, h4, Option.bind_eq_bind, Option.bind_some]
      rw [if_pos (by omega), g1]
      simp
    · rcases List.mem_cons.mp hd with rfl | hd
      · exact h5
      · exact g3 d hd
/-- statement by statement -/
theorem ss_nx {s r : I} {ρ ρ1 : Env1} {o : Option Out} (h1 : (sm G pn wf s).s ρ = some (.nx ρ1)) (h2 : (sm G pn wf r).s ρ1 = o) : (sm G pn wf (.scons s r)).s ρ = o := by
  simp only [sm, h1, Option.bind_eq_bind, Option.bind_some, h2]
theorem ss_rt {s r : I} {ρ ρ1 : Env1} {v : R} (h1 : (sm G pn wf s).s ρ = some (.rt v ρ1)) : (sm G pn wf (.scons s r)).s ρ = some (.rt v ρ1) := by
  simp only [sm, h1, Option.bind_eq_bind, Option.bind_some]
/-- a def, by its body's answer -/
theorem fn_rt {N ps : Nat} {b : I} {args out : List Sl} {v : R} {ρ : Env1} (hl : args.length = ps) (h : (sm G (ownsAt args 0) wf b).s (args.map some ++ List.replicate (N - args.length) none) = some (.rt v ρ)) (ho : outs args ρ = some out) : fnS G wf N ps b args = some (v, out) := by
  unfold fnS
  rw [if_pos hl, h]
  simp only [ho, Option.map_some]
end
end Dx

namespace Dx
open PySem PySem.Spec PyProof.Rows L2
/-! ## Data that == and repr take -/
theorem textFrom_up {m : Nat} : ∀ (ts : List Str) (k : Nat) (acc : Str), (∀ t ∈ ts, t.length ≤ m) → (textFrom k acc ts).length ≤ acc.length + ts.length * (m + 2)
  | [], k, acc, _ => by show acc.length ≤ _; omega
  | t :: ts, k, acc, h => by
    have ih := textFrom_up ts (k + 1) (acc ++ (if k > 0 then ", " else "" : String) ++ t) fun u hu => h u (List.mem_cons_of_mem _ hu)
    have ht := h t List.mem_cons_self
    have e : ((if k > 0 then ", " else "" : String) : Str).length ≤ 2 := by split <;> decide
    rw [strLen_append, strLen_append] at ih
    show (textFrom (k + 1) (acc ++ (if k > 0 then ", " else "" : String) ++ t) ts).length ≤ _
    rw [List.length_cons, Nat.add_mul]
    omega
theorem listText_up {m : Nat} {ts : List Str} (h : ∀ t ∈ ts, t.length ≤ m) : (listText ts).length ≤ ts.length * (m + 2) + 3 := by
  unfold listText
  have := textFrom_up ts 0 (("[" : String) : Str) h
  have e1 : ((("[" : String) : Str)).length = 1 := rfl
  have e2 : ((("]" : String) : Str)).length = 1 := rfl
  rw [strLen_append]
  omega
theorem join_up {m : Nat} : ∀ {ts : List Str}, (∀ t ∈ ts, t.length ≤ m) → (Str.join ", " ts).length ≤ ts.length * (m + 2)
  | [], _ => Nat.zero_le _
  | [x], h => by
    have := h x List.mem_cons_self
    show x.length ≤ _
    simp; omega
  | x :: y :: r, h => by
    have ih := join_up (ts := y :: r) fun t ht => h t (List.mem_cons_of_mem _ ht)
    have hx := h x List.mem_cons_self
    have e2 : ((", " : String) : Str).length = 2 := rfl
    show (x ++ ", " ++ Str.join ", " (y :: r)).length ≤ _
    rw [strLen_append, strLen_append, List.length_cons, Nat.add_mul]
    omega
theorem tupText_up {m : Nat} {ts : List Str} (h : ∀ t ∈ ts, t.length ≤ m) : (tupleText ts).length ≤ ts.length * (m + 2) + 3 := by
  unfold tupleText
  have := join_up h
  have e1 : ((("(" : String) : Str)).length = 1 := rfl
  have e3 : (((if ts.length == 1 then ",)" else ")" : String) : Str)).length ≤ 2 := by split <;> decide
  rw [strLen_append, strLen_append]
  omega
theorem shownAll_map : ∀ xs : List PyData, PyData.shownAll xs = xs.map PyData.shown
  | [] => by simp [PyData.shownAll]
  | x :: xs => by simp [PyData.shownAll, shownAll_map xs]
theorem plainAll_all : ∀ xs : List PyData, PyData.plainAll xs = xs.all PyData.plain
  | [] => by simp [PyData.plainAll]
  | x :: xs => by simp [PyData.plainAll, plainAll_all xs]
theorem showableAll_all : ∀ xs : List PyData, PyData.showableAll xs = xs.all PyData.showable
  | [] => by simp [PyData.showableAll]
  | x :: xs => by simp [PyData.showableAll, showableAll_all xs]
theorem depthAll_le {k : Nat} : ∀ {xs : List PyData}, (∀ x ∈ xs, x.depth ≤ k) → PyData.depthAll xs ≤ k
  | [], _ => by simp [PyData.depthAll]
  | x :: xs, h => by
    have := depthAll_le (k := k) fun y hy => h y (List.mem_cons_of_mem _ hy)
    have := h x List.mem_cons_self
    rw [PyData.depthAll]
    omega
/-- not deeper than k, its text not longer than m -/
structure Nice (k m : Nat) (d : PyData) : Prop where
  plain : d.plain = true
  depth : d.depth ≤ k
  shows : d.showable = true
  len : d.shown.length ≤ m
section
variable {k m : Nat} {d : PyData} {xs : List PyData}
theorem Nice.mono {k' m' : Nat} (h : Nice k m d) (hk : k ≤ k') (hm : m ≤ m') : Nice k' m' d := ⟨h.plain, Nat.le_trans h.depth hk, h.shows, Nat.le_trans h.len hm⟩
theorem Nice.ok (h : Nice k m d) (hk : k ≤ 64) : okD d = true := by
  unfold okD
  rw [h.plain, decide_eq_true (Nat.le_trans h.depth hk)]; rfl
theorem Nice.repr (h : Nice k m d) (hk : k ≤ 64) (hm : m ≤ sizeLine) : reprOk d = true := by
  unfold reprOk
  rw [h.plain, h.shows, decide_eq_true (Nat.le_trans h.depth hk), decide_eq_true (Nat.le_trans h.len hm)]; rfl
theorem Nice.none : Nice 0 4 .none := ⟨rfl, Nat.le_refl _, rfl, by rw [PyData.shown]; decide⟩
theorem Nice.bool (b : Bool) : Nice 0 5 (.bool b) := ⟨rfl, Nat.le_refl _, rfl, by rw [PyData.shown]; cases b <;> decide⟩
theorem Nice.int {i : Int} {n : Nat} (h : i.natAbs < 2 ^ n) (h0 : 0 < n) (hn : n ≤ 1920) : Nice 0 (n + 1) (.int i) := by
  have hl : i.natAbs.log2 < n := PySem.Flt.log2_lt_of h0 h
  refine ⟨rfl, Nat.le_refl _, ?_, ?_⟩
  · rw [PyData.showable]
    exact decide_eq_true (by omega)
  · rw [PyData.shown]
    have := int_text_length_le h0 hl
    have e : (Str.ofString (toString i)).length = (toString i).length := by
      exact PySem.ofString_length _
    omega
theorem Nice.str {x : Str} (h : (reprText x).length ≤ m) : Nice 0 m (.str x) := ⟨rfl, Nat.le_refl _, rfl, by rw [PyData.shown]; exact h⟩
theorem Nice.list (h : ∀ x ∈ xs, Nice k m x) : Nice (k + 1) (xs.length * (m + 2) + 3) (.list xs) := by
  refine ⟨?_, ?_, ?_, ?_⟩
  · rw [PyData.plain, plainAll_all]; exact List.all_eq_true.mpr fun x hx => (h x hx).plain
  · rw [PyData.depth]; have := depthAll_le fun x hx => (h x hx).depth; omega
  · rw [PyData.showable, showableAll_all]; exact List.all_eq_true.mpr fun x hx => (h x hx).shows
  · rw [PyData.shown, shownAll_map]
    have := listText_up (m := m) (ts := xs.map PyData.shown) fun t ht => by
      obtain ⟨x, hx, rfl⟩ := List.mem_map.mp ht
      exact (h x hx).len
    rwa [List.length_map] at this
theorem Nice.tup (h : ∀ x ∈ xs, Nice k m x) : Nice (k + 1) (xs.length * (m + 2) + 3) (.tuple xs) := by
  refine ⟨?_, ?_, ?_, ?_⟩
  · rw [PyData.plain, plainAll_all]; exact List.all_eq_true.mpr fun x hx => (h x hx).plain
  · rw [PyData.depth]; have := depthAll_le fun x hx => (h x hx).depth; omega
  · rw [PyData.showable, showableAll_all]; exact List.all_eq_true.mpr fun x hx => (h x hx).shows
  · rw [PyData.shown, shownAll_map]
    have := tupText_up (m := m) (ts := xs.map PyData.shown) fun t ht => by
      obtain ⟨x, hx, rfl⟩ := List.mem_map.mp ht
      exact (h x hx).len
    rwa [List.length_map] at this
end
end Dx

namespace Pz
open PySem PySem.Spec PyProof.Rows L2 Dx
def wfuel : Nat := 2 ^ 5000
/-! ### how values stand -/
def ratD (q : Rat) : PyData := .tuple [.int q.num, .int (q.den : Int)]
def optD : Option Int → PyData
  | none => .none
  | some i => .int i
def polD (p : List (Option Int)) : PyData := .tuple (p.map optD)
def ratO : Option Rat → PyData
  | none => .none
  | some q => ratD q
@[simp] theorem isNon_ratO (f : Option Rat) : isNon (ratO f) = f.isNone := by cases f <;> rfl
@[simp] theorem isNon_optD (f : Option Int) : isNon (optD f) = f.isNone := by cases f <;> rfl
/-- a fraction's size -/
def Bd (n : Nat) (q : Rat) : Prop := q.num.natAbs < 2 ^ n ∧ q.den < 2 ^ n
theorem Bd.mono {m n : Nat} {q : Rat} (h : Bd m q) (hmn : m ≤ n) : Bd n q :=
  ⟨Nat.lt_of_lt_of_le h.1 (Nat.pow_le_pow_right (by decide) hmn), Nat.lt_of_lt_of_le h.2 (Nat.pow_le_pow_right (by decide) hmn)⟩
theorem small_abs {i : Int} {n : Nat} (h : i.natAbs < 2 ^ n) (hn : n ≤ 4000) : small i = true :=
  decide_eq_true (Nat.lt_of_lt_of_le h (Nat.pow_le_pow_right (by decide) hn))
theorem small_nat {i n : Nat} (h : i < 2 ^ n) (hn : n ≤ 4000) : small (i : Int) = true := small_abs (i := i) (by simpa using h) hn
theorem Bd.sn {n : Nat} {q : Rat} (h : Bd n q) (hn : n ≤ 4000) : small q.num = true := small_abs h.1 hn
theorem Bd.sd {n : Nat} {q : Rat} (h : Bd n q) (hn : n ≤ 4000) : small (q.den : Int) = true := small_nat h.2 hn
theorem Bd.di {n : Nat} {q : Rat} (h : Bd n q) : ((q.den : Int)).natAbs < 2 ^ n := h.2
theorem den_posI (q : Rat) : (0 : Int) < q.den := by have := q.den_pos; omega
/-- the fraction of two ints -/
def qt (t b : Int) : Rat := Rat.divInt t b
theorem qt_eq (t b : Int) : qt t b = (t : Rat) / (b : Rat) := Rat.divInt_eq_div t b
theorem qt_num {t b : Int} (h : 0 < b) : (qt t b).num = t / (Nat.gcd t.natAbs b.natAbs : Nat) := by
  have hs : b.sign = 1 := Int.sign_eq_one_of_pos h
  rw [qt, Rat.num_divInt, hs, Int.one_mul, show b.gcd t = Nat.gcd t.natAbs b.natAbs from Nat.gcd_comm _ _]
theorem qt_den {t b : Int} (h : 0 < b) : ((qt t b).den : Int) = b / (Nat.gcd t.natAbs b.natAbs : Nat) := by
  rw [qt, Rat.den_divInt, if_neg (by omega), show b.gcd t = Nat.gcd t.natAbs b.natAbs from Nat.gcd_comm _ _]
  rw [Int.natCast_ediv, show (b.natAbs : Int) = b by omega]
theorem qt_ratD {t b : Int} (h : 0 < b) : ratD (qt t b) = .tuple [.int (t / (Nat.gcd t.natAbs b.natAbs : Nat)), .int (b / (Nat.gcd t.natAbs b.natAbs : Nat))] := by
  rw [ratD, qt_num h, qt_den h]
theorem qt_bd {t b : Int} {n : Nat} (h : 0 < b) (h1 : t.natAbs < 2 ^ n) (h2 : b.natAbs < 2 ^ n) : Bd n (qt t b) := by
  have e1 := qt_num (t := t) h
  have e2 := qt_den (t := t) h
  constructor
  · rw [e1]; exact Nat.lt_of_le_of_lt (Int.natAbs_ediv_le_natAbs _ _) h1
  · have := Int.natAbs_ediv_le_natAbs b (Nat.gcd t.natAbs b.natAbs : Nat)
    rw [← e2] at this
    simp only [Int.natAbs_natCast] at this
    omega
theorem qt_self (q : Rat) : qt q.num q.den = q := Rat.num_divInt_den q
theorem qt_add (p q : Rat) : qt (p.num * q.den + q.num * p.den) (p.den * q.den) = p + q := by
  rw [Rat.add_def', qt, show ((p.den : Int) * (q.den : Int)) = ((p.den * q.den : Nat) : Int) by push_cast; rfl, Rat.divInt_ofNat]
theorem qt_sub (p q : Rat) : qt (p.num * q.den - q.num * p.den) (p.den * q.den) = p - q := by
  rw [Rat.sub_def', qt, show ((p.den : Int) * (q.den : Int)) = ((p.den * q.den : Nat) : Int) by push_cast; rfl, Rat.divInt_ofNat]
theorem mul_lt2 {a b : Int} {m n : Nat} (h1 : a.natAbs < 2 ^ m) (h2 : b.natAbs < 2 ^ n) : (a * b).natAbs < 2 ^ (m + n) := by
  rw [Int.natAbs_mul, Nat.pow_add]
  exact Nat.lt_of_le_of_lt (Nat.mul_le_mul_right _ (Nat.le_of_lt h1)) (Nat.mul_lt_mul_of_pos_left h2 (Nat.two_pow_pos m))
theorem add_lt2 {a b : Int} {n : Nat} (h1 : a.natAbs < 2 ^ n) (h2 : b.natAbs < 2 ^ n) : (a + b).natAbs < 2 ^ (n + 1) := by
  rw [Nat.pow_succ]; omega
theorem sub_lt2 {a b : Int} {n : Nat} (h1 : a.natAbs < 2 ^ n) (h2 : b.natAbs < 2 ^ n) : (a - b).natAbs < 2 ^ (n + 1) := by
  rw [Nat.pow_succ]; omega
theorem lt2_mono {a m n : Nat} (h : a < 2 ^ m) (hmn : m ≤ n) : a < 2 ^ n := Nat.lt_of_lt_of_le h (Nat.pow_le_pow_right (by decide) hmn)
theorem Bd.add {m n : Nat} {p q : Rat} (h1 : Bd m p) (h2 : Bd n q) : Bd (m + n + 1) (p + q) := by
  rw [← qt_add]
  refine qt_bd (Int.mul_pos (den_posI p) (den_posI q)) (add_lt2 (mul_lt2 h1.1 (by simpa using h2.2)) ?_) (lt2_mono (mul_lt2 (by simpa using h1.2) (by simpa using h2.2)) (by omega))
  rw [Nat.add_comm m n]; exact mul_lt2 h2.1 (by simpa using h1.2)
theorem Bd.sub {m n : Nat} {p q : Rat} (h1 : Bd m p) (h2 : Bd n q) : Bd (m + n + 1) (p - q) := by
  rw [← qt_sub]
  refine qt_bd (Int.mul_pos (den_posI p) (den_posI q)) (sub_lt2 (mul_lt2 h1.1 (by simpa using h2.2)) ?_) (lt2_mono (mul_lt2 (by simpa using h1.2) (by simpa using h2.2)) (by omega))
  rw [Nat.add_comm m n]; exact mul_lt2 h2.1 (by simpa using h1.2)
theorem Bd.int {n : Nat} {i : Int} (h : i.natAbs < 2 ^ n) (hn : 1 ≤ n) : Bd n (i : Rat) := by
  refine ⟨by rw [Rat.num_intCast]; exact h, ?_⟩
  rw [Rat.den_intCast]
  exact Nat.lt_of_lt_of_le (by decide : 1 < 2 ^ 1) (Nat.pow_le_pow_right (by decide) hn)
theorem rat_lt (p q : Rat) : p.num * q.den < q.num * p.den ↔ p < q := (Rat.lt_iff p q).symm
theorem ratD_inj {p q : Rat} (h : ratD p = ratD q) : p = q := by
  unfold ratD at h
  injection h with h
  injection h with h1 h2
  injection h2 with h2 _
  injection h1 with h1
  injection h2 with h2
  exact Rat.ext h1 (by exact_mod_cast h2)
/-! ### loops -/
section
variable {G : Gx} {pn : List Nat} {wf : Nat}
/-- a for over values of one kind: a fold -/
theorem for_fold {α σ : Type} {t : PyData → Env1 → Option Env1} {b : Env1 → Option Out} (enc : α → PyData) (E : σ → Env1) (step : σ → α → σ) (Iv : List α → σ → Prop) : ∀ (xs : List α) (s : σ), Iv xs s →
    (∀ x r s, Iv (x :: r) s → Iv r (step s x) ∧ ∃ ρ1, t (enc x) (E s) = some ρ1 ∧ (b ρ1 = some (.nx (E (step s x))) ∨ b ρ1 = some (.ct (E (step s x))))) → forG t b (xs.map enc) (E s) = some (.nx (E (xs.foldl step s)))
  | [], s, _, _ => rfl
  | x :: r, s, h, st => by
    obtain ⟨h1, ρ1, h2, h3⟩ := st x r s h
    have ih := for_fold enc E step Iv r (step s x) h1 st
    rw [List.map_cons, List.foldl_cons]
    unfold forG
    rcases h3 with h3 | h3 <;> simp only [h2, h3, Option.bind_eq_bind, Option.bind_some, ih]
/-- a for that returns at the first of a kind -/
theorem for_find {α : Type} {t : PyData → Env1 → Option Env1} {b : Env1 → Option Out} (enc : α → PyData) (E : Env1) (p : α → Bool) (rt : α → R) (E' : α → Env1) : ∀ (xs : List α),
    (∀ x ∈ xs, ∃ ρ1, t (enc x) E = some ρ1 ∧ (p x = false → b ρ1 = some (.nx E)) ∧ (p x = true → b ρ1 = some (.rt (rt x) (E' x)))) →
    forG t b (xs.map enc) E = match xs.find? p with | none => some (.nx E) | some x => some (.rt (rt x) (E' x))
  | [], _ => rfl
  | x :: r, st => by
    obtain ⟨ρ1, h1, h2, h3⟩ := st x List.mem_cons_self
    have ih := for_find enc E p rt E' r fun y hy => st y (List.mem_cons_of_mem _ hy)
    rw [List.map_cons, List.find?_cons]
    unfold forG
    cases q : p x with
    | false => simp only [h1, h2 q, Option.bind_eq_bind, Option.bind_some, ih]
    | true => simp only [h1, h3 q, Option.bind_eq_bind, Option.bind_some]
/-- a for whose turns leave all as it is -/
theorem for_same {t : PyData → Env1 → Option Env1} {b : Env1 → Option Out} {E : Env1} : ∀ (xs : List PyData),
    (∀ x ∈ xs, ∃ ρ1, t x E = some ρ1 ∧ b ρ1 = some (.nx E)) → forG t b xs E = some (.nx E)
  | [], _ => rfl
  | x :: r, st => by
    obtain ⟨ρ1, h1, h2⟩ := st x List.mem_cons_self
    have ih := for_same r fun y hy => st y (List.mem_cons_of_mem _ hy)
    unfold forG
    simp only [h1, h2, Option.bind_eq_bind, Option.bind_some, ih]
/-- a comprehension over values of one kind -/
theorem lc_of {α : Type} {elt tgt it cnd : I} {vs : List Nat} {ρ : Env1} (enc : α → PyData) (p : α → Bool) (g : α → PyData) (xs : List α)
    (h1 : (sm G pn wf it).i ρ = some (xs.map enc, ρ)) (h2 : (vs.all fun v => match ρ[v]? with | some (some (.own _)) => false | _ => true) = true) (hl : xs.length ≤ sizeLine)
    (h : ∀ x ∈ xs, ∃ ρ1 k, (sm G pn wf tgt).t (enc x) (wipeE ρ vs) = some ρ1 ∧ (sm G pn wf cnd).e ρ1 = some (k, ρ1) ∧ truD k.d = some (p x) ∧ (p x = true → ∃ r, (sm G pn wf elt).e ρ1 = some (r, ρ1) ∧ r.d = g x) ∧ backE ρ ρ1 vs = ρ) :
    (sm G pn wf (.lc elt tgt it cnd vs)).e ρ = some (.frs ((xs.filter p).map g), ρ) := by
  refine lc_ev h1 h2 ?_
  have key : ∀ (xs : List α) (acc : List PyData), acc.length + xs.length ≤ sizeLine → (∀ x ∈ xs, ∃ ρ1 k, (sm G pn wf tgt).t (enc x) (wipeE ρ vs) = some ρ1 ∧ (sm G pn wf cnd).e ρ1 = some (k, ρ1) ∧ truD k.d = some (p x) ∧ (p x = true → ∃ r, (sm G pn wf elt).e ρ1 = some (r, ρ1) ∧ r.d = g x) ∧ backE ρ ρ1 vs = ρ) →
      lcG vs ρ (sm G pn wf tgt).t (sm G pn wf cnd).e (sm G pn wf elt).e (xs.map enc) ρ acc = some (acc ++ (xs.filter p).map g, ρ) := by
    intro xs
    induction xs with
    | nil => intro acc _ _; simp [lcG]
    | cons x xs ih =>
      intro acc hl h
      obtain ⟨ρ1, k, h1, h2, h3, h4, h5⟩ := h x List.mem_cons_self
      have ih := fun acc hl => ih acc hl fun y hy => h y (List.mem_cons_of_mem _ hy)
      simp only [List.length_cons] at hl
      rw [List.map_cons]
      unfold lcG
      simp only [h1, h2, h3, Option.bind_eq_bind, Option.bind_some]
      cases q : p x with
      | false =>
        simp only [h5]
        rw [ih acc (by omega), List.filter_cons_of_neg (by simp [q])]
      | true =>
        obtain ⟨r, h6, h7⟩ := h4 q
        simp only [h6, Option.bind_some]
        rw [if_pos (by omega), h5, h7, ih (acc ++ [g x]) (by simp; omega), List.filter_cons_of_pos q]
        simp
  rw [key xs [] (by simpa using hl) h]; rfl
/-- without a condition -/
theorem lc_all {α : Type} {elt tgt it : I} {vs : List Nat} {ρ : Env1} (enc : α → PyData) (g : α → PyData) (xs : List α)
    (h1 : (sm G pn wf it).i ρ = some (xs.map enc, ρ)) (h2 : (vs.all fun v => match ρ[v]? with | some (some (.own _)) => false | _ => true) = true) (hl : xs.length ≤ sizeLine)
    (h : ∀ x ∈ xs, ∃ ρ1, (sm G pn wf tgt).t (enc x) (wipeE ρ vs) = some ρ1 ∧ (∃ r, (sm G pn wf elt).e ρ1 = some (r, ρ1) ∧ r.d = g x) ∧ backE ρ ρ1 vs = ρ) :
    (sm G pn wf (.lc elt tgt it (.bl true) vs)).e ρ = some (.frs (xs.map g), ρ) := by
  have := lc_of (G := G) (pn := pn) (wf := wf) (elt := elt) (tgt := tgt) (it := it) (cnd := .bl true) (vs := vs) (ρ := ρ) enc (fun _ => true) g xs h1 h2 hl (fun x hx => by
    obtain ⟨ρ1, h3, h4, h5⟩ := h x hx
    exact ⟨ρ1, .dat (.bool true), h3, rfl, rfl, fun _ => h4, h5⟩)
  rw [List.filter_eq_self.mpr fun _ _ => rfl] at this
  exact this
end
end Pz

namespace Pz
open PySem PySem.Spec PyProof.Rows L2 Dx
/-! ### equality of encoded values -/
def Sh (k : Nat) (d : PyData) : Prop := d.plain = true ∧ d.depth ≤ k
theorem Sh.ok {k : Nat} {d : PyData} (h : Sh k d) (hk : k ≤ 64) : okD d = true := by
  unfold okD
  rw [h.1, decide_eq_true (Nat.le_trans h.2 hk)]; rfl
theorem Sh.mono {k k' : Nat} {d : PyData} (h : Sh k d) (hk : k ≤ k') : Sh k' d := ⟨h.1, Nat.le_trans h.2 hk⟩
theorem Sh.list {k : Nat} {xs : List PyData} (h : ∀ x ∈ xs, Sh k x) : Sh (k + 1) (.list xs) := by
  refine ⟨?_, ?_⟩
  · rw [PyData.plain, plainAll_all]; exact List.all_eq_true.mpr fun x hx => (h x hx).1
  · rw [PyData.depth]; have := depthAll_le fun x hx => (h x hx).2; omega
theorem Sh.tup {k : Nat} {xs : List PyData} (h : ∀ x ∈ xs, Sh k x) : Sh (k + 1) (.tuple xs) := by
  refine ⟨?_, ?_⟩
  · rw [PyData.plain, plainAll_all]; exact List.all_eq_true.mpr fun x hx => (h x hx).1
  · rw [PyData.depth]; have := depthAll_le fun x hx => (h x hx).2; omega
theorem Sh.int (i : Int) : Sh 0 (.int i) := ⟨rfl, Nat.le_refl _⟩
theorem Sh.bool (i : Bool) : Sh 0 (.bool i) := ⟨rfl, Nat.le_refl _⟩
theorem Sh.none : Sh 0 .none := ⟨rfl, Nat.le_refl _⟩
theorem Sh.optD (o : Option Int) : Sh 0 (optD o) := by cases o <;> exact ⟨rfl, Nat.le_refl _⟩
theorem Sh.ratD (q : Rat) : Sh 1 (ratD q) := Sh.tup (k := 0) fun x hx => by
  simp at hx
  rcases hx with rfl | rfl <;> exact Sh.int _
theorem Sh.ratO (q : Option Rat) : Sh 1 (ratO q) := by
  cases q with
  | none => exact Sh.none.mono (by omega)
  | some q => exact Sh.ratD q
theorem Sh.map {α : Type} {k : Nat} (enc : α → PyData) (h : ∀ a, Sh k (enc a)) (xs : List α) : ∀ x ∈ xs.map enc, Sh k x := fun x hx => by
  obtain ⟨a, _, rfl⟩ := List.mem_map.mp hx
  exact h a
theorem Sh.polD (p : List (Option Int)) : Sh 1 (polD p) := Sh.tup (Sh.map _ Sh.optD p)
/-- an encoding told by == -/
def EqE {α : Type} [DecidableEq α] (enc : α → PyData) : Prop := ∀ a b, PyData.eqv (enc a) (enc b) = decide (a = b)
theorem eqvAll_map {α : Type} [DecidableEq α] {enc : α → PyData} (h : EqE enc) : ∀ xs ys : List α, PyData.eqvAll (xs.map enc) (ys.map enc) = decide (xs = ys)
  | [], [] => by simp [PyData.eqvAll]
  | [], y :: ys => by simp [PyData.eqvAll]
  | x :: xs, [] => by simp [PyData.eqvAll]
  | x :: xs, y :: ys => by
    simp only [List.map_cons, PyData.eqvAll, h x y, eqvAll_map h xs ys, List.cons.injEq, Bool.decide_and]
theorem EqE.list {α : Type} [DecidableEq α] {enc : α → PyData} (h : EqE enc) : EqE (fun xs : List α => .list (xs.map enc)) := fun xs ys => by
  rw [PyData.eqv, eqvAll_map h]
theorem EqE.tup {α : Type} [DecidableEq α] {enc : α → PyData} (h : EqE enc) : EqE (fun xs : List α => .tuple (xs.map enc)) := fun xs ys => by
  rw [PyData.eqv, eqvAll_map h]
theorem EqE.int : EqE PyData.int := fun a b => eqv_int a b
theorem EqE.optD : EqE optD := fun a b => by
  cases a <;> cases b <;> simp [Pz.optD, PyData.eqv]
theorem EqE.polD : EqE polD := EqE.optD.tup
theorem EqE.ratD : EqE ratD := fun a b => by
  have e : (a = b) ↔ (a.num = b.num ∧ (a.den : Int) = b.den) := ⟨fun h => by subst h; exact ⟨rfl, rfl⟩, fun h => Rat.ext h.1 (by exact_mod_cast h.2)⟩
  unfold Pz.ratD
  simp only [PyData.eqv, PyData.eqvAll, eqv_int, Bool.and_true]
  by_cases h : a = b
  · subst h; simp
  · rw [decide_eq_false h]
    refine Bool.eq_false_iff.mpr fun z => h (e.mpr ?_)
    simpa using z
theorem EqE.ratO : EqE ratO := fun a b => by
  cases a with
  | none => cases b <;> simp [Pz.ratO, PyData.eqv, Pz.ratD]
  | some a =>
    cases b with
    | none => simp [Pz.ratO, PyData.eqv, Pz.ratD]
    | some b => simpa [Pz.ratO] using EqE.ratD a b
theorem cmp_eqE {α : Type} [DecidableEq α] {enc : α → PyData} (h : EqE enc) {k : Nat} (sh : ∀ a, Sh k (enc a)) (hk : k ≤ 64) (a b : α) : cmpD .Eq (enc a) (enc b) = some (decide (a = b)) := by
  rw [cmp_eq ((sh a).ok hk) ((sh b).ok hk), h]
theorem cmp_neE {α : Type} [DecidableEq α] {enc : α → PyData} (h : EqE enc) {k : Nat} (sh : ∀ a, Sh k (enc a)) (hk : k ≤ 64) (a b : α) : cmpD .NotEq (enc a) (enc b) = some (!decide (a = b)) := by
  rw [cmp_ne ((sh a).ok hk) ((sh b).ok hk), h]
@[simp] theorem eq_ratD (a b : Rat) : cmpD .Eq (ratD a) (ratD b) = some (decide (a = b)) := cmp_eqE EqE.ratD Sh.ratD (by omega) a b
@[simp] theorem ne_ratD (a b : Rat) : cmpD .NotEq (ratD a) (ratD b) = some (!decide (a = b)) := cmp_neE EqE.ratD Sh.ratD (by omega) a b
@[simp] theorem eq_ratO (a b : Option Rat) : cmpD .Eq (ratO a) (ratO b) = some (decide (a = b)) := cmp_eqE EqE.ratO Sh.ratO (by omega) a b
@[simp] theorem ne_ratO (a b : Option Rat) : cmpD .NotEq (ratO a) (ratO b) = some (!decide (a = b)) := cmp_neE EqE.ratO Sh.ratO (by omega) a b
@[simp] theorem eq_polD (a b : List (Option Int)) : cmpD .Eq (polD a) (polD b) = some (decide (a = b)) := cmp_eqE EqE.polD Sh.polD (by omega) a b
/-- a list against the empty one -/
theorem ne_nil {α : Type} {enc : α → PyData} {k : Nat} (sh : ∀ a, Sh k (enc a)) (hk : k ≤ 60) (xs : List α) : cmpD .NotEq (.list (xs.map enc)) (.list []) = some (!xs.isEmpty) := by
  rw [cmp_ne ((Sh.list (Sh.map enc sh xs)).ok (by omega)) (by decide)]
  cases xs <;> simp [PyData.eqv, PyData.eqvAll]
theorem eq_nil {α : Type} {enc : α → PyData} {k : Nat} (sh : ∀ a, Sh k (enc a)) (hk : k ≤ 60) (xs : List α) : cmpD .Eq (.list (xs.map enc)) (.list []) = some xs.isEmpty := by
  rw [cmp_eq ((Sh.list (Sh.map enc sh xs)).ok (by omega)) (by decide)]
  cases xs <;> simp [PyData.eqv, PyData.eqvAll]
/-! ### texts of encoded values -/
theorem ne_str (x : Str) : cmpD .NotEq (.str x) (.str x) = some false := by
  rw [cmp_ne (okD_str x) (okD_str x)]
  simp [PyData.eqv]
theorem eq_str (x : Str) : cmpD .Eq (.str x) (.str x) = some true := by
  rw [cmp_eq (okD_str x) (okD_str x)]
  simp [PyData.eqv]
theorem Nice.optD {o : Option Int} {n : Nat} (h : ∀ c, o = some c → c.natAbs < 2 ^ n) (h0 : 3 < n) (hn : n ≤ 1920) : Nice 0 (n + 1) (optD o) := by
  cases o with
  | none => exact Nice.none.mono (by omega) (by omega)
  | some c => exact Nice.int (h c rfl) (by omega) hn
theorem Nice.ratD {q : Rat} {n : Nat} (h : Bd n q) (h0 : 0 < n) (hn : n ≤ 1920) : Nice 1 (2 * (n + 3) + 3) (ratD q) := by
  refine Nice.tup (k := 0) (m := n + 1) (xs := [.int q.num, .int (q.den : Int)]) fun x hx => ?_
  simp at hx
  rcases hx with rfl | rfl
  · exact Nice.int h.1 h0 hn
  · exact Nice.int h.di h0 hn
theorem Nice.ratO {f : Option Rat} {n : Nat} (h : ∀ g, f = some g → Bd n g) (h0 : 0 < n) (hn : n ≤ 1920) : Nice 1 (2 * (n + 3) + 3) (ratO f) := by
  cases f with
  | none => exact Nice.none.mono (by omega) (by omega)
  | some g => exact Nice.ratD (h g rfl) h0 hn
theorem Nice.two {k m : Nat} {a b : PyData} (ha : Nice k m a) (hb : Nice k m b) : Nice (k + 1) (2 * (m + 2) + 3) (.list [a, b]) := Nice.list (xs := [a, b]) fun x hx => by
  simp at hx
  rcases hx with rfl | rfl
  · exact ha
  · exact hb
theorem Nice.polD {p : List (Option Int)} {n : Nat} (h : ∀ o ∈ p, ∀ c, o = some c → c.natAbs < 2 ^ n) (h0 : 3 < n) (hn : n ≤ 1920) : Nice 1 (p.length * (n + 3) + 3) (polD p) := by
  have := Nice.tup (k := 0) (m := n + 1) (xs := p.map Pz.optD) fun x hx => by
    obtain ⟨o, ho, rfl⟩ := List.mem_map.mp hx
    exact Nice.optD (h o ho) h0 hn
  rwa [List.length_map] at this
/-! ### slices -/
theorem cut_from (xs : List PyData) (n : Nat) : Dx.cutD xs (some (n : Int)) none = xs.drop n := by
  unfold Dx.cutD
  rw [HT.sIx_nat, HT.sIx_none]
  by_cases h : n ≤ xs.length
  · rw [Nat.min_eq_left h, List.take_of_length_le (by rw [List.length_drop]; omega)]
  · rw [Nat.min_eq_right (by omega), List.drop_eq_nil_of_le (Nat.le_refl _), List.drop_eq_nil_of_le (by omega)]; simp
theorem cut_to (xs : List PyData) (n : Nat) : Dx.cutD xs none (some (n : Int)) = xs.take n := by
  unfold Dx.cutD
  rw [HT.sIx_nat, HT.sIx_none, List.drop_zero, Nat.sub_zero]
  by_cases h : n ≤ xs.length
  · rw [Nat.min_eq_left h]
  · rw [Nat.min_eq_right (by omega), List.take_of_length_le (Nat.le_refl _), List.take_of_length_le (by omega)]
theorem cut1 (xs : List PyData) : Dx.cutD xs (some 1) none = xs.tail := by
  rw [← List.drop_one]; exact cut_from xs 1
@[simp] theorem ix_ratD0 (q : Rat) : idxD (ratD q) (.int 0) = some (.int q.num) := rfl
@[simp] theorem ix_ratD1 (q : Rat) : idxD (ratD q) (.int 1) = some (.int (q.den : Int)) := rfl
/-- neighbours, by zip -/
def prG {α β : Type} (f : α → PyData) (g : β → PyData) (x : α × β) : PyData := .tuple [f x.1, g x.2]
theorem zip_prG {α β : Type} (f : α → PyData) (g : β → PyData) : ∀ (xs : List α) (ys : List β), List.zipWith (fun x y => PyData.tuple [x, y]) (xs.map f) (ys.map g) = (xs.zip ys).map (prG f g)
  | [], _ => rfl
  | x :: xs, [] => rfl
  | x :: xs, y :: ys => by
    rw [List.map_cons, List.map_cons, List.zipWith_cons_cons, zip_prG f g xs ys]; rfl
theorem zip_next {α : Type} (f : α → PyData) (xs : List α) : List.zipWith (fun x y => PyData.tuple [x, y]) (xs.map f) (xs.map f).tail = (xs.zip xs.tail).map (prG f f) := by
  rw [← List.map_tail, zip_prG]
/-- the last element -/
theorem at_last {α : Type} (f : α → PyData) {xs : List α} {a : α} (h : xs.getLast? = some a) : atI (xs.map f) (-1) = some (f a) := by
  have hne : xs ≠ [] := by intro z; rw [z] at h; cases h
  have hl : 0 < xs.length := List.length_pos_iff.mpr hne
  have e : ixN (xs.map f).length (-1) = some (xs.length - 1) := by
    unfold ixN
    rw [List.length_map]
    simp
    omega
  unfold atI
  rw [e]
  rw [List.getLast?_eq_getElem?] at h
  show (xs.map f)[xs.length - 1]? = some (f a)
  rw [List.getElem?_map, h]; rfl
end Pz

namespace Lz
open PySem PySem.Spec PyProof.Rows L2 Dx Pz
/-! ## Plain mathematics: times, latest ones, lines -/
abbrev Tt := Option Int
abbrev Vc := List Tt
abbrev Tb := List Vc
/-- not later -/
def Le : Tt → Tt → Prop
  | none, _ => True
  | some _, none => False
  | some x, some y => x ≤ y
theorem Le.refl : ∀ a : Tt, Le a a
  | none => trivial
  | some x => Int.le_refl x
theorem Le.trans : ∀ {a b c : Tt}, Le a b → Le b c → Le a c
  | none, _, _, _, _ => trivial
  | some x, none, _, h, _ => h.elim
  | some x, some y, none, _, h => h.elim
  | some x, some y, some z, h1, h2 => Int.le_trans h1 h2
theorem Le.anti : ∀ {a b : Tt}, Le a b → Le b a → a = b
  | none, none, _, _ => rfl
  | none, some _, _, h => h.elim
  | some _, none, h, _ => h.elim
  | some x, some y, h1, h2 => by rw [Int.le_antisymm h1 h2]
theorem Le.none (b : Tt) : Le none b := trivial
theorem le_none {a : Tt} : Le a none ↔ a = none := by cases a <;> simp [Le]
theorem le_some {x y : Int} : Le (some x) (some y) ↔ x ≤ y := Iff.rfl
theorem some_le {x : Int} {b : Tt} (h : Le (some x) b) : ∃ y, b = some y ∧ x ≤ y := by
  cases b with
  | none => exact h.elim
  | some y => exact ⟨y, rfl, h⟩
/-- told by what is not earlier -/
theorem yon {a b : Tt} (h : ∀ c, Le a c ↔ Le b c) : a = b := Le.anti ((h b).mpr (Le.refl b)) ((h a).mp (Le.refl a))
/-- then -/
def pl : Tt → Tt → Tt
  | some a, some b => some (a + b)
  | _, _ => none
@[simp] theorem pl_none (a : Tt) : pl a none = none := by cases a <;> rfl
@[simp] theorem none_pl (a : Tt) : pl none a = none := by cases a <;> rfl
@[simp] theorem pl_some (a b : Int) : pl (some a) (some b) = some (a + b) := rfl
theorem pl_comm (a b : Tt) : pl a b = pl b a := by cases a <;> cases b <;> simp [Int.add_comm]
theorem pl_rot (x a m : Tt) : pl x (pl a m) = pl a (pl m x) := by cases x <;> cases a <;> cases m <;> simp [Int.add_comm, Int.add_left_comm]
theorem pl_assoc (a b c : Tt) : pl (pl a b) c = pl a (pl b c) := by cases a <;> cases b <;> cases c <;> simp [Int.add_assoc]
/-- a shift can be taken back -/
theorem pl_le (a : Int) (s b : Tt) : Le (pl (some a) s) b ↔ Le s (pl (some (-a)) b) := by
  cases s with
  | none => simp [Le]
  | some s =>
    cases b with
    | none => simp [Le]
    | some b => simp only [pl_some, le_some]; omega
theorem pl_mono {a b c d : Tt} (h1 : Le a b) (h2 : Le c d) : Le (pl a c) (pl b d) := by
  cases a with
  | none => exact Le.none _
  | some a =>
    cases c with
    | none => exact Le.none _
    | some c =>
      obtain ⟨b', rfl, h1⟩ := some_le h1
      obtain ⟨d', rfl, h2⟩ := some_le h2
      show a + c ≤ b' + d'
      omega
/-- the latest -/
def mx (l : List Tt) : Tt := if l.filterMap id = [] then none else some (maxL (l.filterMap id))
theorem mx_le {l : List Tt} {b : Tt} : Le (mx l) b ↔ ∀ a ∈ l, Le a b := by
  have mem : ∀ x : Int, x ∈ l.filterMap id ↔ some x ∈ l := fun x => by simp [List.mem_filterMap]
  unfold mx
  split
  · rename_i h
    constructor
    · intro _ a ha
      cases a with
      | none => exact Le.none _
      | some x => have := (mem x).mpr ha; rw [h] at this; cases this
    · intro _; exact Le.none _
  · rename_i h
    obtain ⟨h1, h2⟩ := maxL_ok h
    constructor
    · intro w a ha
      cases a with
      | none => exact Le.none _
      | some x => exact Le.trans (le_some.mpr (h2 x ((mem x).mpr ha))) w
    · intro w; exact w _ ((mem _).mp h1)
theorem mx_ge {l : List Tt} {a : Tt} (h : a ∈ l) : Le a (mx l) := mx_le.mp (Le.refl _) a h
theorem mx_mem {l : List Tt} {x : Int} (h : mx l = some x) : some x ∈ l := by
  unfold mx at h
  split at h
  · cases h
  · rename_i hne
    have := (maxL_ok hne).1
    rw [Option.some.inj h] at this
    simpa [List.mem_filterMap] using this
/-! ### entries -/
def g (v : Vc) (i : Nat) : Tt := v.getD i none
def G (t : Tb) (i j : Nat) : Tt := g (t.getD i []) j
theorem g_get {v : Vc} {i : Nat} (h : i < v.length) : v[i]? = some (g v i) := by
  unfold g; rw [List.getD_eq_getElem?_getD, List.getElem?_eq_getElem h]; rfl
theorem g_of {v : Vc} {i : Nat} {a : Tt} (h : v[i]? = some a) : g v i = a := by
  unfold g; rw [List.getD_eq_getElem?_getD, h]; rfl
theorem g_out {v : Vc} {i : Nat} (h : v.length ≤ i) : g v i = none := by
  unfold g; rw [List.getD_eq_getElem?_getD, List.getElem?_eq_none h]; rfl
theorem G_of {t : Tb} {i : Nat} {r : Vc} (h : t[i]? = some r) (j : Nat) : G t i j = g r j := by
  unfold G; rw [List.getD_eq_getElem?_getD, h]; rfl
theorem G_out {t : Tb} {i : Nat} (h : t.length ≤ i) (j : Nat) : G t i j = none := by
  unfold G; rw [List.getD_eq_getElem?_getD, List.getElem?_eq_none h]; rfl
theorem vec_ext {u v : Vc} (h : u.length = v.length) (w : ∀ i, g u i = g v i) : u = v := by
  refine List.ext_getElem? fun i => ?_
  by_cases hi : i < u.length
  · rw [g_get hi, g_get (by omega), w]
  · rw [List.getElem?_eq_none (by omega), List.getElem?_eq_none (by omega)]
/-- what comes to each place -/
def ap (t : Tb) (v : Vc) : Vc := t.map fun row => mx (List.zipWith pl row v)
theorem ap_len (t : Tb) (v : Vc) : (ap t v).length = t.length := List.length_map _
theorem zip_le {u v : Vc} {b : Tt} : (∀ a ∈ List.zipWith pl u v, Le a b) ↔ ∀ j, Le (pl (g u j) (g v j)) b := by
  constructor
  · intro h j
    by_cases h1 : j < u.length
    · by_cases h2 : j < v.length
      · refine h _ (List.mem_iff_getElem?.mpr ⟨j, ?_⟩)
        rw [List.getElem?_zipWith, g_get h1, g_get h2]
      · rw [g_out (show v.length ≤ j by omega), pl_none]; exact Le.none _
    · rw [g_out (show u.length ≤ j by omega), none_pl]; exact Le.none _
  · intro h a ha
    obtain ⟨j, hj⟩ := List.mem_iff_getElem?.mp ha
    rw [List.getElem?_zipWith] at hj
    cases e1 : u[j]? with
    | none => rw [e1] at hj; simp at hj
    | some x =>
      cases e2 : v[j]? with
      | none => rw [e1, e2] at hj; simp at hj
      | some y =>
        rw [e1, e2] at hj
        have := h j
        rw [g_of e1, g_of e2] at this
        cases hj
        exact this
theorem ap_le {t : Tb} {v : Vc} {i : Nat} {b : Tt} : Le (g (ap t v) i) b ↔ ∀ j, Le (pl (G t i j) (g v j)) b := by
  by_cases hi : i < t.length
  · have e : (ap t v)[i]? = some (mx (List.zipWith pl t[i] v)) := by unfold ap; rw [List.getElem?_map, List.getElem?_eq_getElem hi]; rfl
    rw [g_of e, mx_le, zip_le]
    have : ∀ j, G t i j = g t[i] j := fun j => G_of (List.getElem?_eq_getElem hi) j
    simp only [this]
  · rw [g_out (by rw [ap_len]; omega)]
    constructor
    · intro _ j; rw [G_out (by omega), none_pl]; exact Le.none _
    · intro _; exact Le.none _
/-- the later ones -/
def jn (u v : Vc) : Vc := List.zipWith (fun a b => mx [a, b]) u v
theorem jn_len {u v : Vc} (h : u.length = v.length) : (jn u v).length = v.length := by unfold jn; rw [List.length_zipWith]; omega
theorem jn_le {u v : Vc} (h : u.length = v.length) {i : Nat} {b : Tt} : Le (g (jn u v) i) b ↔ Le (g u i) b ∧ Le (g v i) b := by
  by_cases hi : i < u.length
  · have e : (jn u v)[i]? = some (mx [g u i, g v i]) := by unfold jn; rw [List.getElem?_zipWith, g_get hi, g_get (by omega)]
    rw [g_of e, mx_le]
    simp
  · rw [g_out (by rw [jn_len h]; omega), g_out (v := u) (by omega), g_out (v := v) (by omega)]
    simp [Le]
/-- columns -/
def cols (t : Tb) : Tb := (List.range (t.headD []).length).map fun j => t.map fun r => r.getD j none
def pr (t o : Tb) : Tb := t.map fun row => (cols o).map fun col => mx (List.zipWith pl row col)
/-- all rows of one length -/
def Rect (t : Tb) (m : Nat) : Prop := t ≠ [] ∧ ∀ r ∈ t, r.length = m
theorem Rect.head {t : Tb} {m : Nat} (h : Rect t m) : (t.headD []).length = m := by
  cases t with
  | nil => exact absurd rfl h.1
  | cons r t => exact h.2 r List.mem_cons_self
theorem Rect.col {t : Tb} {m : Nat} (h : Rect t m) {i j : Nat} (hj : m ≤ j) : G t i j = none := by
  by_cases hi : i < t.length
  · rw [G_of (List.getElem?_eq_getElem hi)]
    exact g_out (by rw [h.2 _ (List.getElem_mem hi)]; exact hj)
  · exact G_out (by omega) j
theorem pr_rect {t o : Tb} {m : Nat} (ht : t ≠ []) (h : Rect o m) : Rect (pr t o) m := by
  refine ⟨fun z => ht (List.map_eq_nil_iff.mp z), fun r hr => ?_⟩
  obtain ⟨row, _, rfl⟩ := List.mem_map.mp hr
  unfold cols
  rw [List.length_map, List.length_map, List.length_range, h.head]
theorem pr_len (t o : Tb) : (pr t o).length = t.length := List.length_map _
theorem pr_le {t o : Tb} {m : Nat} (h : Rect o m) {i j : Nat} {b : Tt} : Le (G (pr t o) i j) b ↔ ∀ k, Le (pl (G t i k) (G o k j)) b := by
  by_cases hi : i < t.length
  · have e : (pr t o)[i]? = some ((cols o).map fun col => mx (List.zipWith pl t[i] col)) := by unfold pr; rw [List.getElem?_map, List.getElem?_eq_getElem hi]; rfl
    rw [G_of e]
    by_cases hj : j < m
    · have e2 : ((cols o).map fun col => mx (List.zipWith pl t[i] col))[j]? = some (mx (List.zipWith pl t[i] (o.map fun r => r.getD j none))) := by
        unfold cols
        rw [h.head, List.map_map, List.getElem?_map, List.getElem?_range hj]; rfl
      rw [g_of e2, mx_le, zip_le]
      have e3 : ∀ k, g (o.map fun r => r.getD j none) k = G o k j := fun k => by
        by_cases hk : k < o.length
        · rw [G_of (List.getElem?_eq_getElem hk)]
          refine g_of ?_
          rw [List.getElem?_map, List.getElem?_eq_getElem hk]; rfl
        · rw [g_out (by rw [List.length_map]; omega), G_out (by omega)]
      have e4 : ∀ k, g t[i] k = G t i k := fun k => (G_of (List.getElem?_eq_getElem hi) k).symm
      simp only [e3, e4]
    · rw [g_out (by unfold cols; rw [List.length_map, List.length_map, List.length_range, h.head]; omega)]
      constructor
      · intro _ k; rw [h.col (by omega), pl_none]; exact Le.none _
      · intro _; exact Le.none _
  · rw [G_out (by rw [pr_len]; omega)]
    constructor
    · intro _ k; rw [G_out (by omega), none_pl]; exact Le.none _
    · intro _; exact Le.none _
/-! ### least upper bounds -/
def Lub {ι : Type} (y : Tt) (f : ι → Tt) : Prop := ∀ b, Le y b ↔ ∀ q, Le (f q) b
theorem Lub.ge {ι : Type} {y : Tt} {f : ι → Tt} (h : Lub y f) (q : ι) : Le (f q) y := (h y).mp (Le.refl y) q
theorem Lub.eq {ι : Type} {y z : Tt} {f : ι → Tt} (h : Lub y f) (h2 : Lub z f) : y = z := yon fun b => (h b).trans (h2 b).symm
theorem Lub.le {ι κ : Type} {y z : Tt} {f : ι → Tt} {k : κ → Tt} (h : Lub y f) (h2 : Lub z k) (w : ∀ q, ∃ r, Le (f q) (k r)) : Le y z := (h z).mpr fun q => by
  obtain ⟨r, hr⟩ := w q
  exact Le.trans hr (h2.ge r)
theorem Lub.pl {ι : Type} {y : Tt} {f : ι → Tt} (h : Lub y f) (a : Tt) : Lub (pl a y) fun q => Lz.pl a (f q) := fun b => by
  cases a with
  | none => simp [Le]
  | some a =>
    rw [pl_le, h]
    exact forall_congr' fun q => (pl_le a (f q) b).symm
theorem Lub.at {ι : Type} {m : Int} {f : ι → Tt} (h : Lub (some m) f) : ∃ q, f q = some m := by
  have h1 : ¬ Le (some m) (some (m - 1)) := by rw [le_some]; omega
  rw [h] at h1
  obtain ⟨q, hq⟩ := Classical.not_forall.mp h1
  refine ⟨q, ?_⟩
  have h2 := h.ge q
  cases e : f q with
  | none => rw [e] at hq; exact absurd (Le.none _) hq
  | some y =>
    rw [e] at hq h2
    rw [le_some] at hq h2
    congr 1; omega
theorem Lub.map {ι κ : Type} {y : Tt} {f : ι → Tt} {k : κ → Tt} (h : Lub y f) (h1 : ∀ q, ∃ r, Le (f q) (k r)) (h2 : ∀ r, ∃ q, Le (k r) (f q)) : Lub y k := fun b => by
  rw [h]
  constructor
  · intro w r
    obtain ⟨q, hq⟩ := h2 r
    exact Le.trans hq (w q)
  · intro w q
    obtain ⟨r, hr⟩ := h1 q
    exact Le.trans hr (w r)
/-! ### driving -/
/-- states, step by step, from a last one on -/
def stF (A B : Tb) : List Vc → Vc → List Vc
  | [], _ => []
  | v :: r, last => jn (ap A last) (ap B v) :: stF A B r (jn (ap A last) (ap B v))
def stP (A B : Tb) : List Vc → List Vc
  | [] => []
  | v :: r => ap B v :: stF A B r (ap B v)
theorem g_nones (n i : Nat) : g (List.replicate n (none : Tt)) i = none := by
  by_cases h : i < n
  · exact g_of (by rw [List.getElem?_replicate, if_pos h])
  · exact g_out (by rw [List.length_replicate]; omega)
theorem first_eq {A B : Tb} (h : A.length = B.length) (n : Nat) (v : Vc) : jn (ap A (List.replicate n none)) (ap B v) = ap B v := by
  have hl : (ap A (List.replicate n none)).length = (ap B v).length := by rw [ap_len, ap_len, h]
  refine vec_ext (jn_len hl) fun i => yon fun b => ?_
  rw [jn_le hl, ap_le]
  constructor
  · exact fun w => w.2
  · exact fun w => ⟨fun j => by rw [g_nones, pl_none]; exact Le.none _, w⟩
theorem st_eq {A B : Tb} (h : A.length = B.length) (n : Nat) : ∀ vs : List Vc, stF A B vs (List.replicate n none) = stP A B vs
  | [] => rfl
  | v :: r => by rw [stF, stP, first_eq h]
theorem stF_len (A B : Tb) : ∀ (vs : List Vc) (last : Vc), (stF A B vs last).length = vs.length
  | [], _ => rfl
  | v :: r, last => by simp [stF, stF_len A B r]
theorem stP_len (A B : Tb) : ∀ vs : List Vc, (stP A B vs).length = vs.length
  | [] => rfl
  | v :: r => by simp [stP, stF_len]
/-- the state at a step -/
def sAt (A B : Tb) (vs : List Vc) : Nat → Vc
  | 0 => ap B (vs.getD 0 [])
  | k + 1 => jn (ap A (sAt A B vs k)) (ap B (vs.getD (k + 1) []))
theorem sAt_len {A B : Tb} (h : A.length = B.length) (vs : List Vc) : ∀ k, (sAt A B vs k).length = B.length
  | 0 => ap_len _ _
  | k + 1 => by rw [sAt, jn_len (by rw [ap_len, ap_len, h]), ap_len]
theorem stF_get {A B : Tb} : ∀ (vs pre : List Vc) (k : Nat), pre ≠ [] → k < vs.length → (stF A B vs (sAt A B (pre ++ vs) (pre.length - 1)))[k]? = some (sAt A B (pre ++ vs) (pre.length + k))
  | [], _, k, _, h => by simp at h
  | v :: r, pre, k, hp, h => by
    have hl := List.length_pos_iff.mpr hp
    have e1 : (pre ++ v :: r).getD pre.length [] = v := by
      rw [List.getD_eq_getElem?_getD, List.getElem?_append_right (Nat.le_refl _), Nat.sub_self]; rfl
    have e : jn (ap A (sAt A B (pre ++ v :: r) (pre.length - 1))) (ap B v) = sAt A B (pre ++ v :: r) pre.length := by
      obtain ⟨n, hn⟩ : ∃ n, pre.length = n + 1 := ⟨pre.length - 1, by omega⟩
      rw [hn] at e1 ⊢
      rw [sAt, e1]; rfl
    rw [stF, e]
    cases k with
    | zero => simp
    | succ k =>
      rw [List.getElem?_cons_succ]
      have := stF_get (A := A) (B := B) r (pre ++ [v]) k (by simp) (by simpa using h)
      rw [List.append_assoc] at this
      simp only [List.singleton_append, List.length_append, List.length_singleton, Nat.add_sub_cancel] at this
      rw [this, show pre.length + 1 + k = pre.length + (k + 1) by omega]
theorem stP_get {A B : Tb} {vs : List Vc} {k : Nat} (h : k < vs.length) : (stP A B vs)[k]? = some (sAt A B vs k) := by
  cases vs with
  | nil => simp at h
  | cons v r =>
    rw [stP]
    cases k with
    | zero => simp [sAt]
    | succ k =>
      have := stF_get (A := A) (B := B) r [v] k (by simp) (by simpa using h)
      simp only [List.singleton_append, List.length_singleton, Nat.sub_self] at this
      have e : sAt A B (v :: r) 0 = ap B v := rfl
      rw [e] at this
      rw [List.getElem?_cons_succ, this, Nat.add_comm]
/-- what one input is to each place so many steps behind -/
def Mk (A B : Tb) : Nat → Tb
  | 0 => B
  | k + 1 => pr A (Mk A B k)
theorem Mk_rect {A B : Tb} {w : Nat} (hA : A ≠ []) (hB : Rect B w) : ∀ k, Rect (Mk A B k) w
  | 0 => hB
  | k + 1 => pr_rect hA (Mk_rect hA hB k)
theorem s_lub {A B : Tb} {w : Nat} (hA : A ≠ []) (hB : Rect B w) (hl : A.length = B.length) (vs : List Vc) : ∀ (k p : Nat), Lub (g (sAt A B vs k) p) fun x : Nat × Nat => if x.1 ≤ k then pl (G (Mk A B (k - x.1)) p x.2) (g (vs.getD x.1 []) x.2) else none
  | 0, p => fun b => by
    rw [sAt, ap_le]
    constructor
    · rintro h ⟨n, j⟩
      dsimp only
      split
      · rename_i hn
        have : n = 0 := by omega
        subst this
        exact h j
      · exact Le.none _
    · exact fun h j => h (0, j)
  | k + 1, p => fun b => by
    have hl2 : (ap A (sAt A B vs k)).length = (ap B (vs.getD (k + 1) [])).length := by rw [ap_len, ap_len, hl]
    rw [sAt, jn_le hl2, ap_le, ap_le]
    have ih := fun q => (s_lub hA hB hl vs k q).pl (G A p q)
    have step : (∀ q, Le (pl (G A p q) (g (sAt A B vs k) q)) b) ↔ ∀ x : Nat × Nat, x.1 ≤ k → Le (pl (G (Mk A B (k + 1 - x.1)) p x.2) (g (vs.getD x.1 []) x.2)) b := by
      have key : ∀ x : Nat × Nat, x.1 ≤ k → (Le (pl (G (Mk A B (k + 1 - x.1)) p x.2) (g (vs.getD x.1 []) x.2)) b ↔ ∀ q, Le (pl (G A p q) (pl (G (Mk A B (k - x.1)) q x.2) (g (vs.getD x.1 []) x.2))) b) := fun x hx => by
        have e : k + 1 - x.1 = (k - x.1) + 1 := by omega
        have L : Lub (G (Mk A B (k + 1 - x.1)) p x.2) fun q => pl (G A p q) (G (Mk A B (k - x.1)) q x.2) := fun b => by
          rw [e, Mk]; exact pr_le (Mk_rect hA hB _)
        rw [pl_comm, (L.pl _) b]
        exact forall_congr' fun q => by dsimp only; rw [pl_rot (g _ _)]
      constructor
      · intro h x hx
        rw [key x hx]
        intro q
        have := (ih q b).mp (h q) x
        dsimp only at this
        rw [if_pos hx] at this
        exact this
      · intro h q
        rw [ih q b]
        intro x
        dsimp only
        split
        · rename_i hx
          exact (key x hx).mp (h x hx) q
        · rw [pl_none]; exact Le.none _
    rw [step]
    constructor
    · rintro ⟨h1, h2⟩ ⟨n, j⟩
      dsimp only
      split
      · rename_i hn
        by_cases e : n = k + 1
        · subst e
          rw [Nat.sub_self]
          exact h2 j
        · exact h1 (n, j) (show n ≤ k by omega)
      · exact Le.none _
    · intro h
      refine ⟨fun x hx => ?_, fun j => ?_⟩
      · have := h x
        dsimp only at this
        rw [if_pos (by omega)] at this
        exact this
      · have := h (k + 1, j)
        dsimp only at this
        rw [if_pos (Nat.le_refl _), Nat.sub_self] at this
        exact this
/-- outputs -/
def oAt (A B C : Tb) (vs : List Vc) (k : Nat) : Vc := ap C (sAt A B vs k)
def out (A B C : Tb) (vs : List Vc) : List Vc := (stP A B vs).map (ap C)
theorem out_len (A B C : Tb) (vs : List Vc) : (out A B C vs).length = vs.length := by unfold out; rw [List.length_map, stP_len]
theorem out_get {A B C : Tb} {vs : List Vc} {k : Nat} (h : k < vs.length) : (out A B C vs)[k]? = some (oAt A B C vs k) := by
  unfold out
  rw [List.getElem?_map, stP_get h]; rfl
/-- answers -/
def an (A B C : Tb) (k : Nat) : Tb := pr C (Mk A B k)
theorem o_lub {A B C : Tb} {w : Nat} (hA : A ≠ []) (hB : Rect B w) (hl : A.length = B.length) (vs : List Vc) (k i : Nat) : Lub (g (oAt A B C vs k) i) fun x : Nat × Nat => if x.1 ≤ k then pl (G (an A B C (k - x.1)) i x.2) (g (vs.getD x.1 []) x.2) else none := fun b => by
  unfold oAt an
  rw [ap_le]
  have S := fun q => (s_lub hA hB hl vs k q).pl (G C i q)
  have key : ∀ x : Nat × Nat, (Le (pl (G (pr C (Mk A B (k - x.1))) i x.2) (g (vs.getD x.1 []) x.2)) b ↔ ∀ q, Le (pl (G C i q) (pl (G (Mk A B (k - x.1)) q x.2) (g (vs.getD x.1 []) x.2))) b) := fun x => by
    have L : Lub (G (pr C (Mk A B (k - x.1))) i x.2) fun q => pl (G C i q) (G (Mk A B (k - x.1)) q x.2) := fun b => pr_le (Mk_rect hA hB _)
    rw [pl_comm, (L.pl _) b]
    exact forall_congr' fun q => by dsimp only; rw [pl_rot (g _ _)]
  constructor
  · intro h x
    dsimp only
    split
    · rename_i hx
      rw [key x]
      intro q
      have := (S q b).mp (h q) x
      dsimp only at this
      rw [if_pos hx] at this
      exact this
    · exact Le.none _
  · intro h q
    rw [S q b]
    intro x
    dsimp only
    split
    · rename_i hx
      have := h x
      dsimp only at this
      rw [if_pos hx] at this
      exact (key x).mp this q
    · rw [pl_none]; exact Le.none _
end Lz

namespace Lz
open PySem PySem.Spec PyProof.Rows L2 Dx
def i_is_integer : I := (.scons (.sret (.and (.isi (.var 0) ["int"]) (.inot (.isi (.var 0) ["bool"])))) .snil)
def i_is_within : I := (.scons (.sret (.and (.call "is_integer" (.cons (.var 0) .nil) []) (.cmp2 .LtE .LtE (.var 1) (.var 0) (.var 2)))) .snil)
def i_is_count : I := (.scons (.sret (.and (.call "is_integer" (.cons (.var 0) .nil) []) (.cmp .GtE (.var 0) (.int (0))))) .snil)
def i_is_list : I := (.scons (.sret (.isi (.var 0) ["list", "tuple"])) .snil)
def i_is_tuple : I := (.scons (.sret (.and (.isi (.var 0) ["tuple"]) (.cmp .Eq (.pkb "len" 0) (.var 1)))) .snil)
def i_latest_c0e : I := (.var 2)
def i_latest_c0q : I := (.cmp .IsNot (.var 2) .non)
def i_latest_c0 : I := (.lc i_latest_c0e (.tnm 2) (.iv (.var 0)) i_latest_c0q [2])
@[simp] theorem v_i_latest_c0 : varI i_latest_c0 = none := rfl
def i_latest : I := (.scons (.sset 1 i_latest_c0) (.scons (.sret (.ite (.cmp .NotEq (.var 1) (.lst .nil)) (.blt "max" (.cons (.var 1) .nil)) .non)) .snil))
def i_then : I := (.scons (.sret (.ite (.or (.cmp .Is (.var 0) .non) (.cmp .Is (.var 1) .non)) .non (.bin .Add (.var 0) (.var 1)))) .snil)
def i_want_many : I := (.scons (.sif (.inot (.call "is_count" (.cons (.var 0) .nil) [])) (.scons .sno .snil) .snil) .snil)
def i_is_entry : I := (.scons (.sret (.or (.cmp .Is (.var 0) .non) (.call "is_within" (.cons (.var 0) (.cons (.neg (.con "MOST_ENTRY")) (.cons (.con "MOST_ENTRY") .nil))) []))) .snil)
def i_is_table_any_c0e : I := (.and (.isi (.var 1) ["tuple"]) (.cmp2 .LtE .LtE (.int (1)) (.pkb "len" 1) (.con "MOST_SIDE")))
def i_is_table_any_c0 : I := (.lc i_is_table_any_c0e (.tnm 1) (.iv (.var 0)) (.bl true) [1])
@[simp] theorem v_i_is_table_any_c0 : varI i_is_table_any_c0 = none := rfl
def i_is_table_any_c2e : I := (.call "is_entry" (.cons (.var 2) .nil) [])
def i_is_table_any_c2 : I := (.lc i_is_table_any_c2e (.tnm 2) (.iv (.var 1)) (.bl true) [2])
@[simp] theorem v_i_is_table_any_c2 : varI i_is_table_any_c2 = none := rfl
def i_is_table_any_c1e : I := (.and (.cmp .Eq (.pkb "len" 1) (.blt "len" (.cons (.idx (.var 0) (.int (0))) .nil))) (.blt "all" (.cons i_is_table_any_c2 .nil)))
def i_is_table_any_c1 : I := (.lc i_is_table_any_c1e (.tnm 1) (.iv (.var 0)) (.bl true) [1])
@[simp] theorem v_i_is_table_any_c1 : varI i_is_table_any_c1 = none := rfl
def i_is_table_any : I := (.scons (.sif (.or (.inot (.isi (.var 0) ["tuple"])) (.inot (.cmp2 .LtE .LtE (.int (1)) (.pkb "len" 0) (.con "MOST_SIDE")))) (.scons (.sret (.bl false)) .snil) .snil) (.scons (.sif (.inot (.blt "all" (.cons i_is_table_any_c0 .nil))) (.scons (.sret (.bl false)) .snil) .snil) (.scons (.sret (.blt "all" (.cons i_is_table_any_c1 .nil))) .snil)))
def i_is_square_any : I := (.scons (.sret (.and (.call "is_table_any" (.cons (.var 0) .nil) []) (.cmp .Eq (.pkb "len" 0) (.blt "len" (.cons (.idx (.var 0) (.int (0))) .nil))))) .snil)
def i_is_vector_of_c0e : I := (.or (.cmp .Is (.var 2) .non) (.call "is_within" (.cons (.var 2) (.cons (.neg (.con "MOST_TIME")) (.cons (.con "MOST_TIME") .nil))) []))
def i_is_vector_of_c0 : I := (.lc i_is_vector_of_c0e (.tnm 2) (.iv (.var 1)) (.bl true) [2])
@[simp] theorem v_i_is_vector_of_c0 : varI i_is_vector_of_c0 = none := rfl
def i_is_vector_of : I := (.scons (.sret (.and (.call "is_tuple" (.cons (.var 1) (.cons (.var 0) .nil)) []) (.blt "all" (.cons i_is_vector_of_c0 .nil)))) .snil)
def i_applied_c1e : I := (.call "then" (.cons (.var 3) (.cons (.var 4) .nil)) [])
def i_applied_c1 : I := (.lc i_applied_c1e (.ttp (.cons (.tnm 3) (.cons (.tnm 4) .nil))) (.izp (.var 2) (.var 1)) (.bl true) [3, 4])
@[simp] theorem v_i_applied_c1 : varI i_applied_c1 = none := rfl
def i_applied_c0e : I := (.call "latest" (.cons i_applied_c1 .nil) [])
def i_applied_c0 : I := (.lc i_applied_c0e (.tnm 2) (.iv (.var 0)) (.bl true) [2])
@[simp] theorem v_i_applied_c0 : varI i_applied_c0 = none := rfl
def i_applied : I := (.scons (.sret (.blt "tuple" (.cons i_applied_c0 .nil))) .snil)
def i_columns_of : I := (.scons (.sret (.tzp (.var 0))) .snil)
def i_product_c1e : I := (.call "then" (.cons (.var 5) (.cons (.var 6) .nil)) [])
def i_product_c1 : I := (.lc i_product_c1e (.ttp (.cons (.tnm 5) (.cons (.tnm 6) .nil))) (.izp (.var 3) (.var 4)) (.bl true) [5, 6])
@[simp] theorem v_i_product_c1 : varI i_product_c1 = none := rfl
def i_product_c0e : I := (.call "latest" (.cons i_product_c1 .nil) [])
def i_product_c0 : I := (.lc i_product_c0e (.tnm 4) (.iv (.call "columns_of" (.cons (.var 1) .nil) [])) (.bl true) [4])
@[simp] theorem v_i_product_c0 : varI i_product_c0 = none := rfl
def i_product_w0b : I := (.sfg [3, 4, 5, 6] (.scons (.sapp 2 i_product_c0) .snil))
def i_product_w0 : I := (.sfor (.tnm 3) (.iv (.var 0)) i_product_w0b)
def i_product_c2e : I := (.blt "tuple" (.cons (.var 3) .nil))
def i_product_c2 : I := (.lc i_product_c2e (.tnm 3) (.iv (.var 2)) (.bl true) [3])
@[simp] theorem v_i_product_c2 : varI i_product_c2 = none := rfl
def i_product : I := (.scons (.sown 2 (.lst .nil)) (.scons (.sfg [3, 4, 5, 6] i_product_w0) (.scons (.sret (.blt "tuple" (.cons i_product_c2 .nil))) .snil)))
def i_joined_c0e : I := (.call "latest" (.cons (.lst (.cons (.var 2) (.cons (.var 3) .nil))) .nil) [])
def i_joined_c0 : I := (.lc i_joined_c0e (.ttp (.cons (.tnm 2) (.cons (.tnm 3) .nil))) (.izp (.var 0) (.var 1)) (.bl true) [2, 3])
@[simp] theorem v_i_joined_c0 : varI i_joined_c0 = none := rfl
def i_joined : I := (.scons (.sret (.blt "tuple" (.cons i_joined_c0 .nil))) .snil)
def i_is_line_any : I := (.scons (.sif (.or (.inot (.call "is_tuple" (.cons (.var 0) (.cons (.int (4)) .nil)) [])) (.or (.inot (.isi (.idx (.var 0) (.int (0))) ["str"])) (.cmp .NotEq (.idx (.var 0) (.int (0))) (.con "LINE")))) (.scons (.sret (.bl false)) .snil) .snil) (.scons (.sif (.or (.inot (.call "is_square_any" (.cons (.idx (.var 0) (.int (1))) .nil) [])) (.or (.inot (.call "is_table_any" (.cons (.idx (.var 0) (.int (2))) .nil) [])) (.inot (.call "is_table_any" (.cons (.idx (.var 0) (.int (3))) .nil) [])))) (.scons (.sret (.bl false)) .snil) .snil) (.scons (.sret (.and (.cmp .Eq (.blt "len" (.cons (.idx (.var 0) (.int (2))) .nil)) (.blt "len" (.cons (.idx (.var 0) (.int (1))) .nil))) (.cmp .Eq (.blt "len" (.cons (.idx (.idx (.var 0) (.int (3))) (.int (0))) .nil)) (.blt "len" (.cons (.idx (.var 0) (.int (1))) .nil))))) .snil)))
def i_want_line : I := (.scons (.sif (.inot (.call "is_line_any" (.cons (.var 0) .nil) [])) (.scons .sno .snil) .snil) .snil)
def i_inputs_of : I := (.scons (.sret (.blt "len" (.cons (.idx (.idx (.var 0) (.int (2))) (.int (0))) .nil))) .snil)
def i_are_steps_c0e : I := (.call "is_vector_of" (.cons (.var 0) (.cons (.var 2) .nil)) [])
def i_are_steps_c0 : I := (.lc i_are_steps_c0e (.tnm 2) (.iv (.var 1)) (.bl true) [2])
@[simp] theorem v_i_are_steps_c0 : varI i_are_steps_c0 = none := rfl
def i_are_steps : I := (.scons (.sret (.and (.call "is_list" (.cons (.var 1) .nil) []) (.and (.cmp2 .LtE .LtE (.int (1)) (.pkb "len" 1) (.con "MOST_STEPS")) (.blt "all" (.cons i_are_steps_c0 .nil))))) .snil)
def i_want_inputs : I := (.scons (.sexp (.call "want_line" (.cons (.var 0) .nil) [])) (.scons (.sif (.inot (.call "are_steps" (.cons (.call "inputs_of" (.cons (.var 0) .nil) []) (.cons (.var 1) .nil)) [])) (.scons .sno .snil) .snil) .snil))
def i_states_by_w0b : I := (.sfg [3, 8] (.scons (.sset 8 (.call "applied" (.cons (.var 6) (.cons (.var 3) .nil)) [])) (.scons (.sapp 2 (.ite (.cmp .Eq (.var 2) (.lst .nil)) (.var 8) (.call "joined" (.cons (.call "applied" (.cons (.var 5) (.cons (.idx (.var 2) (.neg (.int (1)))) .nil)) []) (.cons (.var 8) .nil)) []))) .snil)))
def i_states_by_w0 : I := (.sfor (.tnm 3) (.iv (.var 1)) i_states_by_w0b)
def i_states_by : I := (.scons (.stg (.ttp (.cons (.tnm 4) (.cons (.tnm 5) (.cons (.tnm 6) (.cons (.tnm 7) .nil))))) (.var 0)) (.scons (.sown 2 (.lst .nil)) (.scons (.sfg [3, 8] i_states_by_w0) (.scons (.sretv 2) .snil))))
def i_outputs_by_c0e : I := (.call "applied" (.cons (.idx (.var 0) (.int (3))) (.cons (.var 2) .nil)) [])
def i_outputs_by_c0 : I := (.lc i_outputs_by_c0e (.tnm 2) (.iv (.call "states_by" (.cons (.var 0) (.cons (.var 1) .nil)) [])) (.bl true) [2])
@[simp] theorem v_i_outputs_by_c0 : varI i_outputs_by_c0 = none := rfl
def i_outputs_by : I := (.scons (.sret i_outputs_by_c0) .snil)
def i_answers_by_w0b : I := (.sfg [2] (.scons (.sapp 4 (.call "product" (.cons (.idx (.var 0) (.int (3))) (.cons (.var 3) .nil)) [])) (.scons (.sset 3 (.call "product" (.cons (.idx (.var 0) (.int (1))) (.cons (.var 3) .nil)) [])) .snil)))
def i_answers_by_w0 : I := (.sfor (.tnm 2) (.irg (.var 1)) i_answers_by_w0b)
def i_answers_by : I := (.scons (.spar [(3, false), (4, true)] (.cons (.idx (.var 0) (.int (2))) (.cons (.lst .nil) .nil))) (.scons (.sfg [2] i_answers_by_w0) (.scons (.sretv 4) .snil)))
def i_is_line : I := (.scons (.sret (.call "is_line_any" (.cons (.var 0) .nil) [])) .snil)
def i_states : I := (.scons (.sexp (.call "want_inputs" (.cons (.var 0) (.cons (.var 1) .nil)) [])) (.scons (.sret (.call "states_by" (.cons (.var 0) (.cons (.var 1) .nil)) [])) .snil))
def i_outputs : I := (.scons (.sexp (.call "want_inputs" (.cons (.var 0) (.cons (.var 1) .nil)) [])) (.scons (.sret (.call "outputs_by" (.cons (.var 0) (.cons (.var 1) .nil)) [])) .snil))
def i_want_answers : I := (.scons (.sexp (.call "want_many" (.cons (.var 0) .nil) [])) (.scons (.sif (.cmp .Gt (.var 0) (.con "MOST_ANSWERS")) (.scons .sno .snil) .snil) .snil))
def i_answers : I := (.scons (.sexp (.call "want_line" (.cons (.var 0) .nil) [])) (.scons (.sexp (.call "want_answers" (.cons (.var 1) .nil) [])) (.scons (.sret (.call "answers_by" (.cons (.var 0) (.cons (.var 1) .nil)) [])) .snil)))
def i_l_pot (c0 c1 c2 : Int) : I := (.scons (.sset 2 (.ite (.cmp .Lt (.var 1) (.pkb "len" 0)) (.blt "abs" (.cons (.idx (.var 0) (.var 1)) .nil)) (.bin .Add (.bin .Mult (.int c0) (.var 1)) (.int (223))))) (.scons (.sret (.lst (.cons (.blt "max" (.cons (.int (0)) (.cons (.bin .Sub (.var 2) (.bin .Pow (.int (10)) (.int (18)))) .nil))) (.cons (.bin .Add (.bin .Mod (.blt "int" (.cons (.bin .Add (.bin .Add (.bin .Mult (.bin .Mod (.blt "int" (.cons (.var 2) .nil)) (.int (2147483549))) (.int c1)) (.bin .Mult (.int c2) (.var 1))) (.int (619))) .nil)) (.int (2147483563))) (.int (1))) .nil)))) .snil))
def i_l_draw (c0 c1 : Int) : I := (.scons (.sif (.cmp .Gt (.idx (.var 0) (.int (0))) (.int (0))) (.scons (.sdm 0 (.int (0)) 2 (.idx (.var 0) (.int (0))) (.var 1)) (.scons (.sretv 2) .snil)) .snil) (.scons (.sidx 0 (.int (1)) (.bin .Mod (.blt "int" (.cons (.bin .Add (.bin .Mult (.idx (.var 0) (.int (1))) (.int (39373))) (.int c0)) .nil)) (.int (2147483587)))) (.scons (.sret (.bin .Mod (.blt "int" (.cons (.bin .FloorDiv (.bin .Mod (.blt "int" (.cons (.bin .Mult (.idx (.var 0) (.int (1))) (.idx (.var 0) (.int (1)))) .nil)) (.int (2147483549))) (.int c1)) .nil)) (.var 1))) .snil)))
def i_l_pick : I := (.scons (.sret (.idx (.var 1) (.call "_law_draw" (.cons (.var 0) (.cons (.pkb "len" 1) .nil)) []))) .snil)
def i_l_entry : I := (.scons (.sset 1 (.call "_law_draw" (.cons (.var 0) (.cons (.int (30)) .nil)) [])) (.scons (.sret (.ite (.cmp .Lt (.var 1) (.int (11))) .non (.ite (.cmp .Eq (.var 1) (.int (11))) (.call "_law_pick" (.cons (.var 0) (.cons (.lst (.cons (.int (99)) (.cons (.neg (.int (99))) (.cons (.int (98)) .nil)))) .nil)) []) (.bin .Sub (.call "_law_draw" (.cons (.var 0) (.cons (.int (9)) .nil)) []) (.int (4)))))) .snil))
def i_l_table_c1e : I := (.call "_law_entry" (.cons (.var 0) .nil) [])
def i_l_table_c1 : I := (.lc i_l_table_c1e (.tnm 4) (.irg (.var 2)) (.bl true) [4])
@[simp] theorem v_i_l_table_c1 : varI i_l_table_c1 = none := rfl
def i_l_table_c0e : I := (.blt "tuple" (.cons i_l_table_c1 .nil))
def i_l_table_c0 : I := (.lc i_l_table_c0e (.tnm 3) (.irg (.var 1)) (.bl true) [3])
@[simp] theorem v_i_l_table_c0 : varI i_l_table_c0 = none := rfl
def i_l_table : I := (.scons (.sret (.blt "tuple" (.cons i_l_table_c0 .nil))) .snil)
def i_l_line : I := (.scons (.spar [(2, false), (3, false), (4, false)] (.cons (.bin .Add (.int (1)) (.call "_law_draw" (.cons (.var 0) (.cons (.var 1) .nil)) [])) (.cons (.bin .Add (.int (1)) (.call "_law_draw" (.cons (.var 0) (.cons (.int (3)) .nil)) [])) (.cons (.bin .Add (.int (1)) (.call "_law_draw" (.cons (.var 0) (.cons (.int (2)) .nil)) [])) .nil)))) (.scons (.sret (.tup (.cons (.str "line") (.cons (.call "_law_table" (.cons (.var 0) (.cons (.var 2) (.cons (.var 2) .nil))) []) (.cons (.call "_law_table" (.cons (.var 0) (.cons (.var 2) (.cons (.var 3) .nil))) []) (.cons (.call "_law_table" (.cons (.var 0) (.cons (.var 4) (.cons (.var 2) .nil))) []) .nil)))))) .snil))
def i_l_vectors_c0e : I := (.ite (.cmp .Eq (.call "_law_draw" (.cons (.var 0) (.cons (.int (5)) .nil)) []) (.int (0))) .non (.bin .Sub (.bin .Add (.var 5) (.call "_law_draw" (.cons (.var 0) (.cons (.int (21)) .nil)) [])) (.int (10))))
def i_l_vectors_c0 : I := (.lc i_l_vectors_c0e (.tnm 6) (.irg (.var 2)) (.bl true) [6])
@[simp] theorem v_i_l_vectors_c0 : varI i_l_vectors_c0 = none := rfl
def i_l_vectors_w0b : I := (.sfg [3, 6] (.scons (.sapp 4 (.blt "tuple" (.cons i_l_vectors_c0 .nil))) .snil))
def i_l_vectors_w0 : I := (.sfor (.tnm 3) (.irg (.var 1)) i_l_vectors_w0b)
def i_l_vectors : I := (.scons (.spar [(4, true), (5, false)] (.cons (.lst .nil) (.cons (.call "_law_pick" (.cons (.var 0) (.cons (.lst (.cons (.int (0)) (.cons (.int (0)) (.cons (.int (0)) (.cons (.int (999999000)) (.cons (.neg (.int (999999000))) .nil)))))) .nil)) []) .nil))) (.scons (.sfg [3, 6] i_l_vectors_w0) (.scons (.sretv 4) .snil)))
def i_l_latest_c0e : I := (.var 2)
def i_l_latest_c0q : I := (.cmp .IsNot (.var 2) .non)
def i_l_latest_c0 : I := (.lc i_l_latest_c0e (.tnm 2) (.iv (.var 0)) i_l_latest_c0q [2])
@[simp] theorem v_i_l_latest_c0 : varI i_l_latest_c0 = none := rfl
def i_l_latest : I := (.scons (.sset 1 i_l_latest_c0) (.scons (.sret (.ite (.cmp .NotEq (.var 1) (.lst .nil)) (.blt "max" (.cons (.var 1) .nil)) .non)) .snil))
def i_l_plus : I := (.scons (.sret (.ite (.or (.cmp .Is (.var 0) .non) (.cmp .Is (.var 1) .non)) .non (.bin .Add (.var 0) (.var 1)))) .snil)
def i_l_rows_c0e : I := (.call "_law_plus" (.cons (.var 4) (.cons (.var 5) .nil)) [])
def i_l_rows_c0 : I := (.lc i_l_rows_c0e (.ttp (.cons (.tnm 4) (.cons (.tnm 5) .nil))) (.izp (.var 3) (.var 1)) (.bl true) [4, 5])
@[simp] theorem v_i_l_rows_c0 : varI i_l_rows_c0 = none := rfl
def i_l_rows_w0b : I := (.sfg [3, 4, 5] (.scons (.sapp 2 (.call "_law_latest" (.cons i_l_rows_c0 .nil) [])) .snil))
def i_l_rows_w0 : I := (.sfor (.tnm 3) (.iv (.var 0)) i_l_rows_w0b)
def i_l_rows : I := (.scons (.sown 2 (.lst .nil)) (.scons (.sfg [3, 4, 5] i_l_rows_w0) (.scons (.sret (.blt "tuple" (.cons (.var 2) .nil))) .snil)))
def i_l_states_c0e : I := (.call "_law_latest" (.cons (.lst (.cons (.var 7) (.cons (.var 8) .nil))) .nil) [])
def i_l_states_c0 : I := (.lc i_l_states_c0e (.ttp (.cons (.tnm 7) (.cons (.tnm 8) .nil))) (.izp (.var 5) (.var 6)) (.bl true) [7, 8])
@[simp] theorem v_i_l_states_c0 : varI i_l_states_c0 = none := rfl
def i_l_states_w0b : I := (.sfg [2, 5, 6, 7, 8] (.scons (.spar [(5, false), (6, false)] (.cons (.call "_law_rows" (.cons (.idx (.var 0) (.int (1))) (.cons (.var 4) .nil)) []) (.cons (.call "_law_rows" (.cons (.idx (.var 0) (.int (2))) (.cons (.var 2) .nil)) []) .nil))) (.scons (.sset 4 (.blt "tuple" (.cons i_l_states_c0 .nil))) (.scons (.sapp 3 (.var 4)) .snil))))
def i_l_states_w0 : I := (.sfor (.tnm 2) (.iv (.var 1)) i_l_states_w0b)
def i_l_states : I := (.scons (.spar [(3, true), (4, false)] (.cons (.lst .nil) (.cons (.bin .Mult (.tup (.cons .non .nil)) (.blt "len" (.cons (.idx (.var 0) (.int (1))) .nil))) .nil))) (.scons (.sfg [2, 5, 6, 7, 8] i_l_states_w0) (.scons (.sretv 3) .snil)))
def i_l_outputs_c0e : I := (.call "_law_rows" (.cons (.idx (.var 0) (.int (3))) (.cons (.var 2) .nil)) [])
def i_l_outputs_c0 : I := (.lc i_l_outputs_c0e (.tnm 2) (.iv (.call "_law_states" (.cons (.var 0) (.cons (.var 1) .nil)) [])) (.bl true) [2])
@[simp] theorem v_i_l_outputs_c0 : varI i_l_outputs_c0 = none := rfl
def i_l_outputs : I := (.scons (.sret i_l_outputs_c0) .snil)
def i_l_answers_c0e : I := (.idx (.idx (.idx (.var 0) (.int (2))) (.var 10)) (.var 3))
def i_l_answers_c0 : I := (.lc i_l_answers_c0e (.tnm 10) (.irg (.var 6)) (.bl true) [10])
@[simp] theorem v_i_l_answers_c0 : varI i_l_answers_c0 = none := rfl
def i_l_answers_w1b : I := (.sfg [5] (.scons (.sapp 9 (.call "_law_rows" (.cons (.idx (.var 0) (.int (3))) (.cons (.var 8) .nil)) [])) (.scons (.sset 8 (.call "_law_rows" (.cons (.idx (.var 0) (.int (1))) (.cons (.var 8) .nil)) [])) .snil)))
def i_l_answers_w1 : I := (.sfor (.tnm 5) (.irg (.var 1)) i_l_answers_w1b)
def i_l_answers_w0b : I := (.sfg [3, 5, 8, 9, 10] (.scons (.spar [(8, false), (9, true)] (.cons (.blt "tuple" (.cons i_l_answers_c0 .nil)) (.cons (.lst .nil) .nil))) (.scons (.sfg [5] i_l_answers_w1) (.scons (.sapp 2 (.var 9)) .snil))))
def i_l_answers_w0 : I := (.sfor (.tnm 3) (.irg (.var 7)) i_l_answers_w0b)
def i_l_answers_c2e : I := (.idx (.idx (.var 12) (.var 5)) (.var 11))
def i_l_answers_c2 : I := (.lc i_l_answers_c2e (.tnm 12) (.iv (.var 2)) (.bl true) [12])
@[simp] theorem v_i_l_answers_c2 : varI i_l_answers_c2 = none := rfl
def i_l_answers_c1e : I := (.blt "tuple" (.cons i_l_answers_c2 .nil))
def i_l_answers_c1 : I := (.lc i_l_answers_c1e (.tnm 11) (.irg (.blt "len" (.cons (.idx (.var 0) (.int (3))) .nil))) (.bl true) [11])
@[simp] theorem v_i_l_answers_c1 : varI i_l_answers_c1 = none := rfl
def i_l_answers_w2b : I := (.sfg [5, 11, 12] (.scons (.sapp 4 (.blt "tuple" (.cons i_l_answers_c1 .nil))) .snil))
def i_l_answers_w2 : I := (.sfor (.tnm 5) (.irg (.var 1)) i_l_answers_w2b)
def i_l_answers : I := (.scons (.spar [(6, false), (7, false)] (.cons (.blt "len" (.cons (.idx (.var 0) (.int (1))) .nil)) (.cons (.blt "len" (.cons (.idx (.idx (.var 0) (.int (2))) (.int (0))) .nil)) .nil))) (.scons (.sown 2 (.lst .nil)) (.scons (.sfg [3, 5, 8, 9, 10] i_l_answers_w0) (.scons (.sown 4 (.lst .nil)) (.scons (.sfg [5, 11, 12] i_l_answers_w2) (.scons (.sretv 4) .snil))))))
def i_outputs_of : I := (.scons (.sret (.blt "len" (.cons (.idx (.var 0) (.int (3))) .nil))) .snil)
def i_bounds_of_w3b : I := (.sfg [10, 11, 12] (.scons (.sset 12 (.idx (.idx (.idx (.var 3) (.bin .Sub (.var 9) (.var 2))) (.var 10)) (.var 7))) (.scons (.sif (.cmp .IsNot (.var 12) .non) (.scons (.sapp 8 (.tup (.cons (.ite (.cmp .Is (.var 11) .non) .non (.bin .Sub (.var 11) (.var 12))) (.cons (.var 9) (.cons (.var 10) .nil))))) .snil) .snil) .snil)))
def i_bounds_of_w3 : I := (.sfor (.ttp (.cons (.tnm 10) (.cons (.tnm 11) .nil))) (.ien (.idx (.var 1) (.var 9))) i_bounds_of_w3b)
def i_bounds_of_w2b : I := (.sfg [9, 10, 11, 12] (.scons (.sfg [10, 11, 12] i_bounds_of_w3) .snil))
def i_bounds_of_w2 : I := (.sfor (.tnm 9) (.irg2 (.var 2) (.pkb "len" 1)) i_bounds_of_w2b)
def i_bounds_of_w1b : I := (.sfg [7, 8, 9, 10, 11, 12] (.scons (.sown 8 (.lst .nil)) (.scons (.sfg [9, 10, 11, 12] i_bounds_of_w2) (.scons (.sapp 6 (.var 8)) .snil))))
def i_bounds_of_w1 : I := (.sfor (.tnm 7) (.irg (.var 4)) i_bounds_of_w1b)
def i_bounds_of_w0b : I := (.sfg [2, 6, 7, 8, 9, 10, 11, 12] (.scons (.sown 6 (.lst .nil)) (.scons (.sfg [7, 8, 9, 10, 11, 12] i_bounds_of_w1) (.scons (.sapp 5 (.var 6)) .snil))))
def i_bounds_of_w0 : I := (.sfor (.tnm 2) (.irg (.pkb "len" 1)) i_bounds_of_w0b)
def i_bounds_of : I := (.scons (.spar [(3, false), (4, false), (5, true)] (.cons (.call "answers_by" (.cons (.var 0) (.cons (.pkb "len" 1) .nil)) []) (.cons (.call "inputs_of" (.cons (.var 0) .nil) []) (.cons (.lst .nil) .nil)))) (.scons (.sfg [2, 6, 7, 8, 9, 10, 11, 12] i_bounds_of_w0) (.scons (.sretv 5) .snil)))
def i_least_of_c0e : I := (.idx (.var 2) (.int (0)))
def i_least_of_c0 : I := (.lc i_least_of_c0e (.tnm 2) (.iv (.var 0)) (.bl true) [2])
@[simp] theorem v_i_least_of_c0 : varI i_least_of_c0 = none := rfl
def i_least_of : I := (.scons (.sset 1 i_least_of_c0) (.scons (.sif (.cmp .Eq (.var 1) (.lst .nil)) (.scons (.sret (.int (0))) .snil) .snil) (.scons (.sret (.ite (.cmp .In .non (.var 1)) .non (.blt "min" (.cons (.var 1) .nil)))) .snil)))
def i_latest_by_c1e : I := (.call "least_of" (.cons (.var 3) .nil) [])
def i_latest_by_c1 : I := (.lc i_latest_by_c1e (.tnm 3) (.iv (.var 2)) (.bl true) [3])
@[simp] theorem v_i_latest_by_c1 : varI i_latest_by_c1 = none := rfl
def i_latest_by_c0e : I := (.blt "tuple" (.cons i_latest_by_c1 .nil))
def i_latest_by_c0 : I := (.lc i_latest_by_c0e (.tnm 2) (.iv (.call "bounds_of" (.cons (.var 0) (.cons (.var 1) .nil)) [])) (.bl true) [2])
@[simp] theorem v_i_latest_by_c0 : varI i_latest_by_c0 = none := rfl
def i_latest_by : I := (.scons (.sret i_latest_by_c0) .snil)
def i_slack_of : I := (.scons (.sif (.cmp .Is (.var 0) .non) (.scons (.sret .non) .snil) .snil) (.scons (.sif (.cmp .Eq (.var 1) (.lst .nil)) (.scons (.sret (.con "ALL")) .snil) .snil) (.scons (.sset 2 (.call "least_of" (.cons (.var 1) .nil) [])) (.scons (.sret (.ite (.cmp .Is (.var 2) .non) (.con "NONE") (.bin .Sub (.var 2) (.var 0)))) .snil))))
def i_want_dues : I := (.scons (.sexp (.call "want_line" (.cons (.var 0) .nil) [])) (.scons (.sif (.inot (.call "are_steps" (.cons (.call "outputs_of" (.cons (.var 0) .nil) []) (.cons (.var 1) .nil)) [])) (.scons .sno .snil) .snil) .snil))
def i_latest_inputs : I := (.scons (.sexp (.call "want_dues" (.cons (.var 0) (.cons (.var 1) .nil)) [])) (.scons (.sret (.call "latest_by" (.cons (.var 0) (.cons (.var 1) .nil)) [])) .snil))
def i_slacks_c0e : I := (.call "slack_of" (.cons (.var 6) (.cons (.var 7) .nil)) [])
def i_slacks_c0 : I := (.lc i_slacks_c0e (.ttp (.cons (.tnm 6) (.cons (.tnm 7) .nil))) (.izp (.var 4) (.var 5)) (.bl true) [6, 7])
@[simp] theorem v_i_slacks_c0 : varI i_slacks_c0 = none := rfl
def i_slacks_w0b : I := (.sfg [4, 5, 6, 7] (.scons (.sapp 3 (.blt "tuple" (.cons i_slacks_c0 .nil))) .snil))
def i_slacks_w0 : I := (.sfor (.ttp (.cons (.tnm 4) (.cons (.tnm 5) .nil))) (.izp (.var 1) (.call "bounds_of" (.cons (.var 0) (.cons (.var 2) .nil)) [])) i_slacks_w0b)
def i_slacks : I := (.scons (.sexp (.call "want_inputs" (.cons (.var 0) (.cons (.var 1) .nil)) [])) (.scons (.sif (.or (.inot (.call "are_steps" (.cons (.call "outputs_of" (.cons (.var 0) .nil) []) (.cons (.var 2) .nil)) [])) (.cmp .NotEq (.pkb "len" 2) (.pkb "len" 1))) (.scons .sno .snil) .snil) (.scons (.sown 3 (.lst .nil)) (.scons (.sfg [4, 5, 6, 7] i_slacks_w0) (.scons (.sretv 3) .snil)))))
def i_are_delays_c0e : I := (.call "is_tuple" (.cons (.var 3) (.cons (.call "inputs_of" (.cons (.var 0) .nil) []) .nil)) [])
def i_are_delays_c0 : I := (.lc i_are_delays_c0e (.tnm 3) (.iv (.var 2)) (.bl true) [3])
@[simp] theorem v_i_are_delays_c0 : varI i_are_delays_c0 = none := rfl
def i_are_delays_c2e : I := (.call "is_within" (.cons (.var 4) (.cons (.int (0)) (.cons (.bin .Sub (.con "MOST_TIME") (.int (1))) .nil))) [])
def i_are_delays_c2 : I := (.lc i_are_delays_c2e (.tnm 4) (.iv (.var 3)) (.bl true) [4])
@[simp] theorem v_i_are_delays_c2 : varI i_are_delays_c2 = none := rfl
def i_are_delays_c1e : I := (.blt "all" (.cons i_are_delays_c2 .nil))
def i_are_delays_c1 : I := (.lc i_are_delays_c1e (.tnm 3) (.iv (.var 2)) (.bl true) [3])
@[simp] theorem v_i_are_delays_c1 : varI i_are_delays_c1 = none := rfl
def i_are_delays : I := (.scons (.sif (.or (.inot (.call "is_list" (.cons (.var 2) .nil) [])) (.or (.cmp .NotEq (.pkb "len" 2) (.pkb "len" 1)) (.inot (.blt "all" (.cons i_are_delays_c0 .nil))))) (.scons (.sret (.bl false)) .snil) .snil) (.scons (.sret (.blt "all" (.cons i_are_delays_c1 .nil))) .snil))
def i_delayed_c1e : I := (.call "then" (.cons (.var 4) (.cons (.var 5) .nil)) [])
def i_delayed_c1 : I := (.lc i_delayed_c1e (.ttp (.cons (.tnm 4) (.cons (.tnm 5) .nil))) (.izp (.var 2) (.var 3)) (.bl true) [4, 5])
@[simp] theorem v_i_delayed_c1 : varI i_delayed_c1 = none := rfl
def i_delayed_c0e : I := (.blt "tuple" (.cons i_delayed_c1 .nil))
def i_delayed_c0 : I := (.lc i_delayed_c0e (.ttp (.cons (.tnm 2) (.cons (.tnm 3) .nil))) (.izp (.var 0) (.var 1)) (.bl true) [2, 3])
@[simp] theorem v_i_delayed_c0 : varI i_delayed_c0 = none := rfl
def i_delayed : I := (.scons (.sret i_delayed_c0) .snil)
def i_mattering_of_w1b : I := (.sfg [8, 9] (.scons (.sif (.cmp .Eq (.call "then" (.cons (.idx (.idx (.idx (.var 5) (.bin .Sub (.var 2) (.var 4))) (.var 3)) (.var 8)) (.cons (.var 9) .nil)) []) (.var 6)) (.scons (.sapp 7 (.tup (.cons (.var 4) (.cons (.var 8) .nil)))) .snil) .snil) .snil))
def i_mattering_of_w1 : I := (.sfor (.ttp (.cons (.tnm 8) (.cons (.tnm 9) .nil))) (.ien (.idx (.var 1) (.var 4))) i_mattering_of_w1b)
def i_mattering_of_w0b : I := (.sfg [4, 8, 9] (.scons (.sfg [8, 9] i_mattering_of_w1) .snil))
def i_mattering_of_w0 : I := (.sfor (.tnm 4) (.irg (.ite (.cmp .IsNot (.var 6) .non) (.bin .Add (.var 2) (.int (1))) (.int (0)))) i_mattering_of_w0b)
def i_mattering_of : I := (.scons (.spar [(5, false), (6, false), (7, true)] (.cons (.call "answers_by" (.cons (.var 0) (.cons (.bin .Add (.var 2) (.int (1))) .nil)) []) (.cons (.idx (.idx (.call "outputs_by" (.cons (.var 0) (.cons (.var 1) .nil)) []) (.var 2)) (.var 3)) (.cons (.lst .nil) .nil)))) (.scons (.sfg [4, 8, 9] i_mattering_of_w0) (.scons (.sretv 7) .snil)))
def i_want_asked : I := (.scons (.sexp (.call "want_inputs" (.cons (.var 0) (.cons (.var 1) .nil)) [])) (.scons (.sif (.inot (.call "is_within" (.cons (.var 2) (.cons (.int (0)) (.cons (.bin .Sub (.pkb "len" 1) (.int (1))) .nil))) [])) (.scons .sno .snil) .snil) (.scons (.sif (.inot (.call "is_within" (.cons (.var 3) (.cons (.int (0)) (.cons (.bin .Sub (.call "outputs_of" (.cons (.var 0) .nil) []) (.int (1))) .nil))) [])) (.scons .sno .snil) .snil) .snil)))
def i_late_outputs_c0e : I := (.ite (.cmp .Is (.var 6) .non) .non (.bin .Sub (.var 7) (.var 6)))
def i_late_outputs_c0 : I := (.lc i_late_outputs_c0e (.ttp (.cons (.tnm 6) (.cons (.tnm 7) .nil))) (.izp (.var 4) (.var 5)) (.bl true) [6, 7])
@[simp] theorem v_i_late_outputs_c0 : varI i_late_outputs_c0 = none := rfl
def i_late_outputs_w0b : I := (.sfg [4, 5, 6, 7] (.scons (.sapp 3 (.blt "tuple" (.cons i_late_outputs_c0 .nil))) .snil))
def i_late_outputs_w0 : I := (.sfor (.ttp (.cons (.tnm 4) (.cons (.tnm 5) .nil))) (.izp (.call "outputs_by" (.cons (.var 0) (.cons (.var 1) .nil)) []) (.call "outputs_by" (.cons (.var 0) (.cons (.call "delayed" (.cons (.var 1) (.cons (.var 2) .nil)) []) .nil)) [])) i_late_outputs_w0b)
def i_late_outputs : I := (.scons (.sexp (.call "want_inputs" (.cons (.var 0) (.cons (.var 1) .nil)) [])) (.scons (.sif (.inot (.call "are_delays" (.cons (.var 0) (.cons (.var 1) (.cons (.var 2) .nil))) [])) (.scons .sno .snil) .snil) (.scons (.sown 3 (.lst .nil)) (.scons (.sfg [4, 5, 6, 7] i_late_outputs_w0) (.scons (.sretv 3) .snil)))))
def i_mattering_inputs : I := (.scons (.sexp (.call "want_asked" (.cons (.var 0) (.cons (.var 1) (.cons (.var 2) (.cons (.var 3) .nil)))) [])) (.scons (.sret (.call "mattering_of" (.cons (.var 0) (.cons (.var 1) (.cons (.var 2) (.cons (.var 3) .nil)))) [])) .snil))
def i_way_back_c0e : I := (.var 15)
def i_way_back_c0q : I := (.cmp .Eq (.call "then" (.cons (.var 16) (.cons (.idx (.idx (.var 4) (.var 2)) (.var 15)) .nil)) []) (.var 5))
def i_way_back_c0 : I := (.lc i_way_back_c0e (.ttp (.cons (.tnm 15) (.cons (.tnm 16) .nil))) (.ien (.idx (.var 10) (.var 3))) i_way_back_c0q [15, 16])
@[simp] theorem v_i_way_back_c0 : varI i_way_back_c0 = none := rfl
def i_way_back_c1e : I := (.var 17)
def i_way_back_c1q : I := (.cmp .Eq (.call "then" (.cons (.var 16) (.cons (.idx (.idx (.var 1) (.var 12)) (.var 17)) .nil)) []) (.var 13))
def i_way_back_c1 : I := (.lc i_way_back_c1e (.ttp (.cons (.tnm 17) (.cons (.tnm 16) .nil))) (.ien (.idx (.var 9) (.var 6))) i_way_back_c1q [17, 16])
@[simp] theorem v_i_way_back_c1 : varI i_way_back_c1 = none := rfl
def i_way_back_c2e : I := (.var 15)
def i_way_back_c2q : I := (.cmp .Eq (.call "then" (.cons (.var 16) (.cons (.idx (.idx (.var 4) (.var 12)) (.var 15)) .nil)) []) (.var 13))
def i_way_back_c2 : I := (.lc i_way_back_c2e (.ttp (.cons (.tnm 15) (.cons (.tnm 16) .nil))) (.ien (.idx (.var 8) (.var 6))) i_way_back_c2q [15, 16])
@[simp] theorem v_i_way_back_c2 : varI i_way_back_c2 = none := rfl
def i_way_back_w0b : I := (.sfg [13, 14, 15, 16, 17] (.scons (.sset 13 (.idx (.idx (.var 4) (.var 12)) (.var 6))) (.scons (.sset 14 i_way_back_c1) (.scons (.sif (.cmp .NotEq (.var 14) (.lst .nil)) (.scons (.sret (.tup (.cons (.var 12) (.cons (.idx (.var 14) (.int (0))) (.cons (.rev (.var 11)) .nil))))) .snil) .snil) (.scons (.sset 12 (.bin .Sub (.var 12) (.int (1)))) (.scons (.sset 6 (.idx i_way_back_c2 (.int (0)))) (.scons (.sapp 11 (.var 6)) .snil)))))))
def i_way_back_w0 : I := (.swh (.bl true) i_way_back_w0b)
def i_way_back : I := (.scons (.stg (.ttp (.cons (.tnm 7) (.cons (.tnm 8) (.cons (.tnm 9) (.cons (.tnm 10) .nil))))) (.var 0)) (.scons (.sset 4 (.call "states_by" (.cons (.var 0) (.cons (.var 1) .nil)) [])) (.scons (.sset 5 (.idx (.idx (.call "outputs_by" (.cons (.var 0) (.cons (.var 1) .nil)) []) (.var 2)) (.var 3))) (.scons (.sset 6 (.idx i_way_back_c0 (.int (0)))) (.scons (.spar [(11, true), (12, false)] (.cons (.lst (.cons (.var 6) .nil)) (.cons (.var 2) .nil))) (.scons (.sfg [13, 14, 15, 16, 17] i_way_back_w0) .snil))))))
def i_sum_of_way_c0e : I := (.call "is_within" (.cons (.var 12) (.cons (.int (0)) (.cons (.bin .Sub (.pkb "len" 7) (.int (1))) .nil))) [])
def i_sum_of_way_c0 : I := (.lc i_sum_of_way_c0e (.tnm 12) (.iv (.idx (.var 4) (.int (2)))) (.bl true) [12])
@[simp] theorem v_i_sum_of_way_c0 : varI i_sum_of_way_c0 = none := rfl
def i_sum_of_way_w0b : I := (.sfg [10, 11] (.scons (.sset 5 (.call "then" (.cons (.var 5) (.cons (.idx (.idx (.var 7) (.var 11)) (.var 10)) .nil)) [])) .snil))
def i_sum_of_way_w0 : I := (.sfor (.ttp (.cons (.tnm 10) (.cons (.tnm 11) .nil))) (.izp (.idx (.var 4) (.int (2))) (.slc (.idx (.var 4) (.int (2))) (.int (1)) .abs)) i_sum_of_way_w0b)
def i_sum_of_way : I := (.scons (.stg (.ttp (.cons (.tnm 6) (.cons (.tnm 7) (.cons (.tnm 8) (.cons (.tnm 9) .nil))))) (.var 0)) (.scons (.sif (.or (.inot (.call "is_tuple" (.cons (.var 4) (.cons (.int (3)) .nil)) [])) (.or (.inot (.call "is_within" (.cons (.idx (.var 4) (.int (0))) (.cons (.int (0)) (.cons (.var 2) .nil))) [])) (.inot (.call "is_within" (.cons (.idx (.var 4) (.int (1))) (.cons (.int (0)) (.cons (.bin .Sub (.call "inputs_of" (.cons (.var 0) .nil) []) (.int (1))) .nil))) [])))) (.scons (.sret .non) .snil) .snil) (.scons (.sif (.or (.inot (.call "is_list" (.cons (.idx (.var 4) (.int (2))) .nil) [])) (.cmp .NotEq (.blt "len" (.cons (.idx (.var 4) (.int (2))) .nil)) (.bin .Add (.bin .Sub (.var 2) (.idx (.var 4) (.int (0)))) (.int (1))))) (.scons (.sret .non) .snil) .snil) (.scons (.sif (.inot (.blt "all" (.cons i_sum_of_way_c0 .nil))) (.scons (.sret .non) .snil) .snil) (.scons (.sset 5 (.call "then" (.cons (.idx (.idx (.var 1) (.idx (.var 4) (.int (0)))) (.idx (.var 4) (.int (1)))) (.cons (.idx (.idx (.var 8) (.idx (.idx (.var 4) (.int (2))) (.int (0)))) (.idx (.var 4) (.int (1)))) .nil)) [])) (.scons (.sfg [10, 11] i_sum_of_way_w0) (.scons (.sret (.call "then" (.cons (.var 5) (.cons (.idx (.idx (.var 9) (.var 3)) (.idx (.idx (.var 4) (.int (2))) (.neg (.int (1))))) .nil)) [])) .snil)))))))
def i_critical_way : I := (.scons (.sexp (.call "want_asked" (.cons (.var 0) (.cons (.var 1) (.cons (.var 2) (.cons (.var 3) .nil)))) [])) (.scons (.sif (.cmp .Is (.idx (.idx (.call "outputs_by" (.cons (.var 0) (.cons (.var 1) .nil)) []) (.var 2)) (.var 3)) .non) (.scons (.sret .non) .snil) .snil) (.scons (.sret (.call "way_back" (.cons (.var 0) (.cons (.var 1) (.cons (.var 2) (.cons (.var 3) .nil)))) [])) .snil)))
def i_is_critical_way : I := (.scons (.sexp (.call "want_asked" (.cons (.var 0) (.cons (.var 1) (.cons (.var 2) (.cons (.var 3) .nil)))) [])) (.scons (.sset 5 (.call "sum_of_way" (.cons (.var 0) (.cons (.var 1) (.cons (.var 2) (.cons (.var 3) (.cons (.var 4) .nil))))) [])) (.scons (.sret (.and (.cmp .IsNot (.var 5) .non) (.cmp .Eq (.var 5) (.idx (.idx (.call "outputs_by" (.cons (.var 0) (.cons (.var 1) .nil)) []) (.var 2)) (.var 3))))) .snil)))
def i_want_second : I := (.scons (.sif (.or (.inot (.call "is_line_any" (.cons (.var 1) .nil) [])) (.or (.cmp .NotEq (.call "inputs_of" (.cons (.var 1) .nil) []) (.call "inputs_of" (.cons (.var 0) .nil) [])) (.cmp .NotEq (.call "outputs_of" (.cons (.var 1) .nil) []) (.call "outputs_of" (.cons (.var 0) .nil) [])))) (.scons .sno .snil) .snil) .snil)
def i_checked_c1e : I := (.call "is_entry" (.cons (.var 3) .nil) [])
def i_checked_c1 : I := (.lc i_checked_c1e (.tnm 3) (.iv (.var 2)) (.bl true) [3])
@[simp] theorem v_i_checked_c1 : varI i_checked_c1 = none := rfl
def i_checked_c0e : I := (.blt "all" (.cons i_checked_c1 .nil))
def i_checked_c0 : I := (.lc i_checked_c0e (.tnm 2) (.iv (.var 1)) (.bl true) [2])
@[simp] theorem v_i_checked_c0 : varI i_checked_c0 = none := rfl
def i_checked_w0b : I := (.sfg [1, 2, 3] (.scons (.sif (.inot (.blt "all" (.cons i_checked_c0 .nil))) (.scons .sno .snil) .snil) .snil))
def i_checked_w0 : I := (.sfor (.tnm 1) (.iv (.slc (.var 0) (.int (1)) .abs)) i_checked_w0b)
def i_checked : I := (.scons (.sif (.cmp .Gt (.blt "len" (.cons (.idx (.var 0) (.int (1))) .nil)) (.con "MOST_SIDE")) (.scons .sno .snil) .snil) (.scons (.sfg [1, 2, 3] i_checked_w0) (.scons (.sretv 0) .snil)))
def i_asleep : I := (.scons (.sret (.bin .Mult (.tup (.cons .non .nil)) (.var 0))) .snil)
def i_l_never : I := (.scons (.sret (.bin .Mult (.tup (.cons .non .nil)) (.var 0))) .snil)
def i_shifted_by_c0e : I := (.call "then" (.cons (.var 11) (.cons (.bin .Sub (.var 10) (.var 12)) .nil)) [])
def i_shifted_by_c0 : I := (.lc i_shifted_by_c0e (.ttp (.cons (.tnm 11) (.cons (.tnm 12) .nil))) (.izp (.var 9) (.var 1)) (.bl true) [11, 12])
@[simp] theorem v_i_shifted_by_c0 : varI i_shifted_by_c0 = none := rfl
def i_shifted_by_w0b : I := (.sfg [9, 10, 11, 12] (.scons (.sapp 2 (.blt "tuple" (.cons i_shifted_by_c0 .nil))) .snil))
def i_shifted_by_w0 : I := (.sfor (.ttp (.cons (.tnm 9) (.cons (.tnm 10) .nil))) (.izp (.var 6) (.var 1)) i_shifted_by_w0b)
def i_shifted_by_c2e : I := (.call "then" (.cons (.var 11) (.cons (.var 10) .nil)) [])
def i_shifted_by_c2 : I := (.lc i_shifted_by_c2e (.tnm 11) (.iv (.var 9)) (.bl true) [11])
@[simp] theorem v_i_shifted_by_c2 : varI i_shifted_by_c2 = none := rfl
def i_shifted_by_c1e : I := (.blt "tuple" (.cons i_shifted_by_c2 .nil))
def i_shifted_by_c1 : I := (.lc i_shifted_by_c1e (.ttp (.cons (.tnm 9) (.cons (.tnm 10) .nil))) (.izp (.var 7) (.var 1)) (.bl true) [9, 10])
@[simp] theorem v_i_shifted_by_c1 : varI i_shifted_by_c1 = none := rfl
def i_shifted_by_c4e : I := (.call "then" (.cons (.var 11) (.cons (.neg (.var 12)) .nil)) [])
def i_shifted_by_c4 : I := (.lc i_shifted_by_c4e (.ttp (.cons (.tnm 11) (.cons (.tnm 12) .nil))) (.izp (.var 9) (.var 1)) (.bl true) [11, 12])
@[simp] theorem v_i_shifted_by_c4 : varI i_shifted_by_c4 = none := rfl
def i_shifted_by_c3e : I := (.blt "tuple" (.cons i_shifted_by_c4 .nil))
def i_shifted_by_c3 : I := (.lc i_shifted_by_c3e (.tnm 9) (.iv (.var 8)) (.bl true) [9])
@[simp] theorem v_i_shifted_by_c3 : varI i_shifted_by_c3 = none := rfl
def i_shifted_by : I := (.scons (.stg (.ttp (.cons (.tnm 5) (.cons (.tnm 6) (.cons (.tnm 7) (.cons (.tnm 8) .nil))))) (.var 0)) (.scons (.sown 2 (.lst .nil)) (.scons (.sfg [9, 10, 11, 12] i_shifted_by_w0) (.scons (.sset 3 (.blt "tuple" (.cons i_shifted_by_c1 .nil))) (.scons (.sset 4 (.blt "tuple" (.cons i_shifted_by_c3 .nil))) (.scons (.sret (.tup (.cons (.con "LINE") (.cons (.blt "tuple" (.cons (.var 2) .nil)) (.cons (.var 3) (.cons (.var 4) .nil)))))) .snil))))))
def i_places_kept_c1e : I := (.var 5)
def i_places_kept_c1q : I := (.cmp .IsNot (.idx (.idx (.var 7) (.var 5)) (.var 4)) .non)
def i_places_kept_c1 : I := (.lc i_places_kept_c1e (.tnm 5) (.irg (.var 1)) i_places_kept_c1q [5])
@[simp] theorem v_i_places_kept_c1 : varI i_places_kept_c1 = none := rfl
def i_places_kept_c0e : I := i_places_kept_c1
def i_places_kept_c0 : I := (.lc i_places_kept_c0e (.tnm 4) (.irg (.var 1)) (.bl true) [4])
@[simp] theorem v_i_places_kept_c0 : varI i_places_kept_c0 = none := rfl
def i_places_kept_c3e : I := (.var 5)
def i_places_kept_c3q : I := (.cmp .IsNot (.idx (.idx (.var 7) (.var 4)) (.var 5)) .non)
def i_places_kept_c3 : I := (.lc i_places_kept_c3e (.tnm 5) (.irg (.var 1)) i_places_kept_c3q [5])
@[simp] theorem v_i_places_kept_c3 : varI i_places_kept_c3 = none := rfl
def i_places_kept_c2e : I := i_places_kept_c3
def i_places_kept_c2 : I := (.lc i_places_kept_c2e (.tnm 4) (.irg (.var 1)) (.bl true) [4])
@[simp] theorem v_i_places_kept_c2 : varI i_places_kept_c2 = none := rfl
def i_places_kept_c5e : I := (.cmp .IsNot (.var 11) .non)
def i_places_kept_c5 : I := (.lc i_places_kept_c5e (.tnm 11) (.iv (.idx (.var 8) (.var 10))) (.bl true) [11])
@[simp] theorem v_i_places_kept_c5 : varI i_places_kept_c5 = none := rfl
def i_places_kept_c4e : I := (.var 10)
def i_places_kept_c4q : I := (.blt "any" (.cons i_places_kept_c5 .nil))
def i_places_kept_c4 : I := (.lc i_places_kept_c4e (.tnm 10) (.irg (.var 1)) i_places_kept_c4q [10])
@[simp] theorem v_i_places_kept_c4 : varI i_places_kept_c4 = none := rfl
def i_places_kept_c7e : I := (.cmp .IsNot (.idx (.var 12) (.var 10)) .non)
def i_places_kept_c7 : I := (.lc i_places_kept_c7e (.tnm 12) (.iv (.var 9)) (.bl true) [12])
@[simp] theorem v_i_places_kept_c7 : varI i_places_kept_c7 = none := rfl
def i_places_kept_c6e : I := (.var 10)
def i_places_kept_c6q : I := (.blt "any" (.cons i_places_kept_c7 .nil))
def i_places_kept_c6 : I := (.lc i_places_kept_c6e (.tnm 10) (.irg (.var 1)) i_places_kept_c6q [10])
@[simp] theorem v_i_places_kept_c6 : varI i_places_kept_c6 = none := rfl
def i_places_kept_c8e : I := (.var 10)
def i_places_kept_c8q : I := (.and (.cmp .In (.var 10) (.var 4)) (.cmp .In (.var 10) (.var 5)))
def i_places_kept_c8 : I := (.lc i_places_kept_c8e (.tnm 10) (.irg (.var 1)) i_places_kept_c8q [10])
@[simp] theorem v_i_places_kept_c8 : varI i_places_kept_c8 = none := rfl
def i_places_kept : I := (.scons (.stg (.ttp (.cons (.tnm 6) (.cons (.tnm 7) (.cons (.tnm 8) (.cons (.tnm 9) .nil))))) (.var 0)) (.scons (.sset 1 (.pkb "len" 7)) (.scons (.sset 2 i_places_kept_c0) (.scons (.sset 3 i_places_kept_c2) (.scons (.sset 4 (.call "led_places" (.cons i_places_kept_c4 (.cons (.var 2) .nil)) [])) (.scons (.sset 5 (.call "led_places" (.cons i_places_kept_c6 (.cons (.var 3) .nil)) [])) (.scons (.sret i_places_kept_c8) .snil)))))))
def i_trimmed_c1e : I := (.idx (.idx (.var 5) (.var 8)) (.var 11))
def i_trimmed_c1 : I := (.lc i_trimmed_c1e (.tnm 11) (.iv (.var 1)) (.bl true) [11])
@[simp] theorem v_i_trimmed_c1 : varI i_trimmed_c1 = none := rfl
def i_trimmed_c0e : I := (.blt "tuple" (.cons i_trimmed_c1 .nil))
def i_trimmed_c0 : I := (.lc i_trimmed_c0e (.tnm 8) (.iv (.var 1)) (.bl true) [8])
@[simp] theorem v_i_trimmed_c0 : varI i_trimmed_c0 = none := rfl
def i_trimmed_c3e : I := (.idx (.var 9) (.var 10))
def i_trimmed_c3 : I := (.lc i_trimmed_c3e (.tnm 10) (.iv (.var 1)) (.bl true) [10])
@[simp] theorem v_i_trimmed_c3 : varI i_trimmed_c3 = none := rfl
def i_trimmed_c2e : I := (.blt "tuple" (.cons i_trimmed_c3 .nil))
def i_trimmed_c2 : I := (.lc i_trimmed_c2e (.tnm 9) (.iv (.var 7)) (.bl true) [9])
@[simp] theorem v_i_trimmed_c2 : varI i_trimmed_c2 = none := rfl
def i_trimmed_c4e : I := (.idx (.var 6) (.var 10))
def i_trimmed_c4 : I := (.lc i_trimmed_c4e (.tnm 10) (.iv (.var 1)) (.bl true) [10])
@[simp] theorem v_i_trimmed_c4 : varI i_trimmed_c4 = none := rfl
def i_trimmed : I := (.scons (.stg (.ttp (.cons (.tnm 4) (.cons (.tnm 5) (.cons (.tnm 6) (.cons (.tnm 7) .nil))))) (.var 0)) (.scons (.sset 1 (.call "places_kept" (.cons (.var 0) .nil) [])) (.scons (.sif (.cmp .Eq (.var 1) (.lst .nil)) (.scons (.sret (.tup (.cons (.con "LINE") (.cons (.tup (.cons (.call "asleep" (.cons (.int (1)) .nil) []) .nil)) (.cons (.tup (.cons (.call "asleep" (.cons (.blt "len" (.cons (.idx (.var 6) (.int (0))) .nil)) .nil) []) .nil)) (.cons (.bin .Mult (.tup (.cons (.call "asleep" (.cons (.int (1)) .nil) []) .nil)) (.pkb "len" 7)) .nil)))))) .snil) .snil) (.scons (.sset 2 (.blt "tuple" (.cons i_trimmed_c0 .nil))) (.scons (.sset 3 (.blt "tuple" (.cons i_trimmed_c2 .nil))) (.scons (.sret (.tup (.cons (.con "LINE") (.cons (.var 2) (.cons (.blt "tuple" (.cons i_trimmed_c4 .nil)) (.cons (.var 3) .nil)))))) .snil))))))
def i_are_alike_for : I := (.scons (.sexp (.call "want_line" (.cons (.var 0) .nil) [])) (.scons (.sexp (.call "want_second" (.cons (.var 0) (.cons (.var 1) .nil)) [])) (.scons (.sexp (.call "want_answers" (.cons (.var 2) .nil) [])) (.scons (.sret (.cmp .Is (.call "parting_of" (.cons (.var 0) (.cons (.var 1) (.cons (.var 2) .nil))) []) .non)) .snil))))
def i_shifted_line_c0e : I := (.call "is_within" (.cons (.var 2) (.cons (.bin .Sub (.int (1)) (.con "MOST_TIME")) (.cons (.bin .Sub (.con "MOST_TIME") (.int (1))) .nil))) [])
def i_shifted_line_c0 : I := (.lc i_shifted_line_c0e (.tnm 2) (.iv (.var 1)) (.bl true) [2])
@[simp] theorem v_i_shifted_line_c0 : varI i_shifted_line_c0 = none := rfl
def i_shifted_line : I := (.scons (.sexp (.call "want_line" (.cons (.var 0) .nil) [])) (.scons (.sif (.or (.inot (.call "is_list" (.cons (.var 1) .nil) [])) (.cmp .NotEq (.pkb "len" 1) (.blt "len" (.cons (.idx (.var 0) (.int (1))) .nil)))) (.scons .sno .snil) .snil) (.scons (.sif (.inot (.blt "all" (.cons i_shifted_line_c0 .nil))) (.scons .sno .snil) .snil) (.scons (.sret (.call "checked" (.cons (.call "shifted_by" (.cons (.var 0) (.cons (.var 1) .nil)) []) .nil) [])) .snil))))
def i_trimmed_line : I := (.scons (.sexp (.call "want_line" (.cons (.var 0) .nil) [])) (.scons (.sret (.call "trimmed" (.cons (.var 0) .nil) [])) .snil))
end Lz

namespace Lz
open PySem PySem.Spec PyProof.Rows L2 Dx Pz
def wfuel : Nat := 2 ^ 5000
section
variable {G : Gx}
/-! ### kinds of values -/
def isI : PyData → Bool
  | .int _ => true
  | _ => false
abbrev S_is_integer (f : Fn) : Prop := ∀ d, f [.dat d] = some (.dat (.bool (isI d)), [.dat d])
theorem ok_is_integer : S_is_integer (fnS G wfuel 1 1 i_is_integer) := fun d => by cases d <;> rfl
def isW (d : PyData) (lo hi : Int) : Bool := match d with
  | .int i => decide (lo ≤ i) && decide (i ≤ hi)
  | _ => false
abbrev S_is_within (f : Fn) : Prop := ∀ d lo hi, f [.dat d, .dat (.int lo), .dat (.int hi)] = some (.dat (.bool (isW d lo hi)), [.dat d, .dat (.int lo), .dat (.int hi)])
theorem ok_is_within {F1 : Fn} (q1 : G.fns "is_integer" = some ⟨[false], F1⟩) (e1 : S_is_integer F1) : S_is_within (fnS G wfuel 3 3 i_is_within) := fun d lo hi => by
  unfold fnS i_is_within
  simp [sm, ownsAt, outs, argG, isAbs, arsD, arD, refs, slsOf, slOf, putBack, pubD, getD, getO, setS, wipeE, backE, partD, parG, Out.fg, borG, borE, q1, e1]
  cases d <;> simp [isI, isW, outs]
  rename_i i
  by_cases h : lo ≤ i <;> simp [h, outs]
theorem isW_int {i lo hi : Int} (h1 : lo ≤ i) (h2 : i ≤ hi) : isW (.int i) lo hi = true := by simp [isW, h1, h2]
def isL : PyData → Bool
  | .list _ => true
  | .tuple _ => true
  | _ => false
abbrev S_is_list (f : Fn) : Prop := ∀ d, f [.dat d] = some (.dat (.bool (isL d)), [.dat d])
theorem ok_is_list : S_is_list (fnS G wfuel 1 1 i_is_list) := fun d => by cases d <;> rfl
def isT (d : PyData) (n : Int) : Bool := match d with
  | .tuple xs => decide ((xs.length : Int) = n)
  | _ => false
abbrev S_is_tuple (f : Fn) : Prop := ∀ d n, f [.dat d, .dat (.int n)] = some (.dat (.bool (isT d n)), [.dat d, .dat (.int n)])
theorem ok_is_tuple : S_is_tuple (fnS G wfuel 2 2 i_is_tuple) := fun d n => by
  unfold fnS i_is_tuple
  cases d <;> simp [sm, ownsAt, outs, argG, isAbs, arsD, arD, refs, slsOf, slOf, putBack, pubD, getD, getO, setS, wipeE, backE, partD, parG, Out.fg, borG, borE, isTupD, isT]
/-! ### latest, then -/
theorem allInt_some (l : List Tt) : allInt ((l.filter fun o => !o.isNone).map optD) = some (l.filterMap id) := by
  induction l with
  | nil => rfl
  | cons a l ih =>
    cases a with
    | none => simpa using ih
    | some x => simp at ih; simp [optD, allInt, ih]
theorem filter_none (l : List Tt) : (l.filter fun o => !o.isNone).isEmpty = (l.filterMap id).isEmpty := by
  induction l with
  | nil => rfl
  | cons a l ih =>
    cases a with
    | none => simpa using ih
    | some x => rfl
abbrev S_latest (f : Fn) : Prop := ∀ l : List Tt, l.length ≤ 1000000 → f [.dat (.list (l.map optD))] = some (.dat (optD (mx l)), [.dat (.list (l.map optD))])
theorem ok_latest : S_latest (fnS G wfuel 3 1 i_latest) := fun l hl => by
  have c0 : (sm G [] wfuel i_latest_c0).e [some (.dat (.list (l.map optD))), none, none] = some (.frs ((l.filter fun o => !o.isNone).map optD), [some (.dat (.list (l.map optD))), none, none]) := by
    unfold i_latest_c0
    refine lc_of optD (fun o => !o.isNone) optD l (by simp [sm, ownsAt, outs, argG, isAbs, arsD, arD, refs, slsOf, slOf, putBack, pubD, getD, getO, setS, wipeE, backE, partD, parG, Out.fg, borG, borE]) (by simp) (by rw [szE]; omega) fun o ho => ⟨[some (.dat (.list (l.map optD))), none, some (.dat (optD o))], .dat (.bool (!o.isNone)), by simp [sm, ownsAt, outs, argG, isAbs, arsD, arD, refs, slsOf, slOf, putBack, pubD, getD, getO, setS, wipeE, backE, partD, parG, Out.fg, borG, borE], ?_, rfl, fun _ => ⟨.dat (optD o), ?_, rfl⟩, by simp [sm, ownsAt, outs, argG, isAbs, arsD, arD, refs, slsOf, slOf, putBack, pubD, getD, getO, setS, wipeE, backE, partD, parG, Out.fg, borG, borE]⟩
    · unfold i_latest_c0q
      cases o <;> simp [sm, ownsAt, outs, argG, isAbs, arsD, arD, refs, slsOf, slOf, putBack, pubD, getD, getO, setS, wipeE, backE, partD, parG, Out.fg, borG, borE, optD]
    · unfold i_latest_c0e
      simp [sm, ownsAt, outs, argG, isAbs, arsD, arD, refs, slsOf, slOf, putBack, pubD, getD, getO, setS, wipeE, backE, partD, parG, Out.fg, borG, borE]
  have ne := ne_nil (enc := optD) Sh.optD (by omega) (l.filter fun o => !o.isNone)
  have mxe := bl_maxL ((l.filter fun o => !o.isNone).map optD)
  rw [allInt_some] at mxe
  rw [filter_none] at ne
  unfold fnS i_latest
  generalize (l.filter fun o => !o.isNone).map optD = F at *
  by_cases h : l.filterMap id = []
  · rw [h] at ne
    have hm : mx l = none := if_pos h
    rw [hm]
    simp [sm, ownsAt, outs, argG, isAbs, arsD, arD, refs, slsOf, slOf, putBack, pubD, getD, getO, setS, wipeE, backE, partD, parG, Out.fg, borG, borE, szE, c0, ne, optD, outs]
  · have hm : mx l = some (maxL (l.filterMap id)) := if_neg h
    have hb : (l.filterMap id).isEmpty = false := by rw [List.isEmpty_eq_false_iff]; exact h
    rw [hb] at ne
    simp only [Option.bind_some, hb] at mxe
    rw [hm]
    simp [sm, ownsAt, outs, argG, isAbs, arsD, arD, refs, slsOf, slOf, putBack, pubD, getD, getO, setS, wipeE, backE, partD, parG, Out.fg, borG, borE, szE, c0, ne, mxe, optD, outs]
theorem ok_l_latest : S_latest (fnS G wfuel 3 1 i_l_latest) := ok_latest
abbrev S_then (f : Fn) : Prop := ∀ a b : Tt, f [.dat (optD a), .dat (optD b)] = some (.dat (optD (pl a b)), [.dat (optD a), .dat (optD b)])
theorem ok_then : S_then (fnS G wfuel 2 2 i_then) := fun a b => by
  unfold fnS i_then
  cases a <;> cases b <;> simp [sm, ownsAt, outs, argG, isAbs, arsD, arD, refs, slsOf, slOf, putBack, pubD, getD, getO, setS, wipeE, backE, partD, parG, Out.fg, borG, borE, optD, pl, outs]
theorem ok_l_plus : S_then (fnS G wfuel 2 2 i_l_plus) := ok_then
/-! ### tables, vectors -/
def tbD (t : Tb) : PyData := .tuple (t.map polD)
structure TbOk (t : Tb) (m : Nat) : Prop where
  ne : t ≠ []
  len : t.length ≤ 8
  m1 : 1 ≤ m
  m8 : m ≤ 8
  rows : ∀ r ∈ t, r.length = m
  ent : ∀ r ∈ t, ∀ x, some x ∈ r → -99 ≤ x ∧ x ≤ 99
theorem TbOk.rect {t : Tb} {m : Nat} (h : TbOk t m) : Rect t m := ⟨h.ne, h.rows⟩
theorem TbOk.pos {t : Tb} {m : Nat} (h : TbOk t m) : 1 ≤ t.length := List.length_pos_iff.mpr h.ne
abbrev S_is_entry (f : Fn) : Prop := ∀ o : Tt, (∀ x, o = some x → -99 ≤ x ∧ x ≤ 99) → f [.dat (optD o)] = some (.dat (.bool true), [.dat (optD o)])
theorem ok_is_entry {F1 : Fn} (q1 : G.fns "is_within" = some ⟨[false, false, false], F1⟩) (e1 : S_is_within F1) (k1 : G.cons "MOST_ENTRY" = some (.int 99)) : S_is_entry (fnS G wfuel 1 1 i_is_entry) := fun o h => by
  unfold fnS i_is_entry
  cases o with
  | none => simp [sm, ownsAt, outs, argG, isAbs, arsD, arD, refs, slsOf, slOf, putBack, pubD, getD, getO, setS, wipeE, backE, partD, parG, Out.fg, borG, borE, optD, outs]
  | some x =>
    obtain ⟨h1, h2⟩ := h x rfl
    have w := e1 (.int x) (-99) 99
    rw [isW_int h1 h2] at w
    simp [sm, ownsAt, outs, argG, isAbs, arsD, arD, refs, slsOf, slOf, putBack, pubD, getD, getO, setS, wipeE, backE, partD, parG, Out.fg, borG, borE, optD, k1, q1, w, outs]
theorem polD_tup (r : Vc) : ∃ ds, polD r = .tuple ds ∧ ds.length = r.length := ⟨_, rfl, List.length_map _⟩
theorem len_pol (r : Vc) : bltD "len" [polD r] = some (.dat (.int r.length)) := by
  show some (R.dat (.int ((r.map optD).length : Nat))) = _
  rw [List.length_map]
theorem len_tb (t : Tb) : bltD "len" [tbD t] = some (.dat (.int t.length)) := by
  show some (R.dat (.int ((t.map polD).length : Nat))) = _
  rw [List.length_map]
theorem all_true {α : Type} (l : List α) : (allBl (l.map fun _ => PyData.bool true)).map (fun bs => R.dat (.bool (bs.all id))) = some (.dat (.bool true)) := by
  have h : allBl (l.map fun _ => PyData.bool true) = some (l.map fun _ => true) := by
    induction l with
    | nil => rfl
    | cons x l ih => simp [allBl, ih]
  rw [h, Option.map_some]
  have : (l.map fun _ => true).all id = true := by
    rw [List.all_eq_true]
    intro x hx
    obtain ⟨_, _, rfl⟩ := List.mem_map.mp hx
    rfl
  rw [this]
abbrev S_is_table_any (f : Fn) : Prop := ∀ (t : Tb) (m : Nat), TbOk t m → f [.dat (tbD t)] = some (.dat (.bool true), [.dat (tbD t)])
theorem ok_is_table_any {F1 : Fn} (q1 : G.fns "is_entry" = some ⟨[false], F1⟩) (e1 : S_is_entry F1) (k1 : G.cons "MOST_SIDE" = some (.int 8)) : S_is_table_any (fnS G wfuel 3 1 i_is_table_any) := fun t m h => by
  have hl := h.len
  have hp := h.pos
  have m1 := h.m1
  have m8 := h.m8
  have c0 : (sm G [] wfuel i_is_table_any_c0).e [some (.dat (tbD t)), none, none] = some (.frs (t.map fun _ => .bool true), [some (.dat (tbD t)), none, none]) := by
    unfold i_is_table_any_c0
    refine lc_all polD _ t (by simp [sm, ownsAt, outs, argG, isAbs, arsD, arD, refs, slsOf, slOf, putBack, pubD, getD, getO, setS, wipeE, backE, partD, parG, Out.fg, borG, borE, tbD]) (by simp) (by rw [szE]; omega) fun r hr => ⟨[some (.dat (tbD t)), some (.dat (polD r)), none], by simp [sm, ownsAt, outs, argG, isAbs, arsD, arD, refs, slsOf, slOf, putBack, pubD, getD, getO, setS, wipeE, backE, partD, parG, Out.fg, borG, borE], ?_, by simp [sm, ownsAt, outs, argG, isAbs, arsD, arD, refs, slsOf, slOf, putBack, pubD, getD, getO, setS, wipeE, backE, partD, parG, Out.fg, borG, borE]⟩
    have ln := len_pol r
    have rl := h.rows r hr
    obtain ⟨ds, e, _⟩ := polD_tup r
    have i1 : (1 : Int) ≤ r.length := by omega
    have i2 : (r.length : Int) ≤ 8 := by omega
    unfold i_is_table_any_c0e
    rw [e] at ln ⊢
    simp [sm, ownsAt, outs, argG, isAbs, arsD, arD, refs, slsOf, slOf, putBack, pubD, getD, getO, setS, wipeE, backE, partD, parG, Out.fg, borG, borE, isTupD, ln, k1, i1, i2]
  have c1 : (sm G [] wfuel i_is_table_any_c1).e [some (.dat (tbD t)), none, none] = some (.frs (t.map fun _ => .bool true), [some (.dat (tbD t)), none, none]) := by
    unfold i_is_table_any_c1
    refine lc_all polD _ t (by simp [sm, ownsAt, outs, argG, isAbs, arsD, arD, refs, slsOf, slOf, putBack, pubD, getD, getO, setS, wipeE, backE, partD, parG, Out.fg, borG, borE, tbD]) (by simp) (by rw [szE]; omega) fun r hr => ⟨[some (.dat (tbD t)), some (.dat (polD r)), none], by simp [sm, ownsAt, outs, argG, isAbs, arsD, arD, refs, slsOf, slOf, putBack, pubD, getD, getO, setS, wipeE, backE, partD, parG, Out.fg, borG, borE], ?_, by simp [sm, ownsAt, outs, argG, isAbs, arsD, arD, refs, slsOf, slOf, putBack, pubD, getD, getO, setS, wipeE, backE, partD, parG, Out.fg, borG, borE]⟩
    have ln := len_pol r
    have rl := h.rows r hr
    have c2 : (sm G [] wfuel i_is_table_any_c2).e [some (.dat (tbD t)), some (.dat (polD r)), none] = some (.frs (r.map fun _ => .bool true), [some (.dat (tbD t)), some (.dat (polD r)), none]) := by
      unfold i_is_table_any_c2
      refine lc_all optD _ r (by simp [sm, ownsAt, outs, argG, isAbs, arsD, arD, refs, slsOf, slOf, putBack, pubD, getD, getO, setS, wipeE, backE, partD, parG, Out.fg, borG, borE, polD]) (by simp) (by rw [szE]; omega) fun o ho => ⟨[some (.dat (tbD t)), some (.dat (polD r)), some (.dat (optD o))], by simp [sm, ownsAt, outs, argG, isAbs, arsD, arD, refs, slsOf, slOf, putBack, pubD, getD, getO, setS, wipeE, backE, partD, parG, Out.fg, borG, borE], ?_, by simp [sm, ownsAt, outs, argG, isAbs, arsD, arD, refs, slsOf, slOf, putBack, pubD, getD, getO, setS, wipeE, backE, partD, parG, Out.fg, borG, borE]⟩
      have w := e1 o fun x hx => h.ent r hr x (hx ▸ ho)
      unfold i_is_table_any_c2e
      simp [sm, ownsAt, outs, argG, isAbs, arsD, arD, refs, slsOf, slOf, putBack, pubD, getD, getO, setS, wipeE, backE, partD, parG, Out.fg, borG, borE, q1, w]
    have a := all_true r
    obtain ⟨r0, hr0⟩ : ∃ r0, t.head? = some r0 := by cases t with | nil => exact absurd rfl h.ne | cons x y => exact ⟨x, rfl⟩
    have r0m : r0 ∈ t := List.mem_of_mem_head? hr0
    have ix : idxD (tbD t) (.int 0) = some (polD r0) := by
      show atI (t.map polD) 0 = _
      refine at_nat (i := 0) ?_
      rw [List.getElem?_map, ← List.head?_eq_getElem?, hr0]; rfl
    have ln0 := len_pol r0
    have rl0 := h.rows r0 r0m
    unfold i_is_table_any_c1e
    simp [sm, ownsAt, outs, argG, isAbs, arsD, arD, refs, slsOf, slOf, putBack, pubD, getD, getO, setS, wipeE, backE, partD, parG, Out.fg, borG, borE, ln, ix, ln0, rl, rl0, c2, a]
  have a := all_true t
  have ln := len_tb t
  have i1 : (1 : Int) ≤ t.length := by omega
  have i2 : (t.length : Int) ≤ 8 := by omega
  unfold fnS i_is_table_any
  have ti : ∃ ds, tbD t = .tuple ds := ⟨_, rfl⟩
  obtain ⟨ds, e⟩ := ti
  rw [e] at c0 c1 ln ⊢
  simp [sm, ownsAt, outs, argG, isAbs, arsD, arD, refs, slsOf, slOf, putBack, pubD, getD, getO, setS, wipeE, backE, partD, parG, Out.fg, borG, borE, isTupD, ln, k1, i1, i2, c0, c1, a, outs]
abbrev S_is_square_any (f : Fn) : Prop := ∀ t : Tb, TbOk t t.length → f [.dat (tbD t)] = some (.dat (.bool true), [.dat (tbD t)])
theorem head_tb {t : Tb} {m : Nat} (h : TbOk t m) : ∃ r0, idxD (tbD t) (.int 0) = some (polD r0) ∧ r0.length = m := by
  cases t with
  | nil => exact absurd rfl h.ne
  | cons r t => exact ⟨r, by show atI ((r :: t).map polD) 0 = _; exact at_nat (i := 0) rfl, h.rows r List.mem_cons_self⟩
theorem ok_is_square_any {F1 : Fn} (q1 : G.fns "is_table_any" = some ⟨[false], F1⟩) (e1 : S_is_table_any F1) : S_is_square_any (fnS G wfuel 1 1 i_is_square_any) := fun t h => by
  have w := e1 t _ h
  obtain ⟨r0, ix, rl⟩ := head_tb h
  have ln := len_tb t
  have ln0 := len_pol r0
  rw [rl] at ln0
  unfold fnS i_is_square_any
  simp [sm, ownsAt, outs, argG, isAbs, arsD, arD, refs, slsOf, slOf, putBack, pubD, getD, getO, setS, wipeE, backE, partD, parG, Out.fg, borG, borE, q1, w, ln, ix, ln0, outs]
def VcOk (v : Vc) (m : Nat) : Prop := v.length = m ∧ ∀ x, some x ∈ v → -1000000000 ≤ x ∧ x ≤ 1000000000
abbrev S_is_vector_of (f : Fn) : Prop := ∀ (v : Vc) (m : Nat), VcOk v m → m ≤ 1000 → f [.dat (.int m), .dat (polD v)] = some (.dat (.bool true), [.dat (.int m), .dat (polD v)])
theorem ok_is_vector_of {F1 F2 : Fn} (q1 : G.fns "is_tuple" = some ⟨[false, false], F1⟩) (e1 : S_is_tuple F1) (q2 : G.fns "is_within" = some ⟨[false, false, false], F2⟩) (e2 : S_is_within F2) (k1 : G.cons "MOST_TIME" = some (.int 1000000000)) : S_is_vector_of (fnS G wfuel 3 2 i_is_vector_of) := fun v m ⟨h1, h2⟩ hm => by
  have w := e1 (polD v) m
  have t : isT (polD v) m = true := by simp [isT, polD, h1]
  rw [t] at w
  have c0 : (sm G [] wfuel i_is_vector_of_c0).e [some (.dat (.int m)), some (.dat (polD v)), none] = some (.frs (v.map fun _ => .bool true), [some (.dat (.int m)), some (.dat (polD v)), none]) := by
    unfold i_is_vector_of_c0
    refine lc_all optD _ v (by simp [sm, ownsAt, outs, argG, isAbs, arsD, arD, refs, slsOf, slOf, putBack, pubD, getD, getO, setS, wipeE, backE, partD, parG, Out.fg, borG, borE, polD]) (by simp) (by rw [szE]; omega) fun o ho => ⟨[some (.dat (.int m)), some (.dat (polD v)), some (.dat (optD o))], by simp [sm, ownsAt, outs, argG, isAbs, arsD, arD, refs, slsOf, slOf, putBack, pubD, getD, getO, setS, wipeE, backE, partD, parG, Out.fg, borG, borE], ?_, by simp [sm, ownsAt, outs, argG, isAbs, arsD, arD, refs, slsOf, slOf, putBack, pubD, getD, getO, setS, wipeE, backE, partD, parG, Out.fg, borG, borE]⟩
    unfold i_is_vector_of_c0e
    cases o with
    | none => simp [sm, ownsAt, outs, argG, isAbs, arsD, arD, refs, slsOf, slOf, putBack, pubD, getD, getO, setS, wipeE, backE, partD, parG, Out.fg, borG, borE, optD]
    | some x =>
      obtain ⟨h3, h4⟩ := h2 x ho
      have w2 := e2 (.int x) (-1000000000) 1000000000
      rw [isW_int h3 h4] at w2
      simp [sm, ownsAt, outs, argG, isAbs, arsD, arD, refs, slsOf, slOf, putBack, pubD, getD, getO, setS, wipeE, backE, partD, parG, Out.fg, borG, borE, optD, k1, q2, w2]
  have a := all_true v
  unfold fnS i_is_vector_of
  simp [sm, ownsAt, outs, argG, isAbs, arsD, arD, refs, slsOf, slOf, putBack, pubD, getD, getO, setS, wipeE, backE, partD, parG, Out.fg, borG, borE, q1, w, c0, a, outs]
end
end Lz

namespace Lz
open PySem PySem.Spec PyProof.Rows L2 Dx Pz
/-- a comprehension whose iterable changes the slots -/
theorem lc_all1 {G : Gx} {pn : List Nat} {wf : Nat} {α : Type} {elt tgt it : I} {vs : List Nat} {ρ ρ1 : Env1} (enc : α → PyData) (g : α → PyData) (xs : List α)
    (h1 : (sm G pn wf it).i ρ = some (xs.map enc, ρ1)) (h2 : (vs.all fun v => match ρ1[v]? with | some (some (.own _)) => false | _ => true) = true) (hl : xs.length ≤ sizeLine)
    (h : ∀ x ∈ xs, ∃ ρ2, (sm G pn wf tgt).t (enc x) (wipeE ρ1 vs) = some ρ2 ∧ (∃ r, (sm G pn wf elt).e ρ2 = some (r, ρ2) ∧ r.d = g x) ∧ backE ρ1 ρ2 vs = ρ1) :
    (sm G pn wf (.lc elt tgt it (.bl true) vs)).e ρ = some (.frs (xs.map g), ρ1) := by
  refine lc_ev h1 h2 ?_
  have key : ∀ (xs : List α) (acc : List PyData), acc.length + xs.length ≤ sizeLine → (∀ x ∈ xs, ∃ ρ2, (sm G pn wf tgt).t (enc x) (wipeE ρ1 vs) = some ρ2 ∧ (∃ r, (sm G pn wf elt).e ρ2 = some (r, ρ2) ∧ r.d = g x) ∧ backE ρ1 ρ2 vs = ρ1) →
      lcG vs ρ1 (sm G pn wf tgt).t (sm G pn wf (.bl true)).e (sm G pn wf elt).e (xs.map enc) ρ1 acc = some (acc ++ xs.map g, ρ1) := by
    intro xs
    induction xs with
    | nil => intro acc _ _; simp [lcG]
    | cons x xs ih =>
      intro acc hl h
      obtain ⟨ρ2, a1, ⟨r, a2, a3⟩, a4⟩ := h x List.mem_cons_self
      have ih := fun acc hl => ih acc hl fun y hy => h y (List.mem_cons_of_mem _ hy)
      simp only [List.length_cons] at hl
      rw [List.map_cons]
      unfold lcG
      have tr : (sm G pn wf (.bl true)).e ρ2 = some (.dat (.bool true), ρ2) := rfl
      have tb : truD (R.dat (.bool true)).d = some true := rfl
      simp only [a1, tr, tb, a2, Option.bind_eq_bind, Option.bind_some]
      rw [if_pos (by omega), a4, a3, ih (acc ++ [g x]) (by simp; omega)]
      simp
  rw [key xs [] (by simpa using hl) h]; rfl
section
variable {G : Gx}
theorem zipP (a b : Vc) : zipD (polD a) (polD b) = some ((a.zip b).map (prG optD optD)) := by
  show some (List.zipWith _ (a.map optD) (b.map optD)) = _
  rw [zip_prG]
theorem zip_pl : ∀ a b : Vc, ((a.zip b).map fun y => optD (pl y.1 y.2)) = (List.zipWith pl a b).map optD
  | [], _ => rfl
  | _ :: _, [] => rfl
  | x :: a, y :: b => by rw [List.zip_cons_cons, List.map_cons, List.zipWith_cons_cons, List.map_cons, zip_pl a b]
theorem zip_len (a b : Vc) (n : Nat) (h : a.length ≤ n) : (List.zipWith pl a b).length ≤ n := by rw [List.length_zipWith]; omega
/-! ### products -/
abbrev S_applied (f : Fn) : Prop := ∀ (t : Tb) (v : Vc), t.length ≤ 1000000 → v.length ≤ 1000000 → f [.dat (tbD t), .dat (polD v)] = some (.dat (polD (ap t v)), [.dat (tbD t), .dat (polD v)])
theorem ok_applied {F1 F2 : Fn} (q1 : G.fns "then" = some ⟨[false, false], F1⟩) (e1 : S_then F1) (q2 : G.fns "latest" = some ⟨[false], F2⟩) (e2 : S_latest F2) : S_applied (fnS G wfuel 5 2 i_applied) := fun t v ht hv => by
  have c1 : ∀ r : Vc, (sm G [] wfuel i_applied_c1).e [some (.dat (tbD t)), some (.dat (polD v)), some (.dat (polD r)), none, none] = some (.frs ((List.zipWith pl r v).map optD), [some (.dat (tbD t)), some (.dat (polD v)), some (.dat (polD r)), none, none]) := fun r => by
    rw [← zip_pl]
    unfold i_applied_c1
    refine lc_all (prG optD optD) _ (r.zip v) (by simp [sm, ownsAt, outs, argG, isAbs, arsD, arD, refs, slsOf, slOf, putBack, pubD, getD, getO, setS, wipeE, backE, partD, parG, Out.fg, borG, borE, zipP]) (by simp) (by rw [szE, List.length_zip]; omega) fun y hy => ⟨[some (.dat (tbD t)), some (.dat (polD v)), some (.dat (polD r)), some (.dat (optD y.1)), some (.dat (optD y.2))], by simp [sm, ownsAt, outs, argG, isAbs, arsD, arD, refs, slsOf, slOf, putBack, pubD, getD, getO, setS, wipeE, backE, partD, parG, Out.fg, borG, borE, prG], ?_, by simp [sm, ownsAt, outs, argG, isAbs, arsD, arD, refs, slsOf, slOf, putBack, pubD, getD, getO, setS, wipeE, backE, partD, parG, Out.fg, borG, borE]⟩
    have w := e1 y.1 y.2
    unfold i_applied_c1e
    simp [sm, ownsAt, outs, argG, isAbs, arsD, arD, refs, slsOf, slOf, putBack, pubD, getD, getO, setS, wipeE, backE, partD, parG, Out.fg, borG, borE, q1, w]
  have c0 : (sm G [] wfuel i_applied_c0).e [some (.dat (tbD t)), some (.dat (polD v)), none, none, none] = some (.frs ((ap t v).map optD), [some (.dat (tbD t)), some (.dat (polD v)), none, none, none]) := by
    unfold i_applied_c0 ap
    rw [List.map_map]
    refine lc_all polD _ t (by simp [sm, ownsAt, outs, argG, isAbs, arsD, arD, refs, slsOf, slOf, putBack, pubD, getD, getO, setS, wipeE, backE, partD, parG, Out.fg, borG, borE, tbD]) (by simp) (by rw [szE]; omega) fun r hr => ⟨[some (.dat (tbD t)), some (.dat (polD v)), some (.dat (polD r)), none, none], by simp [sm, ownsAt, outs, argG, isAbs, arsD, arD, refs, slsOf, slOf, putBack, pubD, getD, getO, setS, wipeE, backE, partD, parG, Out.fg, borG, borE], ?_, by simp [sm, ownsAt, outs, argG, isAbs, arsD, arD, refs, slsOf, slOf, putBack, pubD, getD, getO, setS, wipeE, backE, partD, parG, Out.fg, borG, borE]⟩
    have w := e2 (List.zipWith pl r v) (by rw [List.length_zipWith]; omega)
    have c := c1 r
    generalize (List.zipWith pl r v).map optD = L at c w
    unfold i_applied_c0e
    simp [sm, ownsAt, outs, argG, isAbs, arsD, arD, refs, slsOf, slOf, putBack, pubD, getD, getO, setS, wipeE, backE, partD, parG, Out.fg, borG, borE, c, q2, w]
  have tt : bltD "tuple" [.list ((ap t v).map optD)] = some (.dat (polD (ap t v))) := rfl
  unfold fnS i_applied
  simp [sm, ownsAt, outs, argG, isAbs, arsD, arD, refs, slsOf, slOf, putBack, pubD, getD, getO, setS, wipeE, backE, partD, parG, Out.fg, borG, borE, c0, tt, outs]
abbrev S_columns_of (f : Fn) : Prop := ∀ (t : Tb) (m : Nat), Rect t m → t.length ≤ 12 → m ≤ 1000 → f [.dat (tbD t)] = some (.dat (tbD (cols t)), [.dat (tbD t)])
theorem tups_tb : ∀ t : Tb, tupsD (t.map polD) = some (t.map fun r => r.map optD)
  | [] => rfl
  | r :: t => by rw [List.map_cons]; show (tupsD (t.map polD)).map _ = _; rw [tups_tb t]; rfl
theorem getD_opt (r : Vc) (j : Nat) : (r.map optD).getD j .none = optD (r.getD j none) := by
  rw [List.getD_eq_getElem?_getD, List.getElem?_map, List.getD_eq_getElem?_getD]
  cases r[j]? <;> rfl
theorem zst_tb {t : Tb} {m : Nat} (h : Rect t m) (hl : t.length ≤ 12) (hm : m ≤ 1000) : zstD (tbD t) = some (tbD (cols t)) := by
  have hd : ((t.map fun r => r.map optD).headD []).length = m := by
    rw [← h.head]
    cases t with
    | nil => exact absurd rfl h.1
    | cons r t => simp
  have s0 : seqD (tbD t) = some (t.map polD) := rfl
  unfold zstD
  rw [s0]
  simp only [Option.bind_eq_bind, Option.bind_some, tups_tb]
  rw [if_pos ⟨fun z => h.1 (List.map_eq_nil_iff.mp z), by rw [List.length_map]; exact hl, by rw [hd, szE]; omega, fun r hr => by
    obtain ⟨q, hq, rfl⟩ := List.mem_map.mp hr
    rw [hd, List.length_map]; exact h.2 q hq⟩, hd]
  unfold tbD cols
  rw [h.head, List.map_map]
  congr 3
  funext j
  show PyData.tuple ((t.map fun r => r.map optD).map fun r => r.getD j .none) = .tuple ((t.map fun r => r.getD j none).map optD)
  rw [List.map_map, List.map_map]
  congr 2
  funext r
  exact getD_opt r j
theorem ok_columns_of : S_columns_of (fnS G wfuel 1 1 i_columns_of) := fun t m h hl hm => by
  have w := zst_tb h hl hm
  unfold fnS i_columns_of
  simp [sm, ownsAt, outs, argG, isAbs, arsD, arD, refs, slsOf, slOf, putBack, pubD, getD, getO, setS, wipeE, backE, partD, parG, Out.fg, borG, borE, w, outs]
theorem seq_tb (t : Tb) : seqD (tbD t) = some (t.map polD) := rfl
theorem cols_len (t : Tb) : (cols t).length = (t.headD []).length := by unfold cols; rw [List.length_map, List.length_range]
def lsD (v : Vc) : PyData := .list (v.map optD)
abbrev S_product (f : Fn) : Prop := ∀ (t o : Tb) (m : Nat), Rect o m → o.length ≤ 12 → m ≤ 1000 → t.length ≤ 1000 → (∀ r ∈ t, r.length ≤ 1000) → f [.dat (tbD t), .dat (tbD o)] = some (.dat (tbD (pr t o)), [.dat (tbD t), .dat (tbD o)])
theorem ok_product {F1 F2 F3 : Fn} (q1 : G.fns "then" = some ⟨[false, false], F1⟩) (e1 : S_then F1) (q2 : G.fns "latest" = some ⟨[false], F2⟩) (e2 : S_latest F2) (q3 : G.fns "columns_of" = some ⟨[false], F3⟩) (e3 : S_columns_of F3) : S_product (fnS G wfuel 7 2 i_product) := fun t o m h h12 hm ht hr => by
  have w3 := e3 o m h h12 hm
  have c1 : ∀ (r c : Vc) (S : Option Sl), r.length ≤ 1000 → (sm G [] wfuel i_product_c1).e [some (.dat (tbD t)), some (.dat (tbD o)), S, some (.dat (polD r)), some (.dat (polD c)), none, none] = some (.frs ((List.zipWith pl r c).map optD), [some (.dat (tbD t)), some (.dat (tbD o)), S, some (.dat (polD r)), some (.dat (polD c)), none, none]) := fun r c S hrl => by
    rw [← zip_pl]
    unfold i_product_c1
    refine lc_all (prG optD optD) _ (r.zip c) (by simp [sm, ownsAt, outs, argG, isAbs, arsD, arD, refs, slsOf, slOf, putBack, pubD, getD, getO, setS, wipeE, backE, partD, parG, Out.fg, borG, borE, zipP]) (by simp) (by rw [szE, List.length_zip]; omega) fun y hy => ⟨[some (.dat (tbD t)), some (.dat (tbD o)), S, some (.dat (polD r)), some (.dat (polD c)), some (.dat (optD y.1)), some (.dat (optD y.2))], by simp [sm, ownsAt, outs, argG, isAbs, arsD, arD, refs, slsOf, slOf, putBack, pubD, getD, getO, setS, wipeE, backE, partD, parG, Out.fg, borG, borE, prG], ?_, by simp [sm, ownsAt, outs, argG, isAbs, arsD, arD, refs, slsOf, slOf, putBack, pubD, getD, getO, setS, wipeE, backE, partD, parG, Out.fg, borG, borE]⟩
    have w := e1 y.1 y.2
    unfold i_product_c1e
    simp [sm, ownsAt, outs, argG, isAbs, arsD, arD, refs, slsOf, slOf, putBack, pubD, getD, getO, setS, wipeE, backE, partD, parG, Out.fg, borG, borE, q1, w]
  have c0 : ∀ (r : Vc) (S : Option Sl), r.length ≤ 1000 → (sm G [] wfuel i_product_c0).e [some (.dat (tbD t)), some (.dat (tbD o)), S, some (.dat (polD r)), none, none, none] = some (.frs (((cols o).map fun col => mx (List.zipWith pl r col)).map optD), [some (.dat (tbD t)), some (.dat (tbD o)), S, some (.dat (polD r)), none, none, none]) := fun r S hrl => by
    rw [List.map_map]
    unfold i_product_c0
    refine lc_all polD _ (cols o) (by simp [sm, ownsAt, outs, argG, isAbs, arsD, arD, refs, slsOf, slOf, putBack, pubD, getD, getO, setS, wipeE, backE, partD, parG, Out.fg, borG, borE, q3, w3, seq_tb]) (by simp) (by rw [szE, cols_len, h.head]; omega) fun c hc => ⟨[some (.dat (tbD t)), some (.dat (tbD o)), S, some (.dat (polD r)), some (.dat (polD c)), none, none], by simp [sm, ownsAt, outs, argG, isAbs, arsD, arD, refs, slsOf, slOf, putBack, pubD, getD, getO, setS, wipeE, backE, partD, parG, Out.fg, borG, borE], ?_, by simp [sm, ownsAt, outs, argG, isAbs, arsD, arD, refs, slsOf, slOf, putBack, pubD, getD, getO, setS, wipeE, backE, partD, parG, Out.fg, borG, borE]⟩
    have w := e2 (List.zipWith pl r c) (by rw [List.length_zipWith]; omega)
    have c' := c1 r c S hrl
    generalize (List.zipWith pl r c).map optD = L at c' w
    unfold i_product_c0e
    simp [sm, ownsAt, outs, argG, isAbs, arsD, arD, refs, slsOf, slOf, putBack, pubD, getD, getO, setS, wipeE, backE, partD, parG, Out.fg, borG, borE, c', q2, w]
  have w0 : (sm G [] wfuel i_product_w0).s [some (.dat (tbD t)), some (.dat (tbD o)), some (.own []), none, none, none, none] = some (.nx [some (.dat (tbD t)), some (.dat (tbD o)), some (.own ((pr t o).map lsD)), none, none, none, none]) := by
    unfold i_product_w0
    refine for_ev (ρ1 := [some (.dat (tbD t)), some (.dat (tbD o)), some (.own []), none, none, none, none]) (xs := t.map polD) (by simp [sm, ownsAt, outs, argG, isAbs, arsD, arD, refs, slsOf, slOf, putBack, pubD, getD, getO, setS, wipeE, backE, partD, parG, Out.fg, borG, borE, seq_tb]) ?_
    have := for_fold (t := (sm G [] wfuel (.tnm 3)).t) (b := (sm G [] wfuel i_product_w0b).s) polD (fun acc : Tb => [some (.dat (tbD t)), some (.dat (tbD o)), some (.own (acc.map lsD)), none, none, none, none]) (fun acc r => acc ++ [(cols o).map fun col => mx (List.zipWith pl r col)]) (fun r acc => (∀ q ∈ r, q.length ≤ 1000) ∧ acc.length + r.length ≤ 1000) t [] ⟨hr, by simpa using ht⟩ fun r rest acc ⟨h1, h2⟩ => by
      have c := c0 r (some (.own (acc.map lsD))) (h1 r List.mem_cons_self)
      simp only [List.length_cons] at h2
      have hz : (acc.map lsD).length < 16777216 := by rw [List.length_map]; omega
      refine ⟨⟨fun q hq => h1 q (List.mem_cons_of_mem _ hq), by simp; omega⟩, [some (.dat (tbD t)), some (.dat (tbD o)), some (.own (acc.map lsD)), some (.dat (polD r)), none, none, none], by simp [sm, ownsAt, outs, argG, isAbs, arsD, arD, refs, slsOf, slOf, putBack, pubD, getD, getO, setS, wipeE, backE, partD, parG, Out.fg, borG, borE], .inl ?_⟩
      rw [List.map_append]
      have e : PyData.list (((cols o).map fun col => mx (List.zipWith pl r col)).map optD) = lsD ((cols o).map fun col => mx (List.zipWith pl r col)) := rfl
      generalize acc.map lsD = A at *
      generalize ((cols o).map fun col => mx (List.zipWith pl r col)) = C at *
      unfold i_product_w0b
      simp [sm, ownsAt, outs, argG, isAbs, arsD, arD, refs, slsOf, slOf, putBack, pubD, getD, getO, setS, wipeE, backE, partD, parG, Out.fg, borG, borE, szE, c, hz, e]
    have fe : t.foldl (fun acc r => acc ++ [(cols o).map fun col => mx (List.zipWith pl r col)]) [] = pr t o := by
      have key : ∀ (l : Tb) (acc : Tb), l.foldl (fun acc r => acc ++ [(cols o).map fun col => mx (List.zipWith pl r col)]) acc = acc ++ l.map fun r => (cols o).map fun col => mx (List.zipWith pl r col) := by
        intro l
        induction l with
        | nil => intro acc; simp
        | cons x l ih => intro acc; rw [List.foldl_cons, ih]; simp
      rw [key]; rfl
    rw [fe] at this
    exact this
  have pl1 := pr_len t o
  have c2 : (sm G [] wfuel i_product_c2).e [some (.dat (tbD t)), some (.dat (tbD o)), some (.own ((pr t o).map lsD)), none, none, none, none] = some (.frs ((pr t o).map polD), [some (.dat (tbD t)), some (.dat (tbD o)), some (.dat (.list ((pr t o).map lsD))), none, none, none, none]) := by
    unfold i_product_c2
    refine lc_all1 (ρ1 := [some (.dat (tbD t)), some (.dat (tbD o)), some (.dat (.list ((pr t o).map lsD))), none, none, none, none]) lsD _ (pr t o) (by simp [sm, ownsAt, outs, argG, isAbs, arsD, arD, refs, slsOf, slOf, putBack, pubD, getD, getO, setS, wipeE, backE, partD, parG, Out.fg, borG, borE]) (by simp) (by rw [szE, pl1]; omega) fun c hc => ⟨[some (.dat (tbD t)), some (.dat (tbD o)), some (.dat (.list ((pr t o).map lsD))), some (.dat (lsD c)), none, none, none], by simp [sm, ownsAt, outs, argG, isAbs, arsD, arD, refs, slsOf, slOf, putBack, pubD, getD, getO, setS, wipeE, backE, partD, parG, Out.fg, borG, borE], ?_, by simp [sm, ownsAt, outs, argG, isAbs, arsD, arD, refs, slsOf, slOf, putBack, pubD, getD, getO, setS, wipeE, backE, partD, parG, Out.fg, borG, borE]⟩
    have tt : bltD "tuple" [lsD c] = some (.dat (polD c)) := rfl
    unfold i_product_c2e
    simp [sm, ownsAt, outs, argG, isAbs, arsD, arD, refs, slsOf, slOf, putBack, pubD, getD, getO, setS, wipeE, backE, partD, parG, Out.fg, borG, borE, tt]
  have tt : bltD "tuple" [.list ((pr t o).map polD)] = some (.dat (tbD (pr t o))) := rfl
  unfold fnS i_product
  generalize (pr t o).map lsD = L at *
  simp [sm, ownsAt, outs, argG, isAbs, arsD, arD, refs, slsOf, slOf, putBack, pubD, getD, getO, setS, wipeE, backE, partD, parG, Out.fg, borG, borE, szE, w0, c2, tt, outs]
abbrev S_joined (f : Fn) : Prop := ∀ u v : Vc, u.length ≤ 1000000 → f [.dat (polD u), .dat (polD v)] = some (.dat (polD (jn u v)), [.dat (polD u), .dat (polD v)])
theorem jn_zip : ∀ a b : Vc, ((a.zip b).map fun y => optD (mx [y.1, y.2])) = (jn a b).map optD
  | [], _ => rfl
  | _ :: _, [] => rfl
  | x :: a, y :: b => by
    have := jn_zip a b
    unfold jn at this ⊢
    rw [List.zip_cons_cons, List.map_cons, List.zipWith_cons_cons, List.map_cons, this]
theorem ok_joined {F2 : Fn} (q2 : G.fns "latest" = some ⟨[false], F2⟩) (e2 : S_latest F2) : S_joined (fnS G wfuel 4 2 i_joined) := fun u v hu => by
  have c0 : (sm G [] wfuel i_joined_c0).e [some (.dat (polD u)), some (.dat (polD v)), none, none] = some (.frs ((jn u v).map optD), [some (.dat (polD u)), some (.dat (polD v)), none, none]) := by
    rw [← jn_zip]
    unfold i_joined_c0
    refine lc_all (prG optD optD) _ (u.zip v) (by simp [sm, ownsAt, outs, argG, isAbs, arsD, arD, refs, slsOf, slOf, putBack, pubD, getD, getO, setS, wipeE, backE, partD, parG, Out.fg, borG, borE, zipP]) (by simp) (by rw [szE, List.length_zip]; omega) fun y hy => ⟨[some (.dat (polD u)), some (.dat (polD v)), some (.dat (optD y.1)), some (.dat (optD y.2))], by simp [sm, ownsAt, outs, argG, isAbs, arsD, arD, refs, slsOf, slOf, putBack, pubD, getD, getO, setS, wipeE, backE, partD, parG, Out.fg, borG, borE, prG], ?_, by simp [sm, ownsAt, outs, argG, isAbs, arsD, arD, refs, slsOf, slOf, putBack, pubD, getD, getO, setS, wipeE, backE, partD, parG, Out.fg, borG, borE]⟩
    have w := e2 [y.1, y.2] (by simp)
    simp only [List.map_cons, List.map_nil] at w
    unfold i_joined_c0e
    simp [sm, ownsAt, outs, argG, isAbs, arsD, arD, refs, slsOf, slOf, putBack, pubD, getD, getO, setS, wipeE, backE, partD, parG, Out.fg, borG, borE, szE, q2, w]
  have tt : bltD "tuple" [.list ((jn u v).map optD)] = some (.dat (polD (jn u v))) := rfl
  unfold fnS i_joined
  simp [sm, ownsAt, outs, argG, isAbs, arsD, arD, refs, slsOf, slOf, putBack, pubD, getD, getO, setS, wipeE, backE, partD, parG, Out.fg, borG, borE, c0, tt, outs]
end
end Lz

namespace Lz
open PySem PySem.Spec PyProof.Rows L2 Dx Pz
/-! ### lines -/
def liD (A B C : Tb) : PyData := .tuple [.str (Str.ofString "line"), tbD A, tbD B, tbD C]
structure LiOk (A B C : Tb) (w : Nat) : Prop where
  a : TbOk A A.length
  b : TbOk B w
  c : TbOk C A.length
  l : B.length = A.length
/-- steps, as a list or as a tuple -/
def vsD (b : Bool) (vs : List Vc) : PyData := if b then .tuple (vs.map polD) else .list (vs.map polD)
structure InOk (vs : List Vc) (w : Nat) : Prop where
  ne : vs ≠ []
  len : vs.length ≤ 12
  vec : ∀ v ∈ vs, VcOk v w
theorem seq_vs (b : Bool) (vs : List Vc) : seqD (vsD b vs) = some (vs.map polD) := by cases b <;> rfl
theorem len_vs (b : Bool) (vs : List Vc) : bltD "len" [vsD b vs] = some (.dat (.int vs.length)) := by
  cases b <;> (show some (R.dat (.int ((vs.map polD).length : Nat))) = _; rw [List.length_map])
theorem isL_vs (b : Bool) (vs : List Vc) : isL (vsD b vs) = true := by cases b <;> rfl
theorem idx_vs (b : Bool) {vs : List Vc} {i : Nat} {v : Vc} (h : vs[i]? = some v) : idxD (vsD b vs) (.int i) = some (polD v) := by
  have : atI (vs.map polD) (i : Int) = some (polD v) := at_nat (by rw [List.getElem?_map, h]; rfl)
  cases b <;> exact this
section
variable {G : Gx}
theorem li0 (A B C : Tb) : idxD (liD A B C) (.int 0) = some (.str (Str.ofString "line")) := by show atI _ _ = _; exact at_nat (i := 0) rfl
theorem li1 (A B C : Tb) : idxD (liD A B C) (.int 1) = some (tbD A) := by show atI _ _ = _; exact at_nat (i := 1) rfl
theorem li2 (A B C : Tb) : idxD (liD A B C) (.int 2) = some (tbD B) := by show atI _ _ = _; exact at_nat (i := 2) rfl
theorem li3 (A B C : Tb) : idxD (liD A B C) (.int 3) = some (tbD C) := by show atI _ _ = _; exact at_nat (i := 3) rfl
abbrev S_is_line_any (f : Fn) : Prop := ∀ (A B C : Tb) (w : Nat), LiOk A B C w → f [.dat (liD A B C)] = some (.dat (.bool true), [.dat (liD A B C)])
theorem ok_is_line_any {F1 F2 F3 : Fn} (q1 : G.fns "is_tuple" = some ⟨[false, false], F1⟩) (e1 : S_is_tuple F1) (q2 : G.fns "is_square_any" = some ⟨[false], F2⟩) (e2 : S_is_square_any F2) (q3 : G.fns "is_table_any" = some ⟨[false], F3⟩) (e3 : S_is_table_any F3) (k1 : G.cons "LINE" = some (.str (Str.ofString "line"))) : S_is_line_any (fnS G wfuel 1 1 i_is_line_any) := fun A B C w h => by
  have w1 := e1 (liD A B C) 4
  have t : isT (liD A B C) 4 = true := rfl
  rw [t] at w1
  have w2 := e2 A h.a
  have w3 := e3 B w h.b
  have w4 := e3 C _ h.c
  have x0 := li0 A B C
  have x1 := li1 A B C
  have x2 := li2 A B C
  have x3 := li3 A B C
  obtain ⟨r0, ix, rl⟩ := head_tb h.c
  have l1 := len_tb A
  have l2 := len_tb B
  rw [h.l] at l2
  have l3 := len_pol r0
  rw [rl] at l3
  have st : isiL (.str (Str.ofString "line")) ["str"] = some true := rfl
  unfold fnS i_is_line_any
  generalize liD A B C = D at *
  generalize tbD A = dA at *
  generalize tbD B = dB at *
  generalize tbD C = dC at *
  simp [sm, ownsAt, outs, argG, isAbs, arsD, arD, refs, slsOf, slOf, putBack, pubD, getD, getO, setS, wipeE, backE, partD, parG, Out.fg, borG, borE, q1, w1, x0, x1, x2, x3, st, k1, Pz.ne_str, q2, w2, q3, w3, w4, ix, l1, l2, l3, outs]
abbrev S_want_line (f : Fn) : Prop := ∀ (A B C : Tb) (w : Nat), LiOk A B C w → f [.dat (liD A B C)] = some (.dat .none, [.dat (liD A B C)])
theorem ok_want_line {F1 : Fn} (q1 : G.fns "is_line_any" = some ⟨[false], F1⟩) (e1 : S_is_line_any F1) : S_want_line (fnS G wfuel 1 1 i_want_line) := fun A B C w h => by
  have w1 := e1 A B C w h
  unfold fnS i_want_line
  simp [sm, ownsAt, outs, argG, isAbs, arsD, arD, refs, slsOf, slOf, putBack, pubD, getD, getO, setS, wipeE, backE, partD, parG, Out.fg, borG, borE, q1, w1, outs]
abbrev S_inputs_of (f : Fn) : Prop := ∀ (A B C : Tb) (w : Nat), LiOk A B C w → f [.dat (liD A B C)] = some (.dat (.int w), [.dat (liD A B C)])
theorem ok_inputs_of : S_inputs_of (fnS G wfuel 1 1 i_inputs_of) := fun A B C w h => by
  obtain ⟨r0, ix, rl⟩ := head_tb h.b
  have x2 := li2 A B C
  have l3 := len_pol r0
  rw [rl] at l3
  unfold fnS i_inputs_of
  generalize liD A B C = D at *
  generalize tbD B = dB at *
  simp [sm, ownsAt, outs, argG, isAbs, arsD, arD, refs, slsOf, slOf, putBack, pubD, getD, getO, setS, wipeE, backE, partD, parG, Out.fg, borG, borE, x2, ix, l3, outs]
abbrev S_outputs_of (f : Fn) : Prop := ∀ (A B C : Tb) (w : Nat), LiOk A B C w → f [.dat (liD A B C)] = some (.dat (.int C.length), [.dat (liD A B C)])
theorem ok_outputs_of : S_outputs_of (fnS G wfuel 1 1 i_outputs_of) := fun A B C w h => by
  have x3 := li3 A B C
  have l3 := len_tb C
  unfold fnS i_outputs_of
  generalize liD A B C = D at *
  generalize tbD C = dC at *
  simp [sm, ownsAt, outs, argG, isAbs, arsD, arD, refs, slsOf, slOf, putBack, pubD, getD, getO, setS, wipeE, backE, partD, parG, Out.fg, borG, borE, x3, l3, outs]
abbrev S_are_steps (f : Fn) : Prop := ∀ (b : Bool) (vs : List Vc) (w : Nat), InOk vs w → w ≤ 8 → f [.dat (.int w), .dat (vsD b vs)] = some (.dat (.bool true), [.dat (.int w), .dat (vsD b vs)])
theorem ok_are_steps {F1 F2 : Fn} (q1 : G.fns "is_list" = some ⟨[false], F1⟩) (e1 : S_is_list F1) (q2 : G.fns "is_vector_of" = some ⟨[false, false], F2⟩) (e2 : S_is_vector_of F2) (k1 : G.cons "MOST_STEPS" = some (.int 12)) : S_are_steps (fnS G wfuel 3 2 i_are_steps) := fun b vs w h hw => by
  have w1 := e1 (vsD b vs)
  rw [isL_vs] at w1
  have ln := len_vs b vs
  have hl := h.len
  have i1 : (1 : Int) ≤ vs.length := by have := List.length_pos_iff.mpr h.ne; omega
  have i2 : (vs.length : Int) ≤ 12 := by omega
  have c0 : (sm G [] wfuel i_are_steps_c0).e [some (.dat (.int w)), some (.dat (vsD b vs)), none] = some (.frs (vs.map fun _ => .bool true), [some (.dat (.int w)), some (.dat (vsD b vs)), none]) := by
    unfold i_are_steps_c0
    refine lc_all polD _ vs (by simp [sm, ownsAt, outs, argG, isAbs, arsD, arD, refs, slsOf, slOf, putBack, pubD, getD, getO, setS, wipeE, backE, partD, parG, Out.fg, borG, borE, seq_vs]) (by simp) (by rw [szE]; omega) fun v hv => ⟨[some (.dat (.int w)), some (.dat (vsD b vs)), some (.dat (polD v))], by simp [sm, ownsAt, outs, argG, isAbs, arsD, arD, refs, slsOf, slOf, putBack, pubD, getD, getO, setS, wipeE, backE, partD, parG, Out.fg, borG, borE], ?_, by simp [sm, ownsAt, outs, argG, isAbs, arsD, arD, refs, slsOf, slOf, putBack, pubD, getD, getO, setS, wipeE, backE, partD, parG, Out.fg, borG, borE]⟩
    have w2 := e2 v w (h.vec v hv) (by omega)
    unfold i_are_steps_c0e
    simp [sm, ownsAt, outs, argG, isAbs, arsD, arD, refs, slsOf, slOf, putBack, pubD, getD, getO, setS, wipeE, backE, partD, parG, Out.fg, borG, borE, q2, w2]
  have a := all_true vs
  unfold fnS i_are_steps
  generalize vsD b vs = D at *
  simp [sm, ownsAt, outs, argG, isAbs, arsD, arD, refs, slsOf, slOf, putBack, pubD, getD, getO, setS, wipeE, backE, partD, parG, Out.fg, borG, borE, q1, w1, ln, k1, i1, i2, c0, a, outs]
abbrev S_want_inputs (f : Fn) : Prop := ∀ (A B C : Tb) (w : Nat) (b : Bool) (vs : List Vc), LiOk A B C w → InOk vs w → f [.dat (liD A B C), .dat (vsD b vs)] = some (.dat .none, [.dat (liD A B C), .dat (vsD b vs)])
theorem ok_want_inputs {F1 F2 F3 : Fn} (q1 : G.fns "want_line" = some ⟨[false], F1⟩) (e1 : S_want_line F1) (q2 : G.fns "are_steps" = some ⟨[false, false], F2⟩) (e2 : S_are_steps F2) (q3 : G.fns "inputs_of" = some ⟨[false], F3⟩) (e3 : S_inputs_of F3) : S_want_inputs (fnS G wfuel 2 2 i_want_inputs) := fun A B C w b vs h hv => by
  have w1 := e1 A B C w h
  have w2 := e2 b vs w hv h.b.m8
  have w3 := e3 A B C w h
  unfold fnS i_want_inputs
  simp [sm, ownsAt, outs, argG, isAbs, arsD, arD, refs, slsOf, slOf, putBack, pubD, getD, getO, setS, wipeE, backE, partD, parG, Out.fg, borG, borE, q1, w1, q3, w3, q2, w2, outs]
/-! ### driving -/
def stepP (A B : Tb) (acc : List Vc) (v : Vc) : List Vc := acc ++ [if acc = [] then ap B v else jn (ap A (acc.getLastD [])) (ap B v)]
theorem stepP_F (A B : Tb) : ∀ (vs acc : List Vc), acc ≠ [] → vs.foldl (stepP A B) acc = acc ++ stF A B vs (acc.getLastD [])
  | [], acc, _ => by simp [stF]
  | v :: r, acc, h => by
    rw [List.foldl_cons, stepP_F A B r _ (by unfold stepP; simp)]
    unfold stepP
    rw [if_neg h]
    simp [stF]
theorem stepP_P (A B : Tb) (vs : List Vc) : vs.foldl (stepP A B) [] = stP A B vs := by
  cases vs with
  | nil => rfl
  | cons v r =>
    rw [List.foldl_cons, stepP_F A B r _ (by unfold stepP; simp)]
    unfold stepP
    simp [stP]
theorem last_at (xs : List Vc) (h : xs ≠ []) : atI (xs.map polD) (-1) = some (polD (xs.getLastD [])) := at_last polD (by
  rw [List.getLastD_eq_getLast?]
  cases e : xs.getLast? with
  | none => exact absurd (List.getLast?_eq_none_iff.mp e) h
  | some a => rfl)
abbrev S_states_by (f : Fn) : Prop := ∀ (A B C : Tb) (w : Nat) (b : Bool) (vs : List Vc), LiOk A B C w → vs.length ≤ 100 → (∀ v ∈ vs, v.length ≤ 1000) → f [.dat (liD A B C), .dat (vsD b vs)] = some (.frs ((stP A B vs).map polD), [.dat (liD A B C), .dat (vsD b vs)])
theorem ok_states_by {F1 F2 : Fn} (q1 : G.fns "applied" = some ⟨[false, false], F1⟩) (e1 : S_applied F1) (q2 : G.fns "joined" = some ⟨[false, false], F2⟩) (e2 : S_joined F2) : S_states_by (fnS G wfuel 9 2 i_states_by) := fun A B C w b vs h hl hv => by
  have a8 := h.a.len
  have b8 := h.b.len
  have w0 : (sm G [] wfuel i_states_by_w0).s [some (.dat (liD A B C)), some (.dat (vsD b vs)), some (.own []), none, some (.dat (.str (Str.ofString "line"))), some (.dat (tbD A)), some (.dat (tbD B)), some (.dat (tbD C)), none] =
      some (.nx [some (.dat (liD A B C)), some (.dat (vsD b vs)), some (.own ((stP A B vs).map polD)), none, some (.dat (.str (Str.ofString "line"))), some (.dat (tbD A)), some (.dat (tbD B)), some (.dat (tbD C)), none]) := by
    unfold i_states_by_w0
    refine for_ev (ρ1 := [some (.dat (liD A B C)), some (.dat (vsD b vs)), some (.own []), none, some (.dat (.str (Str.ofString "line"))), some (.dat (tbD A)), some (.dat (tbD B)), some (.dat (tbD C)), none]) (xs := vs.map polD) (by simp [sm, ownsAt, outs, argG, isAbs, arsD, arD, refs, slsOf, slOf, putBack, pubD, getD, getO, setS, wipeE, backE, partD, parG, Out.fg, borG, borE, seq_vs]) ?_
    have := for_fold (t := (sm G [] wfuel (.tnm 3)).t) (b := (sm G [] wfuel i_states_by_w0b).s) polD (fun acc : List Vc => [some (.dat (liD A B C)), some (.dat (vsD b vs)), some (.own (acc.map polD)), none, some (.dat (.str (Str.ofString "line"))), some (.dat (tbD A)), some (.dat (tbD B)), some (.dat (tbD C)), none])
      (stepP A B) (fun r acc => (∀ v ∈ r, v.length ≤ 1000) ∧ acc.length + r.length ≤ 1000 ∧ ∀ q ∈ acc, q.length = B.length) vs [] ⟨hv, by simp; omega, fun q hq => by cases hq⟩ fun v r acc ⟨h1, h2, h3⟩ => by
      simp only [List.length_cons] at h2
      have hvl := h1 v List.mem_cons_self
      have hz : (acc.map polD).length < 16777216 := by rw [List.length_map]; omega
      have wB := e1 B v (by omega) (by omega)
      refine ⟨⟨fun q hq => h1 q (List.mem_cons_of_mem _ hq), by unfold stepP; simp; omega, fun q hq => ?_⟩, [some (.dat (liD A B C)), some (.dat (vsD b vs)), some (.own (acc.map polD)), some (.dat (polD v)), some (.dat (.str (Str.ofString "line"))), some (.dat (tbD A)), some (.dat (tbD B)), some (.dat (tbD C)), none], by simp [sm, ownsAt, outs, argG, isAbs, arsD, arD, refs, slsOf, slOf, putBack, pubD, getD, getO, setS, wipeE, backE, partD, parG, Out.fg, borG, borE], .inl ?_⟩
      · unfold stepP at hq
        rcases List.mem_append.mp hq with hq | hq
        · exact h3 q hq
        · rw [List.mem_singleton.mp hq]
          split
          · exact ap_len _ _
          · rw [jn_len (by rw [ap_len, ap_len, h.l]), ap_len]
      · have en := eq_nil (enc := polD) Sh.polD (by omega) acc
        unfold stepP
        rw [List.map_append]
        by_cases hne : acc = []
        · rw [if_pos hne]
          have hb : acc.isEmpty = true := by rw [hne]; rfl
          rw [hb] at en
          generalize acc.map polD = L at *
          generalize tbD A = dA at *
          generalize tbD B = dB at *
          generalize tbD C = dC at *
          generalize liD A B C = D at *
          unfold i_states_by_w0b
          simp [sm, ownsAt, outs, argG, isAbs, arsD, arD, refs, slsOf, slOf, putBack, pubD, getD, getO, setS, wipeE, backE, partD, parG, Out.fg, borG, borE, szE, q1, wB, en, hz]
        · rw [if_neg hne]
          have hb : acc.isEmpty = false := by rw [List.isEmpty_eq_false_iff]; exact hne
          rw [hb] at en
          have la := last_at acc hne
          have lm : acc.getLastD [] ∈ acc := by
            rw [List.getLastD_eq_getLast?]
            cases e : acc.getLast? with
            | none => exact absurd (List.getLast?_eq_none_iff.mp e) hne
            | some a => exact List.mem_of_getLast? e
          have ll := h3 _ lm
          have wA := e1 A (acc.getLastD []) (by omega) (by omega)
          have wJ := e2 (ap A (acc.getLastD [])) (ap B v) (by rw [ap_len]; omega)
          have la2 : idxD (.list (acc.map polD)) (.int (-1)) = some (polD (acc.getLastD [])) := la
          generalize acc.getLastD [] = last at *
          generalize acc.map polD = L at *
          generalize tbD A = dA at *
          generalize tbD B = dB at *
          generalize tbD C = dC at *
          generalize liD A B C = D at *
          unfold i_states_by_w0b
          simp [sm, ownsAt, outs, argG, isAbs, arsD, arD, refs, slsOf, slOf, putBack, pubD, getD, getO, setS, wipeE, backE, partD, parG, Out.fg, borG, borE, szE, q1, wB, en, hz, la, la2, wA, q2, wJ]
    rw [stepP_P] at this
    exact this
  have un : liD A B C = .tuple [.str (Str.ofString "line"), tbD A, tbD B, tbD C] := rfl
  unfold fnS i_states_by
  generalize (stP A B vs).map polD = L at *
  rw [un] at w0 ⊢
  simp [sm, ownsAt, outs, argG, isAbs, arsD, arD, refs, slsOf, slOf, putBack, pubD, getD, getO, setS, wipeE, backE, partD, parG, Out.fg, borG, borE, w0, outs]
end
end Lz

namespace Lz
open PySem PySem.Spec PyProof.Rows L2 Dx Pz
section
variable {G : Gx}
theorem stF_elt {A B : Tb} (h : A.length = B.length) : ∀ (vs : List Vc) (last : Vc), ∀ s ∈ stF A B vs last, s.length = B.length
  | [], _, s, hs => by cases hs
  | v :: r, last, s, hs => by
    rw [stF] at hs
    rcases List.mem_cons.mp hs with rfl | hs
    · rw [jn_len (by rw [ap_len, ap_len, h]), ap_len]
    · exact stF_elt h r _ s hs
theorem stP_elt {A B : Tb} (h : A.length = B.length) (vs : List Vc) : ∀ s ∈ stP A B vs, s.length = B.length := fun s hs => by
  cases vs with
  | nil => cases hs
  | cons v r =>
    rw [stP] at hs
    rcases List.mem_cons.mp hs with rfl | hs
    · exact ap_len _ _
    · exact stF_elt h r _ s hs
abbrev S_outputs_by (f : Fn) : Prop := ∀ (A B C : Tb) (w : Nat) (b : Bool) (vs : List Vc), LiOk A B C w → vs.length ≤ 100 → (∀ v ∈ vs, v.length ≤ 1000) → f [.dat (liD A B C), .dat (vsD b vs)] = some (.frs ((out A B C vs).map polD), [.dat (liD A B C), .dat (vsD b vs)])
theorem ok_outputs_by {F1 F2 : Fn} (q1 : G.fns "applied" = some ⟨[false, false], F1⟩) (e1 : S_applied F1) (q2 : G.fns "states_by" = some ⟨[false, false], F2⟩) (e2 : S_states_by F2) : S_outputs_by (fnS G wfuel 3 2 i_outputs_by) := fun A B C w b vs h hl hv => by
  have w2 := e2 A B C w b vs h hl hv
  have x3 := li3 A B C
  have b8 := h.b.len
  have c8 := h.c.len
  have c0 : (sm G [] wfuel i_outputs_by_c0).e [some (.dat (liD A B C)), some (.dat (vsD b vs)), none] = some (.frs ((out A B C vs).map polD), [some (.dat (liD A B C)), some (.dat (vsD b vs)), none]) := by
    unfold i_outputs_by_c0 out
    rw [List.map_map]
    refine lc_all polD _ (stP A B vs) (by
      generalize (stP A B vs).map polD = L at *
      generalize liD A B C = D at *
      simp [sm, ownsAt, outs, argG, isAbs, arsD, arD, refs, slsOf, slOf, putBack, pubD, getD, getO, setS, wipeE, backE, partD, parG, Out.fg, borG, borE, q2, w2]) (by simp) (by rw [szE, stP_len]; omega) fun s hs => ⟨[some (.dat (liD A B C)), some (.dat (vsD b vs)), some (.dat (polD s))], by simp [sm, ownsAt, outs, argG, isAbs, arsD, arD, refs, slsOf, slOf, putBack, pubD, getD, getO, setS, wipeE, backE, partD, parG, Out.fg, borG, borE], ?_, by simp [sm, ownsAt, outs, argG, isAbs, arsD, arD, refs, slsOf, slOf, putBack, pubD, getD, getO, setS, wipeE, backE, partD, parG, Out.fg, borG, borE]⟩
    have sl := stP_elt (by rw [h.l]) vs s hs
    have w1 := e1 C s (by omega) (by omega)
    unfold i_outputs_by_c0e
    generalize tbD C = dC at *
    generalize liD A B C = D at *
    simp [sm, ownsAt, outs, argG, isAbs, arsD, arD, refs, slsOf, slOf, putBack, pubD, getD, getO, setS, wipeE, backE, partD, parG, Out.fg, borG, borE, x3, q1, w1]
  unfold fnS i_outputs_by
  generalize liD A B C = D at *
  simp [sm, ownsAt, outs, argG, isAbs, arsD, arD, refs, slsOf, slOf, putBack, pubD, getD, getO, setS, wipeE, backE, partD, parG, Out.fg, borG, borE, c0, outs]
def ans (A B C : Tb) (n : Nat) : List Tb := (List.range n).map (an A B C)
abbrev S_answers_by (f : Fn) : Prop := ∀ (A B C : Tb) (w n : Nat), LiOk A B C w → n ≤ 100 → f [.dat (liD A B C), .dat (.int n)] = some (.frs ((ans A B C n).map tbD), [.dat (liD A B C), .dat (.int n)])
theorem rng_n (n : Nat) (h : n ≤ 1000000) : rngD [.int (n : Int)] = some ((List.range n).map fun (i : Nat) => PyData.int i) := by
  show (if _ then _ else _) = _
  rw [if_pos (by omega)]
  simp
theorem ok_answers_by {F1 : Fn} (q1 : G.fns "product" = some ⟨[false, false], F1⟩) (e1 : S_product F1) : S_answers_by (fnS G wfuel 5 2 i_answers_by) := fun A B C w n h hn => by
  have a8 := h.a.len
  have b8 := h.b.len
  have c8 := h.c.len
  have w8 := h.b.m8
  have hA : A ≠ [] := h.a.ne
  have R := Mk_rect hA h.b.rect
  have ml : ∀ k, (Mk A B k).length = A.length := fun k => by
    cases k with
    | zero => exact h.l
    | succ k => exact pr_len _ _
  have x1 := li1 A B C
  have x2 := li2 A B C
  have x3 := li3 A B C
  have w0 : (sm G [] wfuel i_answers_by_w0).s [some (.dat (liD A B C)), some (.dat (.int n)), none, some (.dat (tbD B)), some (.own [])] =
      some (.nx [some (.dat (liD A B C)), some (.dat (.int n)), none, some (.dat (tbD (Mk A B n))), some (.own ((ans A B C n).map tbD))]) := by
    unfold i_answers_by_w0
    have r := rng_n n (by omega)
    refine for_ev (ρ1 := [some (.dat (liD A B C)), some (.dat (.int n)), none, some (.dat (tbD B)), some (.own [])]) (xs := (List.range n).map fun (i : Nat) => PyData.int i) (by simp [sm, ownsAt, outs, argG, isAbs, arsD, arD, refs, slsOf, slOf, putBack, pubD, getD, getO, setS, wipeE, backE, partD, parG, Out.fg, borG, borE, r]) ?_
    have := for_fold (t := (sm G [] wfuel (.tnm 2)).t) (b := (sm G [] wfuel i_answers_by_w0b).s) (fun (i : Nat) => PyData.int i) (fun x : Nat => [some (.dat (liD A B C)), some (.dat (.int n)), none, some (.dat (tbD (Mk A B x))), some (.own ((ans A B C x).map tbD))])
      (fun x _ => x + 1) (fun r x => x + r.length ≤ 1000) (List.range n) 0 (by simp; omega) fun i r x h2 => by
      simp only [List.length_cons] at h2
      have l1 := ml x
      have p1 := e1 C (Mk A B x) w (R x) (by omega) (by omega) (by omega) fun q hq => by rw [h.c.rows q hq]; omega
      have p2 := e1 A (Mk A B x) w (R x) (by omega) (by omega) (by omega) fun q hq => by rw [h.a.rows q hq]; omega
      have e : ans A B C (x + 1) = ans A B C x ++ [an A B C x] := by unfold ans; rw [List.range_succ, List.map_append]; rfl
      have eA : an A B C x = pr C (Mk A B x) := rfl
      have eM : Mk A B (x + 1) = pr A (Mk A B x) := rfl
      have hz : ((ans A B C x).map tbD).length < 16777216 := by unfold ans; simp; omega
      refine ⟨by omega, [some (.dat (liD A B C)), some (.dat (.int n)), some (.dat (.int i)), some (.dat (tbD (Mk A B x))), some (.own ((ans A B C x).map tbD))], by simp [sm, ownsAt, outs, argG, isAbs, arsD, arD, refs, slsOf, slOf, putBack, pubD, getD, getO, setS, wipeE, backE, partD, parG, Out.fg, borG, borE], .inl ?_⟩
      rw [e, List.map_append, eA, eM, List.map_cons, List.map_nil]
      generalize (ans A B C x).map tbD = L at *
      generalize tbD (pr C (Mk A B x)) = P1 at *
      generalize tbD (pr A (Mk A B x)) = P2 at *
      generalize tbD (Mk A B x) = P0 at *
      generalize tbD A = dA at *
      generalize tbD C = dC at *
      generalize liD A B C = D at *
      unfold i_answers_by_w0b
      simp [sm, ownsAt, outs, argG, isAbs, arsD, arD, refs, slsOf, slOf, putBack, pubD, getD, getO, setS, wipeE, backE, partD, parG, Out.fg, borG, borE, szE, x3, x1, q1, p1, p2, hz]
    have fe : ∀ (l : List Nat) (x : Nat), l.foldl (fun x _ => x + 1) x = x + l.length := by
      intro l
      induction l with
      | nil => intro x; rfl
      | cons a l ih => intro x; rw [List.foldl_cons, ih]; simp; omega
    rw [fe, List.length_range, Nat.zero_add] at this
    exact this
  unfold fnS i_answers_by
  generalize (ans A B C n).map tbD = L at *
  generalize tbD (Mk A B n) = P0 at *
  generalize tbD B = dB at *
  generalize liD A B C = D at *
  simp [sm, ownsAt, outs, argG, isAbs, arsD, arD, refs, slsOf, slOf, putBack, pubD, getD, getO, setS, wipeE, backE, partD, parG, Out.fg, borG, borE, szE, x2, w0, outs]
end
end Lz

namespace Lz
open PySem PySem.Spec PyProof.Rows L2 Dx Pz
/-! ### what is drawn -/
def potS (a b : Int) : Sl := .own [.int a, .int b]
def potB (b : Int) : Prop := 0 ≤ b ∧ b < 2 ^ 31
theorem sml {i : Int} (h : -(2 ^ 200) < i ∧ i < 2 ^ 200) : small i = true := small_abs (n := 200) (by omega) (by omega)
theorem mulI {i j : Int} (h1 : -(2 ^ 200) < i ∧ i < 2 ^ 200) (h2 : -(2 ^ 200) < j ∧ j < 2 ^ 200) : binD .Mult (.int i) (.int j) = some (.dat (.int (i * j))) :=
  bin_mul (sml h1) (sml h2)
theorem abs_if (z : Int) : (if z < 0 then -z else z) = (z.natAbs : Int) := by split <;> omega
section
variable {G : Gx}
abbrev S_draw (f : Fn) : Prop := ∀ a b m : Int, potB b → 0 < m → m < 2 ^ 29 → ∃ r a' b', f [potS a b, .dat (.int m)] = some (.dat (.int r), [potS a' b', .dat (.int m)]) ∧ 0 ≤ r ∧ r < m ∧ potB b'
theorem ok_l_draw (c0 c1 : Int) (hc : (0 ≤ c0 ∧ c0 < 2 ^ 60) ∧ 0 < c1 ∧ c1 < 2 ^ 60) : S_draw (fnS G wfuel 3 2 (i_l_draw c0 c1)) := fun a b m hb h1 h2 => by
  obtain ⟨hb1, hb2⟩ := hb
  unfold fnS i_l_draw potS
  by_cases ha : 0 < a
  · refine ⟨a % m, a / m, b, ?_, Int.emod_nonneg _ (by omega), Int.emod_lt_of_pos _ h1, hb1, hb2⟩
    simp [sm, ownsAt, outs, argG, isAbs, arsD, arD, refs, slsOf, slOf, putBack, pubD, getD, getO, setS, wipeE, backE, partD, parG, Out.fg, borG, borE, ha, h1, show m < 536870912 by omega, outs]
  · have m1 := mulI (i := b) (j := 39373) ⟨by omega, by omega⟩ ⟨by omega, by omega⟩
    have m2 := bin_mod (i := b * 39373 + c0) (j := 2147483587) (by omega)
    have u1 : 0 ≤ (b * 39373 + c0) % 2147483587 := Int.emod_nonneg _ (by omega)
    have u2 : (b * 39373 + c0) % 2147483587 < 2147483587 := Int.emod_lt_of_pos _ (by omega)
    generalize hc' : (b * 39373 + c0) % 2147483587 = c at m2 u1 u2
    have m3 := mulI (i := c) (j := c) ⟨by omega, by omega⟩ ⟨by omega, by omega⟩
    have m4 := bin_mod (i := c * c) (j := 2147483549) (by omega)
    have u3 : 0 ≤ (c * c) % 2147483549 := Int.emod_nonneg _ (by omega)
    have u4 : (c * c) % 2147483549 < 2147483549 := Int.emod_lt_of_pos _ (by omega)
    generalize hd : (c * c) % 2147483549 = d at m4 u3 u4
    have m5 := bin_div (i := d) (j := c1) (by omega) (sml ⟨by omega, by omega⟩)
    have m6 := bin_mod (i := d / c1) (j := m) h1
    refine ⟨(d / c1) % m, a, c, ?_, Int.emod_nonneg _ (by omega), Int.emod_lt_of_pos _ h1, u1, by omega⟩
    simp [sm, ownsAt, outs, argG, isAbs, arsD, arD, refs, slsOf, slOf, putBack, pubD, getD, getO, setS, wipeE, backE, partD, parG, Out.fg, borG, borE, ha, m1, m2, m3, m4, m5, m6, outs]
abbrev S_pick (f : Fn) : Prop := ∀ (a b : Int) (xs : List PyData), potB b → 0 < xs.length → xs.length < 2 ^ 20 → ∃ x a' b', f [potS a b, .dat (.list xs)] = some (.dat x, [potS a' b', .dat (.list xs)]) ∧ x ∈ xs ∧ potB b'
theorem ok_l_pick {F1 : Fn} (q1 : G.fns "_law_draw" = some ⟨[true, false], F1⟩) (e1 : S_draw F1) : S_pick (fnS G wfuel 2 2 i_l_pick) := fun a b xs hb h0 h1 => by
  obtain ⟨r, a', b', e, r1, r2, hb'⟩ := e1 a b xs.length hb (by omega) (by omega)
  obtain ⟨n, rfl⟩ : ∃ n : Nat, r = n := ⟨r.toNat, by omega⟩
  have hn : n < xs.length := by omega
  have gx : atI xs (n : Int) = some xs[n] := at_nat (List.getElem?_eq_getElem hn)
  refine ⟨xs[n], a', b', ?_, List.getElem_mem hn, hb'⟩
  unfold fnS i_l_pick
  unfold potS at e ⊢
  simp [sm, ownsAt, outs, argG, isAbs, arsD, arD, refs, slsOf, slOf, putBack, pubD, getD, getO, setS, wipeE, backE, partD, parG, Out.fg, borG, borE, q1, e, gx, outs]
abbrev S_pot (f : Fn) : Prop := ∀ (ns : List Int) (k : Nat), k ≤ 1000 → ∃ p0 p1, f [.dat (.list (ns.map .int)), .dat (.int k)] = some (.frs [.int p0, .int p1], [.dat (.list (ns.map .int)), .dat (.int k)]) ∧ potB p1
theorem ok_l_pot (c0 c1 c2 : Int) (hc : (-(2 ^ 60) < c0 ∧ c0 < 2 ^ 60) ∧ (0 ≤ c1 ∧ c1 < 2 ^ 60) ∧ 0 ≤ c2 ∧ c2 < 2 ^ 60) : S_pot (fnS G wfuel 3 2 (i_l_pot c0 c1 c2)) := fun ns k hk => by
  have pw : binD .Pow (.int 10) (.int 18) = some (.dat (.int 1000000000000000000)) := rfl
  have fin : ∀ cell : Int, ∃ p1, ((cell % 2147483549 * c1 + c2 * k + 619) % 2147483563 + 1) = p1 ∧ potB p1 := fun cell => ⟨_, rfl, by
    have := Int.emod_nonneg (cell % 2147483549 * c1 + c2 * k + 619) (show (2147483563 : Int) ≠ 0 by omega)
    have := Int.emod_lt_of_pos (cell % 2147483549 * c1 + c2 * k + 619) (show (0 : Int) < 2147483563 by omega)
    exact ⟨by omega, by omega⟩⟩
  have mm : ∀ cell : Int, binD .Mod (.int cell) (.int 2147483549) = some (.dat (.int (cell % 2147483549))) ∧ binD .Mult (.int (cell % 2147483549)) (.int c1) = some (.dat (.int (cell % 2147483549 * c1))) := fun cell => by
    have h1 := Int.emod_nonneg cell (show (2147483549 : Int) ≠ 0 by omega)
    have h2 := Int.emod_lt_of_pos cell (show (0 : Int) < 2147483549 by omega)
    exact ⟨bin_mod (by omega), mulI ⟨by omega, by omega⟩ ⟨by omega, by omega⟩⟩
  have mk := mulI (i := c2) (j := (k : Int)) ⟨by omega, by omega⟩ ⟨by omega, by omega⟩
  have mk2 := mulI (i := c0) (j := (k : Int)) ⟨by omega, by omega⟩ ⟨by omega, by omega⟩
  have md : ∀ i : Int, binD .Mod (.int i) (.int 2147483563) = some (.dat (.int (i % 2147483563))) := fun i => bin_mod (by omega)
  unfold fnS i_l_pot
  by_cases hl : k < ns.length
  · have gx : atI (ns.map PyData.int) (k : Int) = some (.int ns[k]) := at_nat (by rw [List.getElem?_map, List.getElem?_eq_getElem hl]; rfl)
    obtain ⟨m1, m2⟩ := mm (ns[k].natAbs : Int)
    obtain ⟨p1, e1, e2⟩ := fin (ns[k].natAbs : Int)
    refine ⟨if ((ns[k].natAbs : Int) - 1000000000000000000) > 0 then ((ns[k].natAbs : Int) - 1000000000000000000) else 0, p1, ?_, e2⟩
    rw [← e1]
    simp [sm, ownsAt, outs, argG, isAbs, arsD, arD, refs, slsOf, slOf, putBack, pubD, getD, getO, setS, wipeE, backE, partD, parG, Out.fg, borG, borE, szE, hl, gx, abs_if, pw, m1, m2, mk, md]
  · obtain ⟨m1, m2⟩ := mm (c0 * k + 223)
    obtain ⟨p1, e1, e2⟩ := fin (c0 * k + 223)
    refine ⟨if ((c0 * k + 223 : Int) - 1000000000000000000) > 0 then ((c0 * k + 223 : Int) - 1000000000000000000) else 0, p1, ?_, e2⟩
    rw [← e1]
    simp [sm, ownsAt, outs, argG, isAbs, arsD, arD, refs, slsOf, slOf, putBack, pubD, getD, getO, setS, wipeE, backE, partD, parG, Out.fg, borG, borE, szE, hl, mk2, pw, m1, m2, mk, md]
/-! ### drawn lines, inputs -/
def entB (o : Tt) : Prop := ∀ x, o = some x → -99 ≤ x ∧ x ≤ 99
abbrev S_l_entry (f : Fn) : Prop := ∀ a b : Int, potB b → ∃ o a' b', f [potS a b] = some (.dat (optD o), [potS a' b']) ∧ entB o ∧ potB b'
theorem ok_l_entry {F1 F2 : Fn} (q1 : G.fns "_law_draw" = some ⟨[true, false], F1⟩) (e1 : S_draw F1) (q2 : G.fns "_law_pick" = some ⟨[true, false], F2⟩) (e2 : S_pick F2) : S_l_entry (fnS G wfuel 2 1 i_l_entry) := fun a b hb => by
  obtain ⟨r, a1, b1, w1, r1, r2, hb1⟩ := e1 a b 30 hb (by omega) (by omega)
  unfold fnS i_l_entry
  by_cases h0 : r < 11
  · refine ⟨none, a1, b1, ?_, fun x e => (by cases e), hb1⟩
    unfold potS at *
    simp [sm, ownsAt, outs, argG, isAbs, arsD, arD, refs, slsOf, slOf, putBack, pubD, getD, getO, setS, wipeE, backE, partD, parG, Out.fg, borG, borE, q1, w1, h0, optD, outs]
  · by_cases h1 : r = 11
    · subst h1
      obtain ⟨x, a2, b2, w2, hx, hb2⟩ := e2 a1 b1 [.int 99, .int (-99), .int 98] hb1 (by simp) (by simp)
      obtain ⟨n, rfl, n1, n2⟩ : ∃ n : Int, x = .int n ∧ -99 ≤ n ∧ n ≤ 99 := by
        simp at hx
        rcases hx with rfl | rfl | rfl <;> exact ⟨_, rfl, by omega, by omega⟩
      refine ⟨some n, a2, b2, ?_, fun x e => (by cases e; exact ⟨n1, n2⟩), hb2⟩
      unfold potS at *
      simp [sm, ownsAt, outs, argG, isAbs, arsD, arD, refs, slsOf, slOf, putBack, pubD, getD, getO, setS, wipeE, backE, partD, parG, Out.fg, borG, borE, szE, q1, w1, q2, w2, optD, outs]
    · obtain ⟨s, a2, b2, w2, s1, s2, hb2⟩ := e1 a1 b1 9 hb1 (by omega) (by omega)
      refine ⟨some (s - 4), a2, b2, ?_, fun x e => (by cases e; omega), hb2⟩
      unfold potS at *
      simp [sm, ownsAt, outs, argG, isAbs, arsD, arD, refs, slsOf, slOf, putBack, pubD, getD, getO, setS, wipeE, backE, partD, parG, Out.fg, borG, borE, szE, q1, w1, h0, h1, w2, optD, outs]
theorem opts_of : ∀ {ds : List PyData} {Q : Tt → Prop}, (∀ d ∈ ds, ∃ o, d = optD o ∧ Q o) → ∃ v : Vc, ds = v.map optD ∧ ∀ o ∈ v, Q o
  | [], Q, _ => ⟨[], rfl, fun q hq => by cases hq⟩
  | d :: ds, Q, h => by
    obtain ⟨q, rfl, hq⟩ := h d List.mem_cons_self
    obtain ⟨qs, rfl, h2⟩ := opts_of fun x hx => h x (List.mem_cons_of_mem _ hx)
    refine ⟨q :: qs, rfl, fun x hx => ?_⟩
    rcases List.mem_cons.mp hx with rfl | hx
    · exact hq
    · exact h2 x hx
theorem vecs_of : ∀ {ds : List PyData} {Q : Vc → Prop}, (∀ d ∈ ds, ∃ o, d = polD o ∧ Q o) → ∃ v : List Vc, ds = v.map polD ∧ ∀ o ∈ v, Q o
  | [], Q, _ => ⟨[], rfl, fun q hq => by cases hq⟩
  | d :: ds, Q, h => by
    obtain ⟨q, rfl, hq⟩ := h d List.mem_cons_self
    obtain ⟨qs, rfl, h2⟩ := vecs_of fun x hx => h x (List.mem_cons_of_mem _ hx)
    refine ⟨q :: qs, rfl, fun x hx => ?_⟩
    rcases List.mem_cons.mp hx with rfl | hx
    · exact hq
    · exact h2 x hx
def rowB (m : Nat) (r : Vc) : Prop := r.length = m ∧ ∀ o ∈ r, entB o
theorem lt_c1 {F1 : Fn} (q1 : G.fns "_law_entry" = some ⟨[true], F1⟩) (e1 : S_l_entry F1) {a b : Int} (hb : potB b) (m : Nat) (hm : m ≤ 1000) {R T : Option Sl} :
    ∃ (r : Vc) (a' b' : Int), (sm G [0] wfuel i_l_table_c1).e [some (potS a b), R, some (.dat (.int m)), T, none] = some (.frs (r.map optD), [some (potS a' b'), R, some (.dat (.int m)), T, none]) ∧ rowB m r ∧ potB b' := by
  have hr := rng_n m (by omega)
  obtain ⟨ds, ρ', g1, g2, g3, a3, b3, rfl, hb3⟩ := lcG_inv (vs := [4]) (ρ0 := [some (potS a b), R, some (.dat (.int m)), T, none]) (t := (sm G [0] wfuel (.tnm 4)).t) (c := (sm G [0] wfuel (.bl true)).e) (e := (sm G [0] wfuel i_l_table_c1e).e)
    (fun ρ => ∃ a b, ρ = [some (potS a b), R, some (.dat (.int m)), T, none] ∧ potB b) (fun d => ∃ o, d = optD o ∧ entB o) ((List.range m).map fun (i : Nat) => .int i)
    [some (potS a b), R, some (.dat (.int m)), T, none] [] ⟨a, b, rfl, hb⟩ (by rw [szE]; simp; omega) (by
      rintro x hx ρ ⟨a, b, rfl, hb⟩
      obtain ⟨i, hi, rfl⟩ := List.mem_map.mp hx
      obtain ⟨o, a', b', e, h1, h2⟩ := e1 a b hb
      refine ⟨[some (potS a b), R, some (.dat (.int m)), T, some (.dat (.int i))], .dat (.bool true), [some (potS a b), R, some (.dat (.int m)), T, some (.dat (.int i))], .dat (optD o), [some (potS a' b'), R, some (.dat (.int m)), T, some (.dat (.int i))], ?_, rfl, rfl, ?_, ⟨o, rfl, h1⟩, a', b', ?_, h2⟩
      · simp [sm, ownsAt, outs, argG, isAbs, arsD, arD, refs, slsOf, slOf, putBack, pubD, getD, getO, setS, wipeE, backE, partD, parG, Out.fg, borG, borE]
      · unfold i_l_table_c1e
        unfold potS at *
        simp [sm, ownsAt, outs, argG, isAbs, arsD, arD, refs, slsOf, slOf, putBack, pubD, getD, getO, setS, wipeE, backE, partD, parG, Out.fg, borG, borE, q1, e]
      · simp [sm, ownsAt, outs, argG, isAbs, arsD, arD, refs, slsOf, slOf, putBack, pubD, getD, getO, setS, wipeE, backE, partD, parG, Out.fg, borG, borE])
  simp only [List.nil_append] at g1
  obtain ⟨r, rfl, h1⟩ := opts_of g3
  refine ⟨r, a3, b3, ?_, ⟨by simpa using g2, h1⟩, hb3⟩
  unfold i_l_table_c1
  refine lc_ev (ρ1 := [some (potS a b), R, some (.dat (.int m)), T, none]) (xs := (List.range m).map fun (i : Nat) => .int i) ?_ (by simp) g1
  simp [sm, ownsAt, outs, argG, isAbs, arsD, arD, refs, slsOf, slOf, putBack, pubD, getD, getO, setS, wipeE, backE, partD, parG, Out.fg, borG, borE, hr]
abbrev S_l_table (f : Fn) : Prop := ∀ (a b : Int) (n m : Nat), potB b → 1 ≤ n → n ≤ 8 → 1 ≤ m → m ≤ 8 → ∃ (t : Tb) (a' b' : Int), f [potS a b, .dat (.int n), .dat (.int m)] = some (.dat (tbD t), [potS a' b', .dat (.int n), .dat (.int m)]) ∧ TbOk t m ∧ t.length = n ∧ potB b'
theorem ok_l_table {F1 : Fn} (q1 : G.fns "_law_entry" = some ⟨[true], F1⟩) (e1 : S_l_entry F1) : S_l_table (fnS G wfuel 5 3 i_l_table) := fun a b n m hb n1 n8 m1 m8 => by
  have hr := rng_n n (by omega)
  obtain ⟨ds, ρ', g1, g2, g3, a3, b3, rfl, hb3⟩ := lcG_inv (vs := [3]) (ρ0 := [some (potS a b), some (.dat (.int n)), some (.dat (.int m)), none, none]) (t := (sm G [0] wfuel (.tnm 3)).t) (c := (sm G [0] wfuel (.bl true)).e) (e := (sm G [0] wfuel i_l_table_c0e).e)
    (fun ρ => ∃ a b, ρ = [some (potS a b), some (.dat (.int n)), some (.dat (.int m)), none, none] ∧ potB b) (fun d => ∃ o, d = polD o ∧ rowB m o) ((List.range n).map fun (i : Nat) => .int i)
    [some (potS a b), some (.dat (.int n)), some (.dat (.int m)), none, none] [] ⟨a, b, rfl, hb⟩ (by rw [szE]; simp; omega) (by
      rintro x hx ρ ⟨a, b, rfl, hb⟩
      obtain ⟨i, hi, rfl⟩ := List.mem_map.mp hx
      obtain ⟨r, a', b', e, h1, h2⟩ := lt_c1 q1 e1 (a := a) hb m (by omega) (R := some (.dat (.int n))) (T := some (.dat (.int i)))
      have tt : bltD "tuple" [.list (r.map optD)] = some (.dat (polD r)) := rfl
      refine ⟨[some (potS a b), some (.dat (.int n)), some (.dat (.int m)), some (.dat (.int i)), none], .dat (.bool true), [some (potS a b), some (.dat (.int n)), some (.dat (.int m)), some (.dat (.int i)), none], .dat (polD r), [some (potS a' b'), some (.dat (.int n)), some (.dat (.int m)), some (.dat (.int i)), none], ?_, rfl, rfl, ?_, ⟨r, rfl, h1⟩, a', b', ?_, h2⟩
      · simp [sm, ownsAt, outs, argG, isAbs, arsD, arD, refs, slsOf, slOf, putBack, pubD, getD, getO, setS, wipeE, backE, partD, parG, Out.fg, borG, borE]
      · unfold i_l_table_c0e
        unfold potS at *
        simp [sm, ownsAt, outs, argG, isAbs, arsD, arD, refs, slsOf, slOf, putBack, pubD, getD, getO, setS, wipeE, backE, partD, parG, Out.fg, borG, borE, e, tt]
      · simp [sm, ownsAt, outs, argG, isAbs, arsD, arD, refs, slsOf, slOf, putBack, pubD, getD, getO, setS, wipeE, backE, partD, parG, Out.fg, borG, borE])
  simp only [List.nil_append] at g1
  obtain ⟨t, rfl, h1⟩ := vecs_of g3
  have tl : t.length = n := by simpa using g2
  have c0 : (sm G [0] wfuel i_l_table_c0).e [some (potS a b), some (.dat (.int n)), some (.dat (.int m)), none, none] = some (.frs (t.map polD), [some (potS a3 b3), some (.dat (.int n)), some (.dat (.int m)), none, none]) := by
    unfold i_l_table_c0
    refine lc_ev (ρ1 := [some (potS a b), some (.dat (.int n)), some (.dat (.int m)), none, none]) (xs := (List.range n).map fun (i : Nat) => .int i) ?_ (by simp) g1
    simp [sm, ownsAt, outs, argG, isAbs, arsD, arD, refs, slsOf, slOf, putBack, pubD, getD, getO, setS, wipeE, backE, partD, parG, Out.fg, borG, borE, hr]
  have tt : bltD "tuple" [.list (t.map polD)] = some (.dat (tbD t)) := rfl
  refine ⟨t, a3, b3, ?_, ⟨fun z => by rw [z] at tl; simp at tl; omega, by omega, m1, m8, fun r hr => (h1 r hr).1, fun r hr x hx => (h1 r hr).2 _ hx x rfl⟩, tl, hb3⟩
  unfold fnS i_l_table
  unfold potS at *
  simp [sm, ownsAt, outs, argG, isAbs, arsD, arD, refs, slsOf, slOf, putBack, pubD, getD, getO, setS, wipeE, backE, partD, parG, Out.fg, borG, borE, c0, tt, outs]
abbrev S_l_line (f : Fn) : Prop := ∀ (a b : Int) (most : Nat), potB b → 1 ≤ most → most ≤ 8 → ∃ (A B C : Tb) (w : Nat) (a' b' : Int), f [potS a b, .dat (.int most)] = some (.dat (liD A B C), [potS a' b', .dat (.int most)]) ∧ LiOk A B C w ∧ A.length ≤ most ∧ w ≤ 3 ∧ C.length ≤ 2 ∧ potB b'
theorem ok_l_line {F1 F2 : Fn} (q1 : G.fns "_law_draw" = some ⟨[true, false], F1⟩) (e1 : S_draw F1) (q2 : G.fns "_law_table" = some ⟨[true, false, false], F2⟩) (e2 : S_l_table F2) : S_l_line (fnS G wfuel 5 2 i_l_line) := fun a b most hb h1 h8 => by
  obtain ⟨r1, a1, b1, w1, r11, r12, hb1⟩ := e1 a b most hb (by omega) (by omega)
  obtain ⟨r2, a2, b2, w2, r21, r22, hb2⟩ := e1 a1 b1 3 hb1 (by omega) (by omega)
  obtain ⟨r3, a3, b3, w3, r31, r32, hb3⟩ := e1 a2 b2 2 hb2 (by omega) (by omega)
  obtain ⟨n, hn⟩ : ∃ n : Nat, 1 + r1 = n := ⟨(1 + r1).toNat, by omega⟩
  obtain ⟨w, hw⟩ : ∃ n : Nat, 1 + r2 = n := ⟨(1 + r2).toNat, by omega⟩
  obtain ⟨o, ho⟩ : ∃ n : Nat, 1 + r3 = n := ⟨(1 + r3).toNat, by omega⟩
  obtain ⟨A, a4, b4, w4, hA, lA, hb4⟩ := e2 a3 b3 n n hb3 (by omega) (by omega) (by omega) (by omega)
  obtain ⟨B, a5, b5, w5, hB, lB, hb5⟩ := e2 a4 b4 n w hb4 (by omega) (by omega) (by omega) (by omega)
  obtain ⟨C, a6, b6, w6, hC, lC, hb6⟩ := e2 a5 b5 o n hb5 (by omega) (by omega) (by omega) (by omega)
  refine ⟨A, B, C, w, a6, b6, ?_, ⟨by rw [lA]; exact hA, hB, by rw [lA]; exact hC, by omega⟩, by omega, by omega, by omega, hb6⟩
  unfold fnS i_l_line liD
  unfold potS at *
  simp [sm, ownsAt, outs, argG, isAbs, arsD, arD, refs, slsOf, slOf, putBack, pubD, getD, getO, setS, wipeE, backE, partD, parG, Out.fg, borG, borE, szE, q1, w1, w2, w3, hn, hw, ho, q2, w4, w5, w6, outs]
end
end Lz

namespace Lz
open PySem PySem.Spec PyProof.Rows L2 Dx Pz
section
variable {G : Gx}
/-! ### the law's own driving -/
abbrev S_l_rows (f : Fn) : Prop := ∀ (t : Tb) (v : Vc), t.length ≤ 1000 → v.length ≤ 1000 → f [.dat (tbD t), .dat (polD v)] = some (.dat (polD (ap t v)), [.dat (tbD t), .dat (polD v)])
theorem ok_l_rows {F1 F2 : Fn} (q1 : G.fns "_law_plus" = some ⟨[false, false], F1⟩) (e1 : S_then F1) (q2 : G.fns "_law_latest" = some ⟨[false], F2⟩) (e2 : S_latest F2) : S_l_rows (fnS G wfuel 6 2 i_l_rows) := fun t v ht hv => by
  have c0 : ∀ (r : Vc) (S : Option Sl), (sm G [] wfuel i_l_rows_c0).e [some (.dat (tbD t)), some (.dat (polD v)), S, some (.dat (polD r)), none, none] = some (.frs ((List.zipWith pl r v).map optD), [some (.dat (tbD t)), some (.dat (polD v)), S, some (.dat (polD r)), none, none]) := fun r S => by
    rw [← zip_pl]
    unfold i_l_rows_c0
    refine lc_all (prG optD optD) _ (r.zip v) (by simp [sm, ownsAt, outs, argG, isAbs, arsD, arD, refs, slsOf, slOf, putBack, pubD, getD, getO, setS, wipeE, backE, partD, parG, Out.fg, borG, borE, zipP]) (by simp) (by rw [szE, List.length_zip]; omega) fun y hy => ⟨[some (.dat (tbD t)), some (.dat (polD v)), S, some (.dat (polD r)), some (.dat (optD y.1)), some (.dat (optD y.2))], by simp [sm, ownsAt, outs, argG, isAbs, arsD, arD, refs, slsOf, slOf, putBack, pubD, getD, getO, setS, wipeE, backE, partD, parG, Out.fg, borG, borE, prG], ?_, by simp [sm, ownsAt, outs, argG, isAbs, arsD, arD, refs, slsOf, slOf, putBack, pubD, getD, getO, setS, wipeE, backE, partD, parG, Out.fg, borG, borE]⟩
    have w := e1 y.1 y.2
    unfold i_l_rows_c0e
    simp [sm, ownsAt, outs, argG, isAbs, arsD, arD, refs, slsOf, slOf, putBack, pubD, getD, getO, setS, wipeE, backE, partD, parG, Out.fg, borG, borE, q1, w]
  have w0 : (sm G [] wfuel i_l_rows_w0).s [some (.dat (tbD t)), some (.dat (polD v)), some (.own []), none, none, none] = some (.nx [some (.dat (tbD t)), some (.dat (polD v)), some (.own ((ap t v).map optD)), none, none, none]) := by
    unfold i_l_rows_w0
    refine for_ev (ρ1 := [some (.dat (tbD t)), some (.dat (polD v)), some (.own []), none, none, none]) (xs := t.map polD) (by simp [sm, ownsAt, outs, argG, isAbs, arsD, arD, refs, slsOf, slOf, putBack, pubD, getD, getO, setS, wipeE, backE, partD, parG, Out.fg, borG, borE, seq_tb]) ?_
    have := for_fold (t := (sm G [] wfuel (.tnm 3)).t) (b := (sm G [] wfuel i_l_rows_w0b).s) polD (fun acc : Vc => [some (.dat (tbD t)), some (.dat (polD v)), some (.own (acc.map optD)), none, none, none]) (fun acc r => acc ++ [mx (List.zipWith pl r v)]) (fun r acc => acc.length + r.length ≤ 1000) t [] (by simpa using ht) fun r rest acc h2 => by
      have c := c0 r (some (.own (acc.map optD)))
      have w2 := e2 (List.zipWith pl r v) (by rw [List.length_zipWith]; omega)
      simp only [List.length_cons] at h2
      have hz : (acc.map optD).length < 16777216 := by rw [List.length_map]; omega
      refine ⟨by simp; omega, [some (.dat (tbD t)), some (.dat (polD v)), some (.own (acc.map optD)), some (.dat (polD r)), none, none], by simp [sm, ownsAt, outs, argG, isAbs, arsD, arD, refs, slsOf, slOf, putBack, pubD, getD, getO, setS, wipeE, backE, partD, parG, Out.fg, borG, borE], .inl ?_⟩
      rw [List.map_append, List.map_cons, List.map_nil]
      generalize acc.map optD = A at *
      generalize (List.zipWith pl r v).map optD = L at c w2
      generalize optD (mx (List.zipWith pl r v)) = M at *
      unfold i_l_rows_w0b
      simp [sm, ownsAt, outs, argG, isAbs, arsD, arD, refs, slsOf, slOf, putBack, pubD, getD, getO, setS, wipeE, backE, partD, parG, Out.fg, borG, borE, szE, c, q2, w2, hz]
    have fe : t.foldl (fun acc r => acc ++ [mx (List.zipWith pl r v)]) [] = ap t v := by
      have key : ∀ (l : Tb) (acc : Vc), l.foldl (fun acc r => acc ++ [mx (List.zipWith pl r v)]) acc = acc ++ l.map fun r => mx (List.zipWith pl r v) := by
        intro l
        induction l with
        | nil => intro acc; simp
        | cons x l ih => intro acc; rw [List.foldl_cons, ih]; simp
      rw [key]; rfl
    rw [fe] at this
    exact this
  have tt : bltD "tuple" [.list ((ap t v).map optD)] = some (.dat (polD (ap t v))) := rfl
  unfold fnS i_l_rows
  generalize (ap t v).map optD = L at *
  simp [sm, ownsAt, outs, argG, isAbs, arsD, arD, refs, slsOf, slOf, putBack, pubD, getD, getO, setS, wipeE, backE, partD, parG, Out.fg, borG, borE, szE, w0, tt, outs]
abbrev S_l_states (f : Fn) : Prop := ∀ (A B C : Tb) (w : Nat) (b : Bool) (vs : List Vc), LiOk A B C w → vs.length ≤ 100 → (∀ v ∈ vs, v.length ≤ 1000) → f [.dat (liD A B C), .dat (vsD b vs)] = some (.frs ((stP A B vs).map polD), [.dat (liD A B C), .dat (vsD b vs)])
/-- the states so far and the last one -/
def stepL (A B : Tb) (s : List Vc × Vc) (v : Vc) : List Vc × Vc := (s.1 ++ [jn (ap A s.2) (ap B v)], jn (ap A s.2) (ap B v))
theorem stepL_F (A B : Tb) : ∀ (vs : List Vc) (s : List Vc × Vc), (vs.foldl (stepL A B) s).1 = s.1 ++ stF A B vs s.2
  | [], s => by simp [stF]
  | v :: r, s => by
    rw [List.foldl_cons, stepL_F A B r]
    simp [stepL, stF]
theorem ok_l_states {F1 F2 : Fn} (q1 : G.fns "_law_rows" = some ⟨[false, false], F1⟩) (e1 : S_l_rows F1) (q2 : G.fns "_law_latest" = some ⟨[false], F2⟩) (e2 : S_latest F2) : S_l_states (fnS G wfuel 9 2 i_l_states) := fun A B C w b vs h hl hv => by
  have a8 := h.a.len
  have b8 := h.b.len
  have x1 := li1 A B C
  have x2 := li2 A B C
  have c0 : ∀ (V S L : Option Sl) (u v : Vc), u.length ≤ 1000 → (sm G [] wfuel i_l_states_c0).e [some (.dat (liD A B C)), some (.dat (vsD b vs)), V, S, L, some (.dat (polD u)), some (.dat (polD v)), none, none] = some (.frs ((jn u v).map optD), [some (.dat (liD A B C)), some (.dat (vsD b vs)), V, S, L, some (.dat (polD u)), some (.dat (polD v)), none, none]) := fun V S L u v hu => by
    rw [← jn_zip]
    unfold i_l_states_c0
    refine lc_all (prG optD optD) _ (u.zip v) (by simp [sm, ownsAt, outs, argG, isAbs, arsD, arD, refs, slsOf, slOf, putBack, pubD, getD, getO, setS, wipeE, backE, partD, parG, Out.fg, borG, borE, zipP]) (by simp) (by rw [szE, List.length_zip]; omega) fun y hy => ⟨[some (.dat (liD A B C)), some (.dat (vsD b vs)), V, S, L, some (.dat (polD u)), some (.dat (polD v)), some (.dat (optD y.1)), some (.dat (optD y.2))], by simp [sm, ownsAt, outs, argG, isAbs, arsD, arD, refs, slsOf, slOf, putBack, pubD, getD, getO, setS, wipeE, backE, partD, parG, Out.fg, borG, borE, prG], ?_, by simp [sm, ownsAt, outs, argG, isAbs, arsD, arD, refs, slsOf, slOf, putBack, pubD, getD, getO, setS, wipeE, backE, partD, parG, Out.fg, borG, borE]⟩
    have w := e2 [y.1, y.2] (by simp)
    simp only [List.map_cons, List.map_nil] at w
    unfold i_l_states_c0e
    simp [sm, ownsAt, outs, argG, isAbs, arsD, arD, refs, slsOf, slOf, putBack, pubD, getD, getO, setS, wipeE, backE, partD, parG, Out.fg, borG, borE, szE, q2, w]
  obtain ⟨last, hlast⟩ : ∃ last, last = (vs.foldl (stepL A B) ([], List.replicate A.length none)).2 := ⟨_, rfl⟩
  have w0 : (sm G [] wfuel i_l_states_w0).s [some (.dat (liD A B C)), some (.dat (vsD b vs)), none, some (.own []), some (.dat (polD (List.replicate A.length none))), none, none, none, none] =
      some (.nx [some (.dat (liD A B C)), some (.dat (vsD b vs)), none, some (.own ((stP A B vs).map polD)), some (.dat (polD last)), none, none, none, none]) := by
    unfold i_l_states_w0
    refine for_ev (ρ1 := [some (.dat (liD A B C)), some (.dat (vsD b vs)), none, some (.own []), some (.dat (polD (List.replicate A.length none))), none, none, none, none]) (xs := vs.map polD) (by simp [sm, ownsAt, outs, argG, isAbs, arsD, arD, refs, slsOf, slOf, putBack, pubD, getD, getO, setS, wipeE, backE, partD, parG, Out.fg, borG, borE, seq_vs]) ?_
    have := for_fold (t := (sm G [] wfuel (.tnm 2)).t) (b := (sm G [] wfuel i_l_states_w0b).s) polD (fun s : List Vc × Vc => [some (.dat (liD A B C)), some (.dat (vsD b vs)), none, some (.own (s.1.map polD)), some (.dat (polD s.2)), none, none, none, none])
      (stepL A B) (fun r s => (∀ v ∈ r, v.length ≤ 1000) ∧ s.1.length + r.length ≤ 1000 ∧ s.2.length = A.length) vs ([], List.replicate A.length none) ⟨hv, by simp; omega, by simp⟩ fun v r ⟨acc, last⟩ ⟨h1, h2, h3⟩ => by
      simp only [List.length_cons] at h2
      have hvl := h1 v List.mem_cons_self
      have hz : (acc.map polD).length < 16777216 := by rw [List.length_map]; omega
      have wA := e1 A last (by omega) (by simp only at h3; omega)
      have wB := e1 B v (by omega) (by omega)
      have jl : (jn (ap A last) (ap B v)).length = B.length := by rw [jn_len (by rw [ap_len, ap_len, h.l]), ap_len]
      refine ⟨⟨fun q hq => h1 q (List.mem_cons_of_mem _ hq), by simp [stepL]; omega, by show (jn (ap A last) (ap B v)).length = _; rw [jl, h.l]⟩, [some (.dat (liD A B C)), some (.dat (vsD b vs)), some (.dat (polD v)), some (.own (acc.map polD)), some (.dat (polD last)), none, none, none, none], by simp [sm, ownsAt, outs, argG, isAbs, arsD, arD, refs, slsOf, slOf, putBack, pubD, getD, getO, setS, wipeE, backE, partD, parG, Out.fg, borG, borE], .inl ?_⟩
      have c := c0 (some (.dat (polD v))) (some (.own (acc.map polD))) (some (.dat (polD last))) (ap A last) (ap B v) (by rw [ap_len]; omega)
      have tt : bltD "tuple" [.list ((jn (ap A last) (ap B v)).map optD)] = some (.dat (polD (jn (ap A last) (ap B v)))) := rfl
      unfold stepL
      simp only [List.map_append, List.map_cons, List.map_nil]
      generalize (jn (ap A last) (ap B v)).map optD = J at c tt
      generalize polD (jn (ap A last) (ap B v)) = PJ at *
      generalize polD (ap A last) = PA at *
      generalize polD (ap B v) = PB at *
      generalize acc.map polD = L at *
      generalize tbD A = dA at *
      generalize tbD B = dB at *
      generalize liD A B C = D at *
      unfold i_l_states_w0b
      simp [sm, ownsAt, outs, argG, isAbs, arsD, arD, refs, slsOf, slOf, putBack, pubD, getD, getO, setS, wipeE, backE, partD, parG, Out.fg, borG, borE, szE, x1, x2, q1, wA, wB, c, tt, hz]
    rw [stepL_F, st_eq (by rw [h.l]), ← hlast] at this
    exact this
  have ln := len_tb A
  have rep := bin_rep (xs := [.none]) (k := (A.length : Int)) (by omega) (by omega) (by simp)
  have flat : (List.replicate ((A.length : Int)).toNat [PyData.none]).flatten = (List.replicate A.length (none : Tt)).map optD := by
    rw [show ((A.length : Int)).toNat = A.length by omega, List.map_replicate]
    generalize A.length = m
    induction m with
    | zero => rfl
    | succ m ih => rw [List.replicate_succ, List.flatten_cons, ih, List.replicate_succ]; rfl
  rw [flat] at rep
  have row : PyData.tuple ((List.replicate A.length (none : Tt)).map optD) = polD (List.replicate A.length none) := rfl
  rw [row] at rep
  unfold fnS i_l_states
  generalize (stP A B vs).map polD = L at *
  generalize polD (List.replicate A.length none) = N at *
  generalize tbD A = dA at *
  generalize liD A B C = D at *
  simp [sm, ownsAt, outs, argG, isAbs, arsD, arD, refs, slsOf, slOf, putBack, pubD, getD, getO, setS, wipeE, backE, partD, parG, Out.fg, borG, borE, szE, x1, ln, rep, w0, outs]
abbrev S_l_outputs (f : Fn) : Prop := S_outputs_by f
theorem ok_l_outputs {F1 F2 : Fn} (q1 : G.fns "_law_rows" = some ⟨[false, false], F1⟩) (e1 : S_l_rows F1) (q2 : G.fns "_law_states" = some ⟨[false, false], F2⟩) (e2 : S_l_states F2) : S_l_outputs (fnS G wfuel 3 2 i_l_outputs) := fun A B C w b vs h hl hv => by
  have w2 := e2 A B C w b vs h hl hv
  have x3 := li3 A B C
  have b8 := h.b.len
  have c8 := h.c.len
  have c0 : (sm G [] wfuel i_l_outputs_c0).e [some (.dat (liD A B C)), some (.dat (vsD b vs)), none] = some (.frs ((out A B C vs).map polD), [some (.dat (liD A B C)), some (.dat (vsD b vs)), none]) := by
    unfold i_l_outputs_c0 out
    rw [List.map_map]
    refine lc_all polD _ (stP A B vs) (by
      generalize (stP A B vs).map polD = L at *
      generalize liD A B C = D at *
      simp [sm, ownsAt, outs, argG, isAbs, arsD, arD, refs, slsOf, slOf, putBack, pubD, getD, getO, setS, wipeE, backE, partD, parG, Out.fg, borG, borE, q2, w2]) (by simp) (by rw [szE, stP_len]; omega) fun s hs => ⟨[some (.dat (liD A B C)), some (.dat (vsD b vs)), some (.dat (polD s))], by simp [sm, ownsAt, outs, argG, isAbs, arsD, arD, refs, slsOf, slOf, putBack, pubD, getD, getO, setS, wipeE, backE, partD, parG, Out.fg, borG, borE], ?_, by simp [sm, ownsAt, outs, argG, isAbs, arsD, arD, refs, slsOf, slOf, putBack, pubD, getD, getO, setS, wipeE, backE, partD, parG, Out.fg, borG, borE]⟩
    have sl := stP_elt (by rw [h.l]) vs s hs
    have w1 := e1 C s (by omega) (by omega)
    unfold i_l_outputs_c0e
    generalize tbD C = dC at *
    generalize liD A B C = D at *
    simp [sm, ownsAt, outs, argG, isAbs, arsD, arD, refs, slsOf, slOf, putBack, pubD, getD, getO, setS, wipeE, backE, partD, parG, Out.fg, borG, borE, x3, q1, w1]
  unfold fnS i_l_outputs
  generalize liD A B C = D at *
  simp [sm, ownsAt, outs, argG, isAbs, arsD, arD, refs, slsOf, slOf, putBack, pubD, getD, getO, setS, wipeE, backE, partD, parG, Out.fg, borG, borE, c0, outs]
end
end Lz

namespace Lz
open PySem PySem.Spec PyProof.Rows L2 Dx Pz
section
variable {G : Gx}
def timB (o : Tt) : Prop := ∀ x, o = some x → -1000000000 ≤ x ∧ x ≤ 1000000000
def vecB (m : Nat) (v : Vc) : Prop := v.length = m ∧ ∀ o ∈ v, timB o
theorem vecB.ok {m : Nat} {v : Vc} (h : vecB m v) : VcOk v m := ⟨h.1, fun x hx => h.2 _ hx x rfl⟩
theorem lv_c0 {F1 : Fn} (q1 : G.fns "_law_draw" = some ⟨[true, false], F1⟩) (e1 : S_draw F1) {a b gr : Int} (hb : potB b) (hg : -999999000 ≤ gr ∧ gr ≤ 999999000) (m : Nat) (hm : m ≤ 1000) {R T W : Option Sl} :
    ∃ (v : Vc) (a' b' : Int), (sm G [0] wfuel i_l_vectors_c0).e [some (potS a b), R, some (.dat (.int m)), T, W, some (.dat (.int gr)), none] = some (.frs (v.map optD), [some (potS a' b'), R, some (.dat (.int m)), T, W, some (.dat (.int gr)), none]) ∧ vecB m v ∧ potB b' := by
  have hr := rng_n m (by omega)
  obtain ⟨ds, ρ', g1, g2, g3, a3, b3, rfl, hb3⟩ := lcG_inv (vs := [6]) (ρ0 := [some (potS a b), R, some (.dat (.int m)), T, W, some (.dat (.int gr)), none]) (t := (sm G [0] wfuel (.tnm 6)).t) (c := (sm G [0] wfuel (.bl true)).e) (e := (sm G [0] wfuel i_l_vectors_c0e).e)
    (fun ρ => ∃ a b, ρ = [some (potS a b), R, some (.dat (.int m)), T, W, some (.dat (.int gr)), none] ∧ potB b) (fun d => ∃ o, d = optD o ∧ timB o) ((List.range m).map fun (i : Nat) => .int i)
    [some (potS a b), R, some (.dat (.int m)), T, W, some (.dat (.int gr)), none] [] ⟨a, b, rfl, hb⟩ (by rw [szE]; simp; omega) (by
      rintro x hx ρ ⟨a, b, rfl, hb⟩
      obtain ⟨i, hi, rfl⟩ := List.mem_map.mp hx
      obtain ⟨r1, a1, b1, w1, r11, r12, hb1⟩ := e1 a b 5 hb (by omega) (by omega)
      by_cases h0 : r1 = 0
      · subst h0
        refine ⟨[some (potS a b), R, some (.dat (.int m)), T, W, some (.dat (.int gr)), some (.dat (.int i))], .dat (.bool true), [some (potS a b), R, some (.dat (.int m)), T, W, some (.dat (.int gr)), some (.dat (.int i))], .dat (optD none), [some (potS a1 b1), R, some (.dat (.int m)), T, W, some (.dat (.int gr)), some (.dat (.int i))], ?_, rfl, rfl, ?_, ⟨none, rfl, fun x e => (by cases e)⟩, a1, b1, ?_, hb1⟩
        · simp [sm, ownsAt, outs, argG, isAbs, arsD, arD, refs, slsOf, slOf, putBack, pubD, getD, getO, setS, wipeE, backE, partD, parG, Out.fg, borG, borE]
        · unfold i_l_vectors_c0e
          unfold potS at *
          simp [sm, ownsAt, outs, argG, isAbs, arsD, arD, refs, slsOf, slOf, putBack, pubD, getD, getO, setS, wipeE, backE, partD, parG, Out.fg, borG, borE, q1, w1, optD]
        · simp [sm, ownsAt, outs, argG, isAbs, arsD, arD, refs, slsOf, slOf, putBack, pubD, getD, getO, setS, wipeE, backE, partD, parG, Out.fg, borG, borE]
      · obtain ⟨r2, a2, b2, w2, r21, r22, hb2⟩ := e1 a1 b1 21 hb1 (by omega) (by omega)
        refine ⟨[some (potS a b), R, some (.dat (.int m)), T, W, some (.dat (.int gr)), some (.dat (.int i))], .dat (.bool true), [some (potS a b), R, some (.dat (.int m)), T, W, some (.dat (.int gr)), some (.dat (.int i))], .dat (optD (some (gr + r2 - 10))), [some (potS a2 b2), R, some (.dat (.int m)), T, W, some (.dat (.int gr)), some (.dat (.int i))], ?_, rfl, rfl, ?_, ⟨some (gr + r2 - 10), rfl, fun x e => (by cases e; omega)⟩, a2, b2, ?_, hb2⟩
        · simp [sm, ownsAt, outs, argG, isAbs, arsD, arD, refs, slsOf, slOf, putBack, pubD, getD, getO, setS, wipeE, backE, partD, parG, Out.fg, borG, borE]
        · unfold i_l_vectors_c0e
          unfold potS at *
          simp [sm, ownsAt, outs, argG, isAbs, arsD, arD, refs, slsOf, slOf, putBack, pubD, getD, getO, setS, wipeE, backE, partD, parG, Out.fg, borG, borE, q1, w1, h0, w2, optD]
        · simp [sm, ownsAt, outs, argG, isAbs, arsD, arD, refs, slsOf, slOf, putBack, pubD, getD, getO, setS, wipeE, backE, partD, parG, Out.fg, borG, borE])
  simp only [List.nil_append] at g1
  obtain ⟨r, rfl, h1⟩ := opts_of g3
  refine ⟨r, a3, b3, ?_, ⟨by simpa using g2, h1⟩, hb3⟩
  unfold i_l_vectors_c0
  refine lc_ev (ρ1 := [some (potS a b), R, some (.dat (.int m)), T, W, some (.dat (.int gr)), none]) (xs := (List.range m).map fun (i : Nat) => .int i) ?_ (by simp) g1
  simp [sm, ownsAt, outs, argG, isAbs, arsD, arD, refs, slsOf, slOf, putBack, pubD, getD, getO, setS, wipeE, backE, partD, parG, Out.fg, borG, borE, hr]
abbrev S_l_vectors (f : Fn) : Prop := ∀ (a b : Int) (n m : Nat), potB b → n ≤ 1000 → m ≤ 1000 → ∃ (vs : List Vc) (a' b' : Int), f [potS a b, .dat (.int n), .dat (.int m)] = some (.frs (vs.map polD), [potS a' b', .dat (.int n), .dat (.int m)]) ∧ vs.length = n ∧ (∀ v ∈ vs, vecB m v) ∧ potB b'
theorem ok_l_vectors {F1 F2 : Fn} (q1 : G.fns "_law_draw" = some ⟨[true, false], F1⟩) (e1 : S_draw F1) (q2 : G.fns "_law_pick" = some ⟨[true, false], F2⟩) (e2 : S_pick F2) : S_l_vectors (fnS G wfuel 7 3 i_l_vectors) := fun a b n m hb hn hm => by
  obtain ⟨x, a1, b1, w1, hx, hb1⟩ := e2 a b [.int 0, .int 0, .int 0, .int 999999000, .int (-999999000)] hb (by simp) (by simp)
  obtain ⟨gr, rfl, hg⟩ : ∃ gr : Int, x = .int gr ∧ -999999000 ≤ gr ∧ gr ≤ 999999000 := by
    simp at hx
    rcases hx with rfl | rfl | rfl <;> exact ⟨_, rfl, by omega, by omega⟩
  have hr := rng_n n (by omega)
  obtain ⟨ρ', w0, a3, b3, vs, rfl, hb3, l3, v3⟩ := forG_inv (t := (sm G [0] wfuel (.tnm 3)).t) (b := (sm G [0] wfuel i_l_vectors_w0b).s) (fun r ρ => ∃ (a b : Int) (acc : List Vc), ρ = [some (potS a b), some (.dat (.int n)), some (.dat (.int m)), none, some (.own (acc.map polD)), some (.dat (.int gr)), none] ∧ potB b ∧ acc.length + r.length = n ∧ ∀ v ∈ acc, vecB m v)
    ((List.range n).map fun (i : Nat) => PyData.int i) [some (potS a1 b1), some (.dat (.int n)), some (.dat (.int m)), none, some (.own []), some (.dat (.int gr)), none] ⟨a1, b1, [], rfl, hb1, by simp, fun v hv => (by cases hv)⟩ fun x r ρ ⟨a, b, acc, e, hb, l, hv⟩ => by
    subst e
    obtain ⟨v, a', b', e, h1, h2⟩ := lv_c0 q1 e1 (a := a) hb hg m hm (R := some (.dat (.int n))) (T := some (.dat x)) (W := some (.own (acc.map polD)))
    have tt : bltD "tuple" [.list (v.map optD)] = some (.dat (polD v)) := rfl
    simp only [List.length_cons] at l
    have hz : (acc.map polD).length < 16777216 := by rw [List.length_map]; omega
    refine ⟨[some (potS a b), some (.dat (.int n)), some (.dat (.int m)), some (.dat x), some (.own (acc.map polD)), some (.dat (.int gr)), none], [some (potS a' b'), some (.dat (.int n)), some (.dat (.int m)), none, some (.own ((acc ++ [v]).map polD)), some (.dat (.int gr)), none], by simp [sm, ownsAt, outs, argG, isAbs, arsD, arD, refs, slsOf, slOf, putBack, pubD, getD, getO, setS, wipeE, backE, partD, parG, Out.fg, borG, borE], .inl ?_, a', b', acc ++ [v], rfl, h2, by simp; omega, fun u hu => ?_⟩
    · rw [List.map_append, List.map_cons, List.map_nil]
      generalize acc.map polD = A at *
      generalize v.map optD = L at *
      generalize polD v = PV at *
      unfold i_l_vectors_w0b
      unfold potS at *
      simp [sm, ownsAt, outs, argG, isAbs, arsD, arD, refs, slsOf, slOf, putBack, pubD, getD, getO, setS, wipeE, backE, partD, parG, Out.fg, borG, borE, szE, e, tt, hz]
    · rcases List.mem_append.mp hu with hu | hu
      · exact hv u hu
      · rw [List.mem_singleton.mp hu]; exact h1
  have wf : (sm G [0] wfuel i_l_vectors_w0).s [some (potS a1 b1), some (.dat (.int n)), some (.dat (.int m)), none, some (.own []), some (.dat (.int gr)), none] = some (.nx [some (potS a3 b3), some (.dat (.int n)), some (.dat (.int m)), none, some (.own (vs.map polD)), some (.dat (.int gr)), none]) := by
    unfold i_l_vectors_w0
    exact for_ev (ρ1 := [some (potS a1 b1), some (.dat (.int n)), some (.dat (.int m)), none, some (.own []), some (.dat (.int gr)), none]) (xs := (List.range n).map fun (i : Nat) => PyData.int i) (by simp [sm, ownsAt, outs, argG, isAbs, arsD, arD, refs, slsOf, slOf, putBack, pubD, getD, getO, setS, wipeE, backE, partD, parG, Out.fg, borG, borE, hr]) w0
  refine ⟨vs, a3, b3, ?_, by simpa using l3, v3, hb3⟩
  unfold fnS i_l_vectors
  generalize vs.map polD = L at *
  unfold potS at *
  simp [sm, ownsAt, outs, argG, isAbs, arsD, arD, refs, slsOf, slOf, putBack, pubD, getD, getO, setS, wipeE, backE, partD, parG, Out.fg, borG, borE, szE, q2, w1, wf, outs]
end
end Lz

namespace Lz
open PySem PySem.Spec PyProof.Rows L2 Dx Pz
/-! ### delays -/
structure DelOk (ds vs : List Vc) (w : Nat) : Prop where
  len : ds.length = vs.length
  rows : ∀ d ∈ ds, d.length = w ∧ ∀ o ∈ d, ∃ x : Int, o = some x ∧ 0 ≤ x ∧ x ≤ 999999999
def dlV (v d : Vc) : Vc := List.zipWith pl v d
def dly (vs ds : List Vc) : List Vc := List.zipWith dlV vs ds
/-- how late -/
def ltO (a b : Tt) : Tt := match a with
  | none => none
  | some x => some (b.getD 0 - x)
def ltV (n f : Vc) : Vc := List.zipWith ltO n f
def ltL (ns fs : List Vc) : List Vc := List.zipWith ltV ns fs
section
variable {G : Gx}
theorem zipV (b : Bool) (vs ds : List Vc) : zipD (vsD b vs) (vsD b ds) = some ((vs.zip ds).map (prG polD polD)) := by
  cases b <;> (show some (List.zipWith _ (vs.map polD) (ds.map polD)) = _; rw [zip_prG])
theorem zipL (vs ds : List Vc) : zipD (.list (vs.map polD)) (.list (ds.map polD)) = some ((vs.zip ds).map (prG polD polD)) := zipV false vs ds
theorem zip_gen {α β γ : Type} (f : α → β → γ) (e : γ → PyData) : ∀ (a : List α) (b : List β), ((a.zip b).map fun y => e (f y.1 y.2)) = (List.zipWith f a b).map e
  | [], _ => rfl
  | _ :: _, [] => rfl
  | x :: a, y :: b => by rw [List.zip_cons_cons, List.map_cons, List.zipWith_cons_cons, List.map_cons, zip_gen f e a b]
abbrev S_are_delays (f : Fn) : Prop := ∀ (A B C : Tb) (w : Nat) (b : Bool) (vs ds : List Vc), LiOk A B C w → vs.length ≤ 100 → DelOk ds vs w → f [.dat (liD A B C), .dat (vsD b vs), .dat (vsD b ds)] = some (.dat (.bool true), [.dat (liD A B C), .dat (vsD b vs), .dat (vsD b ds)])
theorem ok_are_delays {F1 F2 F3 F4 : Fn} (q1 : G.fns "is_list" = some ⟨[false], F1⟩) (e1 : S_is_list F1) (q2 : G.fns "is_tuple" = some ⟨[false, false], F2⟩) (e2 : S_is_tuple F2) (q3 : G.fns "inputs_of" = some ⟨[false], F3⟩) (e3 : S_inputs_of F3) (q4 : G.fns "is_within" = some ⟨[false, false, false], F4⟩) (e4 : S_is_within F4) (k1 : G.cons "MOST_TIME" = some (.int 1000000000)) : S_are_delays (fnS G wfuel 5 3 i_are_delays) := fun A B C w b vs ds h hl hd => by
  have w1 := e1 (vsD b ds)
  rw [isL_vs] at w1
  have w3 := e3 A B C w h
  have w8 := h.b.m8
  have ln1 := len_vs b vs
  have ln2 := len_vs b ds
  rw [hd.len] at ln2
  have dl := hd.len
  have c0 : (sm G [] wfuel i_are_delays_c0).e [some (.dat (liD A B C)), some (.dat (vsD b vs)), some (.dat (vsD b ds)), none, none] = some (.frs (ds.map fun _ => .bool true), [some (.dat (liD A B C)), some (.dat (vsD b vs)), some (.dat (vsD b ds)), none, none]) := by
    unfold i_are_delays_c0
    refine lc_all polD _ ds (by simp [sm, ownsAt, outs, argG, isAbs, arsD, arD, refs, slsOf, slOf, putBack, pubD, getD, getO, setS, wipeE, backE, partD, parG, Out.fg, borG, borE, seq_vs]) (by simp) (by rw [szE]; omega) fun d hdm => ⟨[some (.dat (liD A B C)), some (.dat (vsD b vs)), some (.dat (vsD b ds)), some (.dat (polD d)), none], by simp [sm, ownsAt, outs, argG, isAbs, arsD, arD, refs, slsOf, slOf, putBack, pubD, getD, getO, setS, wipeE, backE, partD, parG, Out.fg, borG, borE], ?_, by simp [sm, ownsAt, outs, argG, isAbs, arsD, arD, refs, slsOf, slOf, putBack, pubD, getD, getO, setS, wipeE, backE, partD, parG, Out.fg, borG, borE]⟩
    have w2 := e2 (polD d) w
    have t : isT (polD d) w = true := by simp [isT, polD, (hd.rows d hdm).1]
    rw [t] at w2
    unfold i_are_delays_c0e
    generalize liD A B C = D at *
    simp [sm, ownsAt, outs, argG, isAbs, arsD, arD, refs, slsOf, slOf, putBack, pubD, getD, getO, setS, wipeE, backE, partD, parG, Out.fg, borG, borE, q3, w3, q2, w2]
  have c1 : (sm G [] wfuel i_are_delays_c1).e [some (.dat (liD A B C)), some (.dat (vsD b vs)), some (.dat (vsD b ds)), none, none] = some (.frs (ds.map fun _ => .bool true), [some (.dat (liD A B C)), some (.dat (vsD b vs)), some (.dat (vsD b ds)), none, none]) := by
    unfold i_are_delays_c1
    refine lc_all polD _ ds (by simp [sm, ownsAt, outs, argG, isAbs, arsD, arD, refs, slsOf, slOf, putBack, pubD, getD, getO, setS, wipeE, backE, partD, parG, Out.fg, borG, borE, seq_vs]) (by simp) (by rw [szE]; omega) fun d hdm => ⟨[some (.dat (liD A B C)), some (.dat (vsD b vs)), some (.dat (vsD b ds)), some (.dat (polD d)), none], by simp [sm, ownsAt, outs, argG, isAbs, arsD, arD, refs, slsOf, slOf, putBack, pubD, getD, getO, setS, wipeE, backE, partD, parG, Out.fg, borG, borE], ?_, by simp [sm, ownsAt, outs, argG, isAbs, arsD, arD, refs, slsOf, slOf, putBack, pubD, getD, getO, setS, wipeE, backE, partD, parG, Out.fg, borG, borE]⟩
    obtain ⟨r1, r2⟩ := hd.rows d hdm
    have c2 : (sm G [] wfuel i_are_delays_c2).e [some (.dat (liD A B C)), some (.dat (vsD b vs)), some (.dat (vsD b ds)), some (.dat (polD d)), none] = some (.frs (d.map fun _ => .bool true), [some (.dat (liD A B C)), some (.dat (vsD b vs)), some (.dat (vsD b ds)), some (.dat (polD d)), none]) := by
      unfold i_are_delays_c2
      refine lc_all optD _ d (by simp [sm, ownsAt, outs, argG, isAbs, arsD, arD, refs, slsOf, slOf, putBack, pubD, getD, getO, setS, wipeE, backE, partD, parG, Out.fg, borG, borE, polD]) (by simp) (by rw [szE]; omega) fun o ho => ⟨[some (.dat (liD A B C)), some (.dat (vsD b vs)), some (.dat (vsD b ds)), some (.dat (polD d)), some (.dat (optD o))], by simp [sm, ownsAt, outs, argG, isAbs, arsD, arD, refs, slsOf, slOf, putBack, pubD, getD, getO, setS, wipeE, backE, partD, parG, Out.fg, borG, borE], ?_, by simp [sm, ownsAt, outs, argG, isAbs, arsD, arD, refs, slsOf, slOf, putBack, pubD, getD, getO, setS, wipeE, backE, partD, parG, Out.fg, borG, borE]⟩
      obtain ⟨x, rfl, x1, x2⟩ := r2 o ho
      have w4 := e4 (.int x) 0 999999999
      rw [isW_int x1 x2] at w4
      unfold i_are_delays_c2e
      simp [sm, ownsAt, outs, argG, isAbs, arsD, arD, refs, slsOf, slOf, putBack, pubD, getD, getO, setS, wipeE, backE, partD, parG, Out.fg, borG, borE, optD, k1, q4, w4]
    have a := all_true d
    unfold i_are_delays_c1e
    simp [sm, ownsAt, outs, argG, isAbs, arsD, arD, refs, slsOf, slOf, putBack, pubD, getD, getO, setS, wipeE, backE, partD, parG, Out.fg, borG, borE, c2, a]
  have a := all_true ds
  unfold fnS i_are_delays
  generalize vsD b ds = DD at *
  generalize vsD b vs = DV at *
  generalize liD A B C = D at *
  simp [sm, ownsAt, outs, argG, isAbs, arsD, arD, refs, slsOf, slOf, putBack, pubD, getD, getO, setS, wipeE, backE, partD, parG, Out.fg, borG, borE, q1, w1, ln1, ln2, c0, a, c1, outs]
abbrev S_delayed (f : Fn) : Prop := ∀ (b : Bool) (vs ds : List Vc), vs.length ≤ 1000 → (∀ v ∈ vs, v.length ≤ 1000) → f [.dat (vsD b vs), .dat (vsD b ds)] = some (.frs ((dly vs ds).map polD), [.dat (vsD b vs), .dat (vsD b ds)])
theorem ok_delayed {F1 : Fn} (q1 : G.fns "then" = some ⟨[false, false], F1⟩) (e1 : S_then F1) : S_delayed (fnS G wfuel 6 2 i_delayed) := fun b vs ds hl hv => by
  have c0 : (sm G [] wfuel i_delayed_c0).e [some (.dat (vsD b vs)), some (.dat (vsD b ds)), none, none, none, none] = some (.frs ((dly vs ds).map polD), [some (.dat (vsD b vs)), some (.dat (vsD b ds)), none, none, none, none]) := by
    unfold dly
    rw [← zip_gen dlV polD]
    unfold i_delayed_c0
    refine lc_all (prG polD polD) _ (vs.zip ds) (by simp [sm, ownsAt, outs, argG, isAbs, arsD, arD, refs, slsOf, slOf, putBack, pubD, getD, getO, setS, wipeE, backE, partD, parG, Out.fg, borG, borE, zipV]) (by simp) (by rw [szE, List.length_zip]; omega) fun y hy => ⟨[some (.dat (vsD b vs)), some (.dat (vsD b ds)), some (.dat (polD y.1)), some (.dat (polD y.2)), none, none], by simp [sm, ownsAt, outs, argG, isAbs, arsD, arD, refs, slsOf, slOf, putBack, pubD, getD, getO, setS, wipeE, backE, partD, parG, Out.fg, borG, borE, prG], ?_, by simp [sm, ownsAt, outs, argG, isAbs, arsD, arD, refs, slsOf, slOf, putBack, pubD, getD, getO, setS, wipeE, backE, partD, parG, Out.fg, borG, borE]⟩
    have yl := hv y.1 (List.of_mem_zip (show (y.1, y.2) ∈ vs.zip ds from hy)).1
    have c1 : (sm G [] wfuel i_delayed_c1).e [some (.dat (vsD b vs)), some (.dat (vsD b ds)), some (.dat (polD y.1)), some (.dat (polD y.2)), none, none] = some (.frs ((dlV y.1 y.2).map optD), [some (.dat (vsD b vs)), some (.dat (vsD b ds)), some (.dat (polD y.1)), some (.dat (polD y.2)), none, none]) := by
      unfold dlV
      rw [← zip_pl]
      unfold i_delayed_c1
      refine lc_all (prG optD optD) _ (y.1.zip y.2) (by simp [sm, ownsAt, outs, argG, isAbs, arsD, arD, refs, slsOf, slOf, putBack, pubD, getD, getO, setS, wipeE, backE, partD, parG, Out.fg, borG, borE, zipP]) (by simp) (by rw [szE, List.length_zip]; omega) fun u hu => ⟨[some (.dat (vsD b vs)), some (.dat (vsD b ds)), some (.dat (polD y.1)), some (.dat (polD y.2)), some (.dat (optD u.1)), some (.dat (optD u.2))], by simp [sm, ownsAt, outs, argG, isAbs, arsD, arD, refs, slsOf, slOf, putBack, pubD, getD, getO, setS, wipeE, backE, partD, parG, Out.fg, borG, borE, prG], ?_, by simp [sm, ownsAt, outs, argG, isAbs, arsD, arD, refs, slsOf, slOf, putBack, pubD, getD, getO, setS, wipeE, backE, partD, parG, Out.fg, borG, borE]⟩
      have w := e1 u.1 u.2
      unfold i_delayed_c1e
      simp [sm, ownsAt, outs, argG, isAbs, arsD, arD, refs, slsOf, slOf, putBack, pubD, getD, getO, setS, wipeE, backE, partD, parG, Out.fg, borG, borE, q1, w]
    have tt : bltD "tuple" [.list ((dlV y.1 y.2).map optD)] = some (.dat (polD (dlV y.1 y.2))) := rfl
    generalize (dlV y.1 y.2).map optD = L at *
    unfold i_delayed_c0e
    simp [sm, ownsAt, outs, argG, isAbs, arsD, arD, refs, slsOf, slOf, putBack, pubD, getD, getO, setS, wipeE, backE, partD, parG, Out.fg, borG, borE, c1, tt]
  unfold fnS i_delayed
  simp [sm, ownsAt, outs, argG, isAbs, arsD, arD, refs, slsOf, slOf, putBack, pubD, getD, getO, setS, wipeE, backE, partD, parG, Out.fg, borG, borE, c0, outs]
/-! ### what matters -/
def prN (x : Nat × Nat) : PyData := .tuple [.int (x.1 : Nat), .int (x.2 : Nat)]
def cnd (A B C : Tb) (vs : List Vc) (k i : Nat) (t : Tt) (n p : Nat) : Bool := decide (pl (Lz.G (an A B C (k - n)) i p) (g (vs.getD n []) p) = t)
def matL (A B C : Tb) (vs : List Vc) (k i : Nat) : List (Nat × Nat) :=
  if g (oAt A B C vs k) i = none then [] else (List.range (k + 1)).flatMap fun n => ((List.range (vs.getD n []).length).filter fun p => cnd A B C vs k i (g (oAt A B C vs k) i) n p).map fun p => (n, p)
end
end Lz

namespace Lz
open PySem PySem.Spec PyProof.Rows L2 Dx Pz
/-! ### enumerations, folds, positions -/
def enE {α : Type} (e : α → PyData) (x : Nat × α) : PyData := .tuple [.int (x.1 : Nat), e x.2]
def enV (v : Vc) : List (Nat × Tt) := (List.range v.length).map fun p => (p, g v p)
theorem enV_len (v : Vc) : (enV v).length = v.length := by unfold enV; rw [List.length_map, List.length_range]
theorem en_vec (v : Vc) : ((v.map optD).mapIdx fun (i : Nat) x => PyData.tuple [.int (i : Nat), x]) = (enV v).map (enE optD) := by
  refine List.ext_getElem? fun i => ?_
  unfold enV
  rw [List.getElem?_mapIdx, List.getElem?_map, List.getElem?_map, List.getElem?_map]
  by_cases h : i < v.length
  · rw [List.getElem?_range h, g_get h]; rfl
  · rw [List.getElem?_eq_none (show v.length ≤ i by omega), List.getElem?_eq_none (show (List.range v.length).length ≤ i by simpa using h)]; rfl
theorem fold_if {α β : Type} (c : α → Bool) (f : α → β) : ∀ (l : List α) (acc : List β), l.foldl (fun acc x => if c x then acc ++ [f x] else acc) acc = acc ++ (l.filter c).map f
  | [], acc => by simp
  | x :: l, acc => by
    rw [List.foldl_cons, fold_if c f l]
    cases h : c x <;> simp [h]
theorem fold_app {α β : Type} (f : α → List β) : ∀ (l : List α) (acc : List β), l.foldl (fun acc x => acc ++ f x) acc = acc ++ l.flatMap f
  | [], acc => by simp
  | x :: l, acc => by rw [List.foldl_cons, fold_app f l]; simp
theorem zip_fn {α β γ : Type} (f : α → β → γ) : ∀ (a : List α) (b : List β), ((a.zip b).map fun y => f y.1 y.2) = List.zipWith f a b
  | [], _ => rfl
  | _ :: _, [] => rfl
  | x :: a, y :: b => by rw [List.zip_cons_cons, List.map_cons, List.zipWith_cons_cons, zip_fn f a b]
theorem idx_tb {t : Tb} {i : Nat} (h : i < t.length) : idxD (tbD t) (.int i) = some (polD (t.getD i [])) := by
  show atI (t.map polD) (i : Int) = _
  refine at_nat ?_
  rw [List.getElem?_map, List.getD_eq_getElem?_getD, List.getElem?_eq_getElem h]; rfl
theorem idx_pol {v : Vc} {i : Nat} (h : i < v.length) : idxD (polD v) (.int i) = some (optD (g v i)) := by
  show atI (v.map optD) (i : Int) = _
  exact at_nat (by rw [List.getElem?_map, g_get h]; rfl)
theorem idx_vsD (b : Bool) {vs : List Vc} {i : Nat} (h : i < vs.length) : idxD (vsD b vs) (.int i) = some (polD (vs.getD i [])) := idx_vs b (by rw [List.getD_eq_getElem?_getD, List.getElem?_eq_getElem h]; rfl)
theorem idx_ls {vs : List Vc} {i : Nat} (h : i < vs.length) : idxD (.list (vs.map polD)) (.int i) = some (polD (vs.getD i [])) := idx_vsD false h
theorem getD_mem {vs : List Vc} {i : Nat} (h : i < vs.length) : vs.getD i [] ∈ vs := by
  rw [List.getD_eq_getElem?_getD, List.getElem?_eq_getElem h]; exact List.getElem_mem h
theorem out_getD {A B C : Tb} {vs : List Vc} {k : Nat} (h : k < vs.length) : (out A B C vs).getD k [] = oAt A B C vs k := by
  rw [List.getD_eq_getElem?_getD, out_get h]; rfl
theorem oAt_len (A B C : Tb) (vs : List Vc) (k : Nat) : (oAt A B C vs k).length = C.length := ap_len _ _
theorem getD_len {t : Tb} {m : Nat} (h : Rect t m) {i : Nat} (hi : i < t.length) : (t.getD i []).length = m := h.2 _ (getD_mem hi)
@[simp] theorem eq_optD (a b : Tt) : cmpD .Eq (optD a) (optD b) = some (decide (a = b)) := cmp_eqE EqE.optD Sh.optD (by omega) a b
theorem an_len (A B C : Tb) (n : Nat) : (an A B C n).length = C.length := pr_len _ _
theorem InOk.vl {vs : List Vc} {w : Nat} (h : InOk vs w) (h8 : w ≤ 8) : ∀ v ∈ vs, v.length ≤ 1000 := fun v hv => by rw [(h.vec v hv).1]; omega
section
variable {G : Gx}
abbrev S_mattering_of (f : Fn) : Prop := ∀ (A B C : Tb) (w : Nat) (b : Bool) (vs : List Vc) (k i : Nat), LiOk A B C w → InOk vs w → k < vs.length → i < C.length → f [.dat (liD A B C), .dat (vsD b vs), .dat (.int k), .dat (.int i)] = some (.frs ((matL A B C vs k i).map prN), [.dat (liD A B C), .dat (vsD b vs), .dat (.int k), .dat (.int i)])
theorem ok_mattering_of {F1 F2 F3 : Fn} (q1 : G.fns "answers_by" = some ⟨[false, false], F1⟩) (e1 : S_answers_by F1) (q2 : G.fns "outputs_by" = some ⟨[false, false], F2⟩) (e2 : S_outputs_by F2) (q3 : G.fns "then" = some ⟨[false, false], F3⟩) (e3 : S_then F3) : S_mattering_of (fnS G wfuel 10 4 i_mattering_of) := fun A B C w b vs k i h hv hk hi => by
  have hl := hv.len
  have w8 := h.b.m8
  have w1 := e1 A B C w (k + 1) h (by omega)
  have w2 := e2 A B C w b vs h (by omega) (hv.vl w8)
  have ix1 := idx_ls (vs := out A B C vs) (i := k) (by rw [out_len]; exact hk)
  rw [out_getD hk] at ix1
  have ix2 := idx_pol (v := oAt A B C vs k) (i := i) (by rw [oAt_len]; exact hi)
  have hA : A ≠ [] := h.a.ne
  have hC : C ≠ [] := h.c.ne
  obtain ⟨goal, hg⟩ : ∃ goal, g (oAt A B C vs k) i = goal := ⟨_, rfl⟩
  obtain ⟨inn, hinn⟩ : ∃ inn : Nat → List (Nat × Nat), inn = fun n => ((List.range (vs.getD n []).length).filter fun p => cnd A B C vs k i goal n p).map fun p => (n, p) := ⟨_, rfl⟩
  have innl : ∀ n, n < k + 1 → (inn n).length ≤ 8 := fun n hn => by
    rw [hinn, List.length_map]
    refine Nat.le_trans (List.length_filter_le _ _) ?_
    rw [List.length_range, (hv.vec _ (getD_mem (by omega))).1]; exact w8
  have inner : ∀ n, n < k + 1 → ∀ acc : List (Nat × Nat), acc.length ≤ 1000 → (sm G [] wfuel i_mattering_of_w1).s [some (.dat (liD A B C)), some (.dat (vsD b vs)), some (.dat (.int k)), some (.dat (.int i)), some (.dat (.int n)), some (.dat (.list ((ans A B C (k + 1)).map tbD))), some (.dat (optD goal)), some (.own (acc.map prN)), none, none] = some (.nx ([some (.dat (liD A B C)), some (.dat (vsD b vs)), some (.dat (.int k)), some (.dat (.int i)), some (.dat (.int n)), some (.dat (.list ((ans A B C (k + 1)).map tbD))), some (.dat (optD goal)), some (.own ((acc ++ inn n).map prN)), none, none])) := fun n hn acc ha => by
    have vl := (hv.vec _ (getD_mem (i := n) (by omega))).1
    have iv := idx_vsD b (vs := vs) (i := n) (by omega)
    have sq : seqD (polD (vs.getD n [])) = some ((vs.getD n []).map optD) := rfl
    have ia : idxD (.list ((ans A B C (k + 1)).map tbD)) (.int ((k : Int) - n)) = some (tbD (an A B C (k - n))) := by
      rw [show (k : Int) - n = ((k - n : Nat) : Int) by omega]
      show atI _ _ = _
      refine at_nat ?_
      unfold ans
      rw [List.getElem?_map, List.getElem?_map, List.getElem?_range (by omega)]; rfl
    have ib := idx_tb (t := an A B C (k - n)) (i := i) (by rw [an_len]; exact hi)
    have rl : ((an A B C (k - n)).getD i []).length = w := getD_len (pr_rect hC (Mk_rect hA h.b.rect _)) (by rw [pr_len]; exact hi)
    unfold i_mattering_of_w1
    refine for_ev (ρ1 := [some (.dat (liD A B C)), some (.dat (vsD b vs)), some (.dat (.int k)), some (.dat (.int i)), some (.dat (.int n)), some (.dat (.list ((ans A B C (k + 1)).map tbD))), some (.dat (optD goal)), some (.own (acc.map prN)), none, none]) (xs := (enV (vs.getD n [])).map (enE optD)) (by
      rw [← en_vec]
      generalize liD A B C = D at *
      simp [sm, ownsAt, outs, argG, isAbs, arsD, arD, refs, slsOf, slOf, putBack, pubD, getD, getO, setS, wipeE, backE, partD, parG, Out.fg, borG, borE, -List.getD_eq_getElem?_getD, iv, sq]) ?_
    have := for_fold (t := (sm G [] wfuel (.ttp (.cons (.tnm 8) (.cons (.tnm 9) .nil)))).t) (b := (sm G [] wfuel i_mattering_of_w1b).s) (enE optD) (fun acc : List (Nat × Nat) => [some (.dat (liD A B C)), some (.dat (vsD b vs)), some (.dat (.int k)), some (.dat (.int i)), some (.dat (.int n)), some (.dat (.list ((ans A B C (k + 1)).map tbD))), some (.dat (optD goal)), some (.own (acc.map prN)), none, none])
      (fun acc x => if decide (pl (Lz.G (an A B C (k - n)) i x.1) x.2 = goal) then acc ++ [(n, x.1)] else acc) (fun r acc => (∀ x ∈ r, x.1 < w) ∧ acc.length + r.length ≤ 2000) (enV (vs.getD n [])) acc ⟨fun x hx => by
        unfold enV at hx
        obtain ⟨p, hp, rfl⟩ := List.mem_map.mp hx
        have := List.mem_range.mp hp
        show p < w
        omega, by rw [enV_len]; omega⟩ fun x r acc ⟨h1, h2⟩ => by
      obtain ⟨p, o⟩ := x
      have hp := h1 _ List.mem_cons_self
      simp only [List.length_cons] at h2
      have ic := idx_pol (v := (an A B C (k - n)).getD i []) (i := p) (by rw [rl]; exact hp)
      have e : g ((an A B C (k - n)).getD i []) p = Lz.G (an A B C (k - n)) i p := rfl
      rw [e] at ic
      have w3 := e3 (Lz.G (an A B C (k - n)) i p) o
      have hz : (acc.map prN).length < 16777216 := by rw [List.length_map]; omega
      refine ⟨⟨fun q hq => h1 q (List.mem_cons_of_mem _ hq), by dsimp only; split <;> (try rw [List.length_append, List.length_singleton]) <;> omega⟩, [some (.dat (liD A B C)), some (.dat (vsD b vs)), some (.dat (.int k)), some (.dat (.int i)), some (.dat (.int n)), some (.dat (.list ((ans A B C (k + 1)).map tbD))), some (.dat (optD goal)), some (.own (acc.map prN)), some (.dat (.int p)), some (.dat (optD o))], by simp [sm, ownsAt, outs, argG, isAbs, arsD, arD, refs, slsOf, slOf, putBack, pubD, getD, getO, setS, wipeE, backE, partD, parG, Out.fg, borG, borE, -List.getD_eq_getElem?_getD, enE], .inl ?_⟩
      by_cases hc : pl (Lz.G (an A B C (k - n)) i p) o = goal
      · simp only [hc, decide_true, if_true]
        rw [hc] at w3
        rw [List.map_append, List.map_cons, List.map_nil]
        have en : prN (n, p) = .tuple [.int n, .int p] := rfl
        generalize acc.map prN = L at *
        generalize (ans A B C (k + 1)).map tbD = N at *
        generalize liD A B C = D at *
        unfold i_mattering_of_w1b
        simp [sm, ownsAt, outs, argG, isAbs, arsD, arD, refs, slsOf, slOf, putBack, pubD, getD, getO, setS, wipeE, backE, partD, parG, Out.fg, borG, borE, -List.getD_eq_getElem?_getD, szE, q3, ia, ib, ic, w3, hz, en]
      · simp only [hc, decide_false, Bool.false_eq_true, if_false]
        generalize acc.map prN = L at *
        generalize (ans A B C (k + 1)).map tbD = N at *
        generalize liD A B C = D at *
        unfold i_mattering_of_w1b
        simp [sm, ownsAt, outs, argG, isAbs, arsD, arD, refs, slsOf, slOf, putBack, pubD, getD, getO, setS, wipeE, backE, partD, parG, Out.fg, borG, borE, -List.getD_eq_getElem?_getD, szE, q3, ia, ib, ic, w3, hc]
    have fe : (enV (vs.getD n [])).foldl (fun acc x => if decide (pl (Lz.G (an A B C (k - n)) i x.1) x.2 = goal) then acc ++ [(n, x.1)] else acc) acc = acc ++ inn n := by
      rw [fold_if (fun x : Nat × Tt => decide (pl (Lz.G (an A B C (k - n)) i x.1) x.2 = goal)) (fun x : Nat × Tt => (n, x.1)), hinn]
      unfold enV
      rw [List.filter_map, List.map_map]; rfl
    rw [fe] at this
    exact this
  have outer : ∀ xs : List Nat, xs = (if goal = none then [] else List.range (k + 1)) → (sm G [] wfuel i_mattering_of_w0).s [some (.dat (liD A B C)), some (.dat (vsD b vs)), some (.dat (.int k)), some (.dat (.int i)), none, some (.dat (.list ((ans A B C (k + 1)).map tbD))), some (.dat (optD goal)), some (.own ([])), none, none] = some (.nx ([some (.dat (liD A B C)), some (.dat (vsD b vs)), some (.dat (.int k)), some (.dat (.int i)), none, some (.dat (.list ((ans A B C (k + 1)).map tbD))), some (.dat (optD goal)), some (.own ((xs.flatMap inn).map prN)), none, none])) := fun xs hxs => by
    unfold i_mattering_of_w0
    have xl : xs.length ≤ k + 1 ∧ ∀ n ∈ xs, n < k + 1 := by
      rw [hxs]; split
      · exact ⟨Nat.zero_le _, fun n hn => by cases hn⟩
      · exact ⟨by rw [List.length_range]; exact Nat.le_refl _, fun n hn => List.mem_range.mp hn⟩
    have rg := rng_n (k + 1) (by omega)
    have rg0 := rng_n 0 (by omega)
    refine for_ev (ρ1 := [some (.dat (liD A B C)), some (.dat (vsD b vs)), some (.dat (.int k)), some (.dat (.int i)), none, some (.dat (.list ((ans A B C (k + 1)).map tbD))), some (.dat (optD goal)), some (.own ([])), none, none]) (xs := xs.map fun (i : Nat) => PyData.int i) (by
      rw [hxs]
      generalize (ans A B C (k + 1)).map tbD = N at *
      generalize liD A B C = D at *
      cases goal with
      | none =>
        simp at rg0
        simp [sm, ownsAt, outs, argG, isAbs, arsD, arD, refs, slsOf, slOf, putBack, pubD, getD, getO, setS, wipeE, backE, partD, parG, Out.fg, borG, borE, -List.getD_eq_getElem?_getD, optD, rg0]
      | some x =>
        push_cast at rg
        simp [sm, ownsAt, outs, argG, isAbs, arsD, arD, refs, slsOf, slOf, putBack, pubD, getD, getO, setS, wipeE, backE, partD, parG, Out.fg, borG, borE, -List.getD_eq_getElem?_getD, optD, rg]) ?_
    have := for_fold (t := (sm G [] wfuel (.tnm 4)).t) (b := (sm G [] wfuel i_mattering_of_w0b).s) (fun (i : Nat) => PyData.int i) (fun acc : List (Nat × Nat) => [some (.dat (liD A B C)), some (.dat (vsD b vs)), some (.dat (.int k)), some (.dat (.int i)), none, some (.dat (.list ((ans A B C (k + 1)).map tbD))), some (.dat (optD goal)), some (.own (acc.map prN)), none, none])
      (fun acc n => acc ++ inn n) (fun r acc => (∀ n ∈ r, n < k + 1) ∧ acc.length + 8 * r.length ≤ 200) xs [] ⟨xl.2, by simp; omega⟩ fun n r acc ⟨h1, h2⟩ => by
      have hn := h1 _ List.mem_cons_self
      have il := innl n hn
      simp only [List.length_cons] at h2
      have wi := inner n hn acc (by omega)
      refine ⟨⟨fun q hq => h1 q (List.mem_cons_of_mem _ hq), by simp; omega⟩, [some (.dat (liD A B C)), some (.dat (vsD b vs)), some (.dat (.int k)), some (.dat (.int i)), some (.dat (.int n)), some (.dat (.list ((ans A B C (k + 1)).map tbD))), some (.dat (optD goal)), some (.own (acc.map prN)), none, none], by simp [sm, ownsAt, outs, argG, isAbs, arsD, arD, refs, slsOf, slOf, putBack, pubD, getD, getO, setS, wipeE, backE, partD, parG, Out.fg, borG, borE, -List.getD_eq_getElem?_getD], .inl ?_⟩
      generalize (acc ++ inn n).map prN = L2 at *
      generalize acc.map prN = L at *
      generalize (ans A B C (k + 1)).map tbD = N at *
      generalize liD A B C = D at *
      unfold i_mattering_of_w0b
      simp [sm, ownsAt, outs, argG, isAbs, arsD, arD, refs, slsOf, slOf, putBack, pubD, getD, getO, setS, wipeE, backE, partD, parG, Out.fg, borG, borE, -List.getD_eq_getElem?_getD, wi]
    rw [fold_app] at this
    exact this
  have o := outer _ rfl
  have mt : (if goal = none then [] else List.range (k + 1)).flatMap inn = matL A B C vs k i := by
    unfold matL
    rw [hg, hinn]
    split <;> rfl
  rw [mt] at o
  rw [hg] at ix2
  unfold fnS i_mattering_of
  generalize (matL A B C vs k i).map prN = L at *
  generalize (ans A B C (k + 1)).map tbD = N at *
  generalize (out A B C vs).map polD = O at *
  generalize liD A B C = D at *
  push_cast at w1
  simp [sm, ownsAt, outs, argG, isAbs, arsD, arD, refs, slsOf, slOf, putBack, pubD, getD, getO, setS, wipeE, backE, partD, parG, Out.fg, borG, borE, -List.getD_eq_getElem?_getD, szE, q1, w1, q2, w2, ix1, ix2, o, outs]
/-! ### what is asked -/
abbrev S_want_asked (f : Fn) : Prop := ∀ (A B C : Tb) (w : Nat) (b : Bool) (vs : List Vc) (k i : Nat), LiOk A B C w → InOk vs w → k < vs.length → i < C.length → f [.dat (liD A B C), .dat (vsD b vs), .dat (.int k), .dat (.int i)] = some (.dat .none, [.dat (liD A B C), .dat (vsD b vs), .dat (.int k), .dat (.int i)])
theorem ok_want_asked {F1 F2 F3 : Fn} (q1 : G.fns "want_inputs" = some ⟨[false, false], F1⟩) (e1 : S_want_inputs F1) (q2 : G.fns "is_within" = some ⟨[false, false, false], F2⟩) (e2 : S_is_within F2) (q3 : G.fns "outputs_of" = some ⟨[false], F3⟩) (e3 : S_outputs_of F3) : S_want_asked (fnS G wfuel 4 4 i_want_asked) := fun A B C w b vs k i h hv hk hi => by
  have w1 := e1 A B C w b vs h hv
  have w2 := e2 (.int k) 0 ((vs.length : Int) - 1)
  rw [isW_int (by omega) (by omega)] at w2
  have w3 := e2 (.int i) 0 ((C.length : Int) - 1)
  rw [isW_int (by omega) (by omega)] at w3
  have w4 := e3 A B C w h
  have ln := len_vs b vs
  unfold fnS i_want_asked
  generalize liD A B C = D at *
  generalize vsD b vs = V at *
  simp [sm, ownsAt, outs, argG, isAbs, arsD, arD, refs, slsOf, slOf, putBack, pubD, getD, getO, setS, wipeE, backE, partD, parG, Out.fg, borG, borE, -List.getD_eq_getElem?_getD, q1, w1, q2, ln, w2, q3, w4, w3, outs]
abbrev S_mattering_inputs (f : Fn) : Prop := S_mattering_of f
theorem ok_mattering_inputs {F1 F2 : Fn} (q1 : G.fns "want_asked" = some ⟨[false, false, false, false], F1⟩) (e1 : S_want_asked F1) (q2 : G.fns "mattering_of" = some ⟨[false, false, false, false], F2⟩) (e2 : S_mattering_of F2) : S_mattering_inputs (fnS G wfuel 4 4 i_mattering_inputs) := fun A B C w b vs k i h hv hk hi => by
  have w1 := e1 A B C w b vs k i h hv hk hi
  have w2 := e2 A B C w b vs k i h hv hk hi
  unfold fnS i_mattering_inputs
  generalize (matL A B C vs k i).map prN = L at *
  generalize liD A B C = D at *
  generalize vsD b vs = V at *
  simp [sm, ownsAt, outs, argG, isAbs, arsD, arD, refs, slsOf, slOf, putBack, pubD, getD, getO, setS, wipeE, backE, partD, parG, Out.fg, borG, borE, -List.getD_eq_getElem?_getD, q1, w1, q2, w2, outs]
end
/-! ### late ones -/
theorem dlV_g {v d : Vc} (h : d.length = v.length) (p : Nat) : g (dlV v d) p = pl (g v p) (g d p) := by
  unfold dlV
  by_cases hp : p < v.length
  · refine g_of ?_
    rw [List.getElem?_zipWith, g_get hp, g_get (by omega)]
  · rw [g_out (by rw [List.length_zipWith]; omega), g_out (v := v) (by omega), none_pl]
theorem dly_at {vs ds : List Vc} {n : Nat} (h : ds.length = vs.length) (hn : n < vs.length) : (dly vs ds).getD n [] = dlV (vs.getD n []) (ds.getD n []) := by
  unfold dly
  rw [List.getD_eq_getElem?_getD, List.getElem?_zipWith, List.getD_eq_getElem?_getD, List.getD_eq_getElem?_getD, List.getElem?_eq_getElem hn, List.getElem?_eq_getElem (show n < ds.length by omega)]; rfl
theorem DelOk.at {ds vs : List Vc} {w n p : Nat} (h : DelOk ds vs w) (hn : n < vs.length) (hp : p < w) : ∃ x : Int, g (ds.getD n []) p = some x ∧ 0 ≤ x ∧ x ≤ 999999999 := by
  have hd : n < ds.length := by rw [h.len]; exact hn
  obtain ⟨h1, h2⟩ := h.rows _ (getD_mem hd)
  obtain ⟨x, e, h3⟩ := h2 (g (ds.getD n []) p) (List.mem_of_getElem? (g_get (by omega)))
  exact ⟨x, e, h3⟩
theorem dly_len {vs ds : List Vc} (h : ds.length = vs.length) : (dly vs ds).length = vs.length := by unfold dly; rw [List.length_zipWith]; omega
theorem DelOk.vlen {ds vs : List Vc} {w : Nat} (h : DelOk ds vs w) (hv : ∀ v ∈ vs, v.length = w) : ∀ v ∈ dly vs ds, v.length = w := fun v hvm => by
  obtain ⟨n, hn⟩ := List.mem_iff_getElem?.mp hvm
  have hl := (List.getElem?_eq_some_iff.mp hn).1
  rw [dly_len h.len] at hl
  have e := dly_at h.len hl
  rw [List.getD_eq_getElem?_getD, hn] at e
  have e : v = _ := e
  rw [e]
  unfold dlV
  rw [List.length_zipWith, hv _ (getD_mem hl), (h.rows _ (getD_mem (by rw [h.len]; exact hl))).1, Nat.min_self]
/-- what came at a time comes at none earlier -/
theorem late_ge {A B C : Tb} {w : Nat} (h : LiOk A B C w) {vs ds : List Vc} (hv : ∀ v ∈ vs, v.length = w) (hd : DelOk ds vs w) {k i n p : Nat} {x y : Int} (hk : k < vs.length) (hn : n ≤ k) (hx : pl (Lz.G (an A B C (k - n)) i p) (g (vs.getD n []) p) = some x) (hy : g (ds.getD n []) p = some y) : Le (some (x + y)) (g (oAt A B C (dly vs ds) k) i) := by
  have L := o_lub (A := A) (B := B) (C := C) h.a.ne h.b.rect h.l.symm (dly vs ds) k i
  have := L.ge (n, p)
  dsimp only at this
  rw [if_pos hn, dly_at hd.len (by omega), dlV_g (by rw [hv _ (getD_mem (by omega)), (hd.rows _ (getD_mem (by rw [hd.len]; omega))).1]), ← pl_assoc, hx, hy] at this
  exact this
theorem late_some {A B C : Tb} {w : Nat} (h : LiOk A B C w) {vs ds : List Vc} (hv : ∀ v ∈ vs, v.length = w) (hd : DelOk ds vs w) {k i : Nat} {x : Int} (hk : k < vs.length) (e : g (oAt A B C vs k) i = some x) : ∃ y, g (oAt A B C (dly vs ds) k) i = some y ∧ x ≤ y := by
  have L := o_lub (A := A) (B := B) (C := C) h.a.ne h.b.rect h.l.symm vs k i
  rw [e] at L
  obtain ⟨⟨n, p⟩, hq⟩ := L.at
  dsimp only at hq
  split at hq
  · rename_i hn
    by_cases hp : p < w
    · obtain ⟨y, hy, y0, _⟩ := hd.at (n := n) (p := p) (by omega) hp
      obtain ⟨z, e1, e2⟩ := some_le (late_ge h hv hd hk hn hq hy)
      exact ⟨z, e1, by omega⟩
    · rw [g_out (v := vs.getD n []) (by rw [hv _ (getD_mem (by omega))]; omega), pl_none] at hq; cases hq
  · cases hq
section
variable {G : Gx}
abbrev S_late_outputs (f : Fn) : Prop := ∀ (A B C : Tb) (w : Nat) (b : Bool) (vs ds : List Vc), LiOk A B C w → InOk vs w → DelOk ds vs w → f [.dat (liD A B C), .dat (vsD b vs), .dat (vsD b ds)] = some (.frs ((ltL (out A B C vs) (out A B C (dly vs ds))).map polD), [.dat (liD A B C), .dat (vsD b vs), .dat (vsD b ds)])
theorem zip_at {a b : List Vc} {y : Vc × Vc} (h : y ∈ a.zip b) : ∃ k : Nat, k < a.length ∧ k < b.length ∧ y.1 = a.getD k [] ∧ y.2 = b.getD k [] := by
  obtain ⟨k, hk⟩ := List.mem_iff_getElem?.mp h
  rw [List.getElem?_zip_eq_some] at hk
  have l1 := (List.getElem?_eq_some_iff.mp hk.1).1
  have l2 := (List.getElem?_eq_some_iff.mp hk.2).1
  refine ⟨k, l1, l2, ?_, ?_⟩
  · rw [List.getD_eq_getElem?_getD, hk.1]; rfl
  · rw [List.getD_eq_getElem?_getD, hk.2]; rfl
theorem zip_atV {a b : Vc} {y : Tt × Tt} (h : y ∈ a.zip b) : ∃ k : Nat, k < a.length ∧ k < b.length ∧ y.1 = g a k ∧ y.2 = g b k := by
  obtain ⟨k, hk⟩ := List.mem_iff_getElem?.mp h
  rw [List.getElem?_zip_eq_some] at hk
  have l1 := (List.getElem?_eq_some_iff.mp hk.1).1
  have l2 := (List.getElem?_eq_some_iff.mp hk.2).1
  exact ⟨k, l1, l2, (g_of hk.1).symm, (g_of hk.2).symm⟩
theorem ok_late_outputs {F1 F2 F3 F4 : Fn} (q1 : G.fns "want_inputs" = some ⟨[false, false], F1⟩) (e1 : S_want_inputs F1) (q2 : G.fns "are_delays" = some ⟨[false, false, false], F2⟩) (e2 : S_are_delays F2) (q3 : G.fns "outputs_by" = some ⟨[false, false], F3⟩) (e3 : S_outputs_by F3) (q4 : G.fns "delayed" = some ⟨[false, false], F4⟩) (e4 : S_delayed F4) : S_late_outputs (fnS G wfuel 8 3 i_late_outputs) := fun A B C w b vs ds h hv hd => by
  have hl := hv.len
  have w8 := h.b.m8
  have vw : ∀ v ∈ vs, v.length = w := fun v hm => (hv.vec v hm).1
  have w1 := e1 A B C w b vs h hv
  have w2 := e2 A B C w b vs ds h (by omega) hd
  have w3 := e3 A B C w b vs h (by omega) (hv.vl w8)
  have w4 := e4 b vs ds (by omega) (hv.vl w8)
  have dl := dly_len hd.len
  have w5 := e3 A B C w false (dly vs ds) h (by omega) (fun v hm => by rw [hd.vlen vw v hm]; omega)
  have w5 : F3 [.dat (liD A B C), .dat (.list ((dly vs ds).map polD))] = _ := w5
  obtain ⟨O, hO⟩ : ∃ O, O = out A B C vs := ⟨_, rfl⟩
  obtain ⟨P, hP⟩ : ∃ P, P = out A B C (dly vs ds) := ⟨_, rfl⟩
  have key : ∀ y ∈ O.zip P, y.1.length ≤ 8 ∧ ∀ u ∈ y.1.zip y.2, ∀ x, u.1 = some x → ∃ z, u.2 = some z := fun y hy => by
    obtain ⟨k, k1, k2, y1, y2⟩ := zip_at hy
    rw [hO, out_len] at k1
    rw [hO, out_getD k1] at y1
    rw [hP, out_getD (by omega)] at y2
    refine ⟨by rw [y1, oAt_len]; exact h.c.len, fun u hu x hx => ?_⟩
    obtain ⟨i, i1, i2, u1, u2⟩ := zip_atV hu
    rw [u1, y1] at hx
    obtain ⟨z, hz, _⟩ := late_some h vw hd k1 hx
    exact ⟨z, by rw [u2, y2, hz]⟩
  have ol : O.length = vs.length := by rw [hO, out_len]
  rw [← hO] at w3
  rw [← hP] at w5
  have c0 : ∀ (n f : Vc) (S : Option Sl), n.length ≤ 8 → (∀ u ∈ n.zip f, ∀ x, u.1 = some x → ∃ z, u.2 = some z) → (sm G [] wfuel i_late_outputs_c0).e [some (.dat (liD A B C)), some (.dat (vsD b vs)), some (.dat (vsD b ds)), S, some (.dat (polD n)), some (.dat (polD f)), none, none] = some (.frs ((ltV n f).map optD), [some (.dat (liD A B C)), some (.dat (vsD b vs)), some (.dat (vsD b ds)), S, some (.dat (polD n)), some (.dat (polD f)), none, none]) := fun n f S hn hu => by
    unfold ltV
    rw [← zip_gen ltO optD]
    unfold i_late_outputs_c0
    refine lc_all (prG optD optD) _ (n.zip f) (by simp [sm, ownsAt, outs, argG, isAbs, arsD, arD, refs, slsOf, slOf, putBack, pubD, getD, getO, setS, wipeE, backE, partD, parG, Out.fg, borG, borE, -List.getD_eq_getElem?_getD, zipP]) (by simp) (by rw [szE, List.length_zip]; omega) fun u hum => ⟨[some (.dat (liD A B C)), some (.dat (vsD b vs)), some (.dat (vsD b ds)), S, some (.dat (polD n)), some (.dat (polD f)), some (.dat (optD u.1)), some (.dat (optD u.2))], by simp [sm, ownsAt, outs, argG, isAbs, arsD, arD, refs, slsOf, slOf, putBack, pubD, getD, getO, setS, wipeE, backE, partD, parG, Out.fg, borG, borE, -List.getD_eq_getElem?_getD, prG], ?_, by simp [sm, ownsAt, outs, argG, isAbs, arsD, arD, refs, slsOf, slOf, putBack, pubD, getD, getO, setS, wipeE, backE, partD, parG, Out.fg, borG, borE, -List.getD_eq_getElem?_getD]⟩
    have := hu u hum
    obtain ⟨u1, u2⟩ := u
    unfold i_late_outputs_c0e
    cases u1 with
    | none => simp [sm, ownsAt, outs, argG, isAbs, arsD, arD, refs, slsOf, slOf, putBack, pubD, getD, getO, setS, wipeE, backE, partD, parG, Out.fg, borG, borE, -List.getD_eq_getElem?_getD, optD, ltO]
    | some x =>
      obtain ⟨z, hz⟩ := this x rfl
      simp only at hz
      subst hz
      simp [sm, ownsAt, outs, argG, isAbs, arsD, arD, refs, slsOf, slOf, putBack, pubD, getD, getO, setS, wipeE, backE, partD, parG, Out.fg, borG, borE, -List.getD_eq_getElem?_getD, optD, ltO]
  have w0 : (sm G [] wfuel i_late_outputs_w0).s [some (.dat (liD A B C)), some (.dat (vsD b vs)), some (.dat (vsD b ds)), some (.own ([])), none, none, none, none] = some (.nx ([some (.dat (liD A B C)), some (.dat (vsD b vs)), some (.dat (vsD b ds)), some (.own ((ltL O P).map polD)), none, none, none, none])) := by
    unfold i_late_outputs_w0
    refine for_ev (ρ1 := [some (.dat (liD A B C)), some (.dat (vsD b vs)), some (.dat (vsD b ds)), some (.own ([])), none, none, none, none]) (xs := (O.zip P).map (prG polD polD)) (by
      have z := zipL O P
      generalize O.map polD = LO at *
      generalize P.map polD = LP at *
      generalize (dly vs ds).map polD = LD at *
      generalize liD A B C = D at *
      generalize vsD b vs = V at *
      generalize vsD b ds = W at *
      simp [sm, ownsAt, outs, argG, isAbs, arsD, arD, refs, slsOf, slOf, putBack, pubD, getD, getO, setS, wipeE, backE, partD, parG, Out.fg, borG, borE, -List.getD_eq_getElem?_getD, q3, w3, q4, w4, w5, z]) ?_
    have := for_fold (t := (sm G [] wfuel (.ttp (.cons (.tnm 4) (.cons (.tnm 5) .nil)))).t) (b := (sm G [] wfuel i_late_outputs_w0b).s) (prG polD polD) (fun acc : List Vc => [some (.dat (liD A B C)), some (.dat (vsD b vs)), some (.dat (vsD b ds)), some (.own (acc.map polD)), none, none, none, none])
      (fun acc y => acc ++ [ltV y.1 y.2]) (fun r acc => (∀ y ∈ r, y ∈ O.zip P) ∧ acc.length + r.length ≤ 100) (O.zip P) [] ⟨fun y hy => hy, by rw [List.length_zip]; simp; omega⟩ fun y r acc ⟨h1, h2⟩ => by
      simp only [List.length_cons] at h2
      obtain ⟨k1, k2⟩ := key y (h1 y List.mem_cons_self)
      have c := c0 y.1 y.2 (some (.own (acc.map polD))) k1 k2
      have hz : (acc.map polD).length < 16777216 := by rw [List.length_map]; omega
      have tt : bltD "tuple" [.list ((ltV y.1 y.2).map optD)] = some (.dat (polD (ltV y.1 y.2))) := rfl
      refine ⟨⟨fun q hq => h1 q (List.mem_cons_of_mem _ hq), by simp; omega⟩, [some (.dat (liD A B C)), some (.dat (vsD b vs)), some (.dat (vsD b ds)), some (.own (acc.map polD)), some (.dat (polD y.1)), some (.dat (polD y.2)), none, none], by simp [sm, ownsAt, outs, argG, isAbs, arsD, arD, refs, slsOf, slOf, putBack, pubD, getD, getO, setS, wipeE, backE, partD, parG, Out.fg, borG, borE, -List.getD_eq_getElem?_getD, prG], .inl ?_⟩
      rw [List.map_append, List.map_cons, List.map_nil]
      generalize acc.map polD = L at *
      generalize (ltV y.1 y.2).map optD = T at *
      generalize polD (ltV y.1 y.2) = TT at *
      generalize liD A B C = D at *
      generalize vsD b vs = V at *
      generalize vsD b ds = W at *
      unfold i_late_outputs_w0b
      simp [sm, ownsAt, outs, argG, isAbs, arsD, arD, refs, slsOf, slOf, putBack, pubD, getD, getO, setS, wipeE, backE, partD, parG, Out.fg, borG, borE, -List.getD_eq_getElem?_getD, szE, c, tt, hz]
    have fe : (O.zip P).foldl (fun acc y => acc ++ [ltV y.1 y.2]) [] = ltL O P := by
      have := fold_app (fun y : Vc × Vc => [ltV y.1 y.2]) (O.zip P) []
      rw [this]
      unfold ltL
      rw [List.nil_append, ← List.map_eq_flatMap]
      exact zip_fn ltV O P
    rw [fe] at this
    exact this
  rw [← hO, ← hP]
  unfold fnS i_late_outputs
  generalize (ltL O P).map polD = L at *
  generalize liD A B C = D at *
  generalize vsD b vs = V at *
  generalize vsD b ds = W at *
  simp [sm, ownsAt, outs, argG, isAbs, arsD, arD, refs, slsOf, slOf, putBack, pubD, getD, getO, setS, wipeE, backE, partD, parG, Out.fg, borG, borE, -List.getD_eq_getElem?_getD, szE, q1, w1, q2, w2, w0, outs]
end
end Lz

namespace k94
open PySem PySem.Spec PyProof.Rows L2 Dx
def tp (i : Nat) : Stmt := PySem.Challenge.pw_laterthen_k94_whole_late_outputs_and_wha.main.body.getD i (.Pass ⟨0, 0, 0, 0⟩)
def fnsAll : List (Str × List Str) :=
  ("is_integer", (["value"] : List Str)) ::
  ("is_within", (["value", "least", "most"] : List Str)) ::
  ("is_list", (["value"] : List Str)) ::
  ("is_tuple", (["value", "many"] : List Str)) ::
  ("latest", (["times"] : List Str)) ::
  ("then", (["one", "other"] : List Str)) ::
  ("is_entry", (["value"] : List Str)) ::
  ("is_table_any", (["value"] : List Str)) ::
  ("is_square_any", (["value"] : List Str)) ::
  ("is_vector_of", (["many", "value"] : List Str)) ::
  ("applied", (["table", "vector"] : List Str)) ::
  ("columns_of", (["table"] : List Str)) ::
  ("product", (["table", "other"] : List Str)) ::
  ("joined", (["vector", "other"] : List Str)) ::
  ("is_line_any", (["value"] : List Str)) ::
  ("want_line", (["line"] : List Str)) ::
  ("inputs_of", (["line"] : List Str)) ::
  ("outputs_of", (["line"] : List Str)) ::
  ("are_steps", (["many", "value"] : List Str)) ::
  ("want_inputs", (["line", "inputs"] : List Str)) ::
  ("states_by", (["line", "inputs"] : List Str)) ::
  ("outputs_by", (["line", "inputs"] : List Str)) ::
  ("answers_by", (["line", "many"] : List Str)) ::
  ("are_delays", (["line", "inputs", "value"] : List Str)) ::
  ("delayed", (["inputs", "delays"] : List Str)) ::
  ("mattering_of", (["line", "inputs", "step", "output"] : List Str)) ::
  ("want_asked", (["line", "inputs", "step", "output"] : List Str)) ::
  ("late_outputs", (["line", "inputs", "delays"] : List Str)) ::
  ("mattering_inputs", (["line", "inputs", "step", "output"] : List Str)) ::
  ("_law_pot", (["script", "k"] : List Str)) ::
  ("_law_draw", (["pot", "many"] : List Str)) ::
  ("_law_pick", (["pot", "some"] : List Str)) ::
  ("_law_entry", (["pot"] : List Str)) ::
  ("_law_table", (["pot", "rows", "columns"] : List Str)) ::
  ("_law_line", (["pot", "most"] : List Str)) ::
  ("_law_vectors", (["pot", "steps", "many"] : List Str)) ::
  ("_law_latest", (["some"] : List Str)) ::
  ("_law_plus", (["one", "other"] : List Str)) ::
  ("_law_rows", (["table", "vector"] : List Str)) ::
  ("_law_states", (["line", "inputs"] : List Str)) ::
  ("_law_outputs", (["line", "inputs"] : List Str)) ::
  ("_law_even_vectors", (["pot", "steps", "many"] : List Str)) ::
  ("_law_moved", (["inputs", "step", "place", "more"] : List Str)) ::
  ("_law_matters", (["line", "inputs", "goal"] : List Str)) ::
  ("_law_late", (["line", "inputs", "delays"] : List Str)) ::
  ("_law_delays_right", (["line", "inputs", "delays"] : List Str)) ::
  ("_law_line_right", (["pot", "line", "inputs"] : List Str)) ::
  ("_law_right", (["pot"] : List Str)) ::
  ("_law_gaps_right", (["pot"] : List Str)) ::
  ("law", (["script"] : List Str)) ::
  []
def kwAll : List (Str × List Str × List Nat) := [("late_outputs", ["delays", "inputs", "line"], [2, 1, 0]), ("mattering_inputs", ["output", "step", "inputs", "line"], [3, 2, 1, 0])]
def cc (N : List Str) (mv : List Nat) (fg br : List (Nat × List Nat)) (n : Nat) : Cc := ⟨N, mv, fnsAll.take n, ["MOST_ENTRY", "MOST_TIME", "MOST_SIDE", "LINE", "MOST_STEPS"], false, kwAll, fg, br⟩
def consF (x : Str) : Option PyData := if x = "LINE" then some (.str (Str.ofString "line")) else if x = "MOST_ENTRY" then some (.int (99)) else if x = "MOST_SIDE" then some (.int (8)) else if x = "MOST_STEPS" then some (.int (12)) else if x = "MOST_TIME" then some (.int (1000000000)) else none
def g0 : Gx := ⟨fun _ => none, consF, kwAll⟩
def f_is_integer : Fn := fnS g0 Lz.wfuel 1 1 Lz.i_is_integer
def g1 : Gx := g0.add "is_integer" ⟨[false], f_is_integer⟩
theorem c_is_integer : stG (cS (cc ["value"] [] [] [] 0) 40 (defScope (tp 1)) 20) (defBody (tp 1)) = some Lz.i_is_integer := by decide +kernel
theorem s_is_integer : FnScope ["value"] ["value"] (defScope (tp 1)) := fnS_by (by decide +kernel)
theorem e_is_integer : Lz.S_is_integer f_is_integer := Lz.ok_is_integer 
theorem q1_is_integer : g1.fns "is_integer" = some ⟨[false], f_is_integer⟩ := Gx.add_at _ _ _
def f_is_within : Fn := fnS g1 Lz.wfuel 3 3 Lz.i_is_within
def g2 : Gx := g1.add "is_within" ⟨[false, false, false], f_is_within⟩
theorem c_is_within : stG (cS (cc ["value", "least", "most"] [] [] [] 1) 40 (defScope (tp 2)) 20) (defBody (tp 2)) = some Lz.i_is_within := by decide +kernel
theorem s_is_within : FnScope ["value", "least", "most"] ["value", "least", "most"] (defScope (tp 2)) := fnS_by (by decide +kernel)
theorem e_is_within : Lz.S_is_within f_is_within := Lz.ok_is_within q1_is_integer e_is_integer
def f_is_list : Fn := fnS g2 Lz.wfuel 1 1 Lz.i_is_list
def g3 : Gx := g2.add "is_list" ⟨[false], f_is_list⟩
theorem c_is_list : stG (cS (cc ["value"] [] [] [] 2) 40 (defScope (tp 3)) 20) (defBody (tp 3)) = some Lz.i_is_list := by decide +kernel
theorem s_is_list : FnScope ["value"] ["value"] (defScope (tp 3)) := fnS_by (by decide +kernel)
theorem e_is_list : Lz.S_is_list f_is_list := Lz.ok_is_list 
def f_is_tuple : Fn := fnS g3 Lz.wfuel 2 2 Lz.i_is_tuple
def g4 : Gx := g3.add "is_tuple" ⟨[false, false], f_is_tuple⟩
theorem c_is_tuple : stG (cS (cc ["value", "many"] [] [] [] 3) 40 (defScope (tp 4)) 20) (defBody (tp 4)) = some Lz.i_is_tuple := by decide +kernel
theorem s_is_tuple : FnScope ["value", "many"] ["value", "many"] (defScope (tp 4)) := fnS_by (by decide +kernel)
theorem e_is_tuple : Lz.S_is_tuple f_is_tuple := Lz.ok_is_tuple 
def f_latest : Fn := fnS g4 Lz.wfuel 3 1 Lz.i_latest
def g5 : Gx := g4.add "latest" ⟨[false], f_latest⟩
theorem c_latest : stG (cS (cc ["times", "some", "one"] [] [] [] 4) 40 (defScope (tp 15)) 20) (defBody (tp 15)) = some Lz.i_latest := by decide +kernel
theorem s_latest : FnScope ["times", "some", "one"] ["times"] (defScope (tp 15)) := fnS_by (by decide +kernel)
theorem e_latest : Lz.S_latest f_latest := Lz.ok_latest 
def f_then : Fn := fnS g5 Lz.wfuel 2 2 Lz.i_then
def g6 : Gx := g5.add "then" ⟨[false, false], f_then⟩
theorem c_then : stG (cS (cc ["one", "other"] [] [] [] 5) 40 (defScope (tp 16)) 20) (defBody (tp 16)) = some Lz.i_then := by decide +kernel
theorem s_then : FnScope ["one", "other"] ["one", "other"] (defScope (tp 16)) := fnS_by (by decide +kernel)
theorem e_then : Lz.S_then f_then := Lz.ok_then 
theorem q2_is_within : g2.fns "is_within" = some ⟨[false, false, false], f_is_within⟩ := Gx.add_at _ _ _
theorem q3_is_within : g3.fns "is_within" = some ⟨[false, false, false], f_is_within⟩ := (Gx.add_ne g2 _ (by decide)).trans q2_is_within
theorem q4_is_within : g4.fns "is_within" = some ⟨[false, false, false], f_is_within⟩ := (Gx.add_ne g3 _ (by decide)).trans q3_is_within
theorem q5_is_within : g5.fns "is_within" = some ⟨[false, false, false], f_is_within⟩ := (Gx.add_ne g4 _ (by decide)).trans q4_is_within
theorem q6_is_within : g6.fns "is_within" = some ⟨[false, false, false], f_is_within⟩ := (Gx.add_ne g5 _ (by decide)).trans q5_is_within
theorem k6_MOST_ENTRY : g6.cons "MOST_ENTRY" = some (.int (99)) := rfl
def f_is_entry : Fn := fnS g6 Lz.wfuel 1 1 Lz.i_is_entry
def g7 : Gx := g6.add "is_entry" ⟨[false], f_is_entry⟩
theorem c_is_entry : stG (cS (cc ["value"] [] [] [] 6) 40 (defScope (tp 19)) 20) (defBody (tp 19)) = some Lz.i_is_entry := by decide +kernel
theorem s_is_entry : FnScope ["value"] ["value"] (defScope (tp 19)) := fnS_by (by decide +kernel)
theorem e_is_entry : Lz.S_is_entry f_is_entry := Lz.ok_is_entry q6_is_within e_is_within k6_MOST_ENTRY
theorem q7_is_entry : g7.fns "is_entry" = some ⟨[false], f_is_entry⟩ := Gx.add_at _ _ _
theorem k7_MOST_SIDE : g7.cons "MOST_SIDE" = some (.int (8)) := rfl
def f_is_table_any : Fn := fnS g7 Lz.wfuel 3 1 Lz.i_is_table_any
def g8 : Gx := g7.add "is_table_any" ⟨[false], f_is_table_any⟩
theorem c_is_table_any : stG (cS (cc ["value", "row", "one"] [] [] [] 7) 40 (defScope (tp 20)) 20) (defBody (tp 20)) = some Lz.i_is_table_any := by decide +kernel
theorem s_is_table_any : FnScope ["value", "row", "one"] ["value"] (defScope (tp 20)) := fnS_by (by decide +kernel)
theorem e_is_table_any : Lz.S_is_table_any f_is_table_any := Lz.ok_is_table_any q7_is_entry e_is_entry k7_MOST_SIDE
theorem q8_is_table_any : g8.fns "is_table_any" = some ⟨[false], f_is_table_any⟩ := Gx.add_at _ _ _
def f_is_square_any : Fn := fnS g8 Lz.wfuel 1 1 Lz.i_is_square_any
def g9 : Gx := g8.add "is_square_any" ⟨[false], f_is_square_any⟩
theorem c_is_square_any : stG (cS (cc ["value"] [] [] [] 8) 40 (defScope (tp 21)) 20) (defBody (tp 21)) = some Lz.i_is_square_any := by decide +kernel
theorem s_is_square_any : FnScope ["value"] ["value"] (defScope (tp 21)) := fnS_by (by decide +kernel)
theorem e_is_square_any : Lz.S_is_square_any f_is_square_any := Lz.ok_is_square_any q8_is_table_any e_is_table_any
theorem q4_is_tuple : g4.fns "is_tuple" = some ⟨[false, false], f_is_tuple⟩ := Gx.add_at _ _ _
theorem q5_is_tuple : g5.fns "is_tuple" = some ⟨[false, false], f_is_tuple⟩ := (Gx.add_ne g4 _ (by decide)).trans q4_is_tuple
theorem q6_is_tuple : g6.fns "is_tuple" = some ⟨[false, false], f_is_tuple⟩ := (Gx.add_ne g5 _ (by decide)).trans q5_is_tuple
theorem q7_is_tuple : g7.fns "is_tuple" = some ⟨[false, false], f_is_tuple⟩ := (Gx.add_ne g6 _ (by decide)).trans q6_is_tuple
theorem q8_is_tuple : g8.fns "is_tuple" = some ⟨[false, false], f_is_tuple⟩ := (Gx.add_ne g7 _ (by decide)).trans q7_is_tuple
theorem q9_is_tuple : g9.fns "is_tuple" = some ⟨[false, false], f_is_tuple⟩ := (Gx.add_ne g8 _ (by decide)).trans q8_is_tuple
theorem q7_is_within : g7.fns "is_within" = some ⟨[false, false, false], f_is_within⟩ := (Gx.add_ne g6 _ (by decide)).trans q6_is_within
theorem q8_is_within : g8.fns "is_within" = some ⟨[false, false, false], f_is_within⟩ := (Gx.add_ne g7 _ (by decide)).trans q7_is_within
theorem q9_is_within : g9.fns "is_within" = some ⟨[false, false, false], f_is_within⟩ := (Gx.add_ne g8 _ (by decide)).trans q8_is_within
theorem k9_MOST_TIME : g9.cons "MOST_TIME" = some (.int (1000000000)) := rfl
def f_is_vector_of : Fn := fnS g9 Lz.wfuel 3 2 Lz.i_is_vector_of
def g10 : Gx := g9.add "is_vector_of" ⟨[false, false], f_is_vector_of⟩
theorem c_is_vector_of : stG (cS (cc ["many", "value", "one"] [] [] [] 9) 40 (defScope (tp 22)) 20) (defBody (tp 22)) = some Lz.i_is_vector_of := by decide +kernel
theorem s_is_vector_of : FnScope ["many", "value", "one"] ["many", "value"] (defScope (tp 22)) := fnS_by (by decide +kernel)
theorem e_is_vector_of : Lz.S_is_vector_of f_is_vector_of := Lz.ok_is_vector_of q9_is_tuple e_is_tuple q9_is_within e_is_within k9_MOST_TIME
theorem q5_latest : g5.fns "latest" = some ⟨[false], f_latest⟩ := Gx.add_at _ _ _
theorem q6_latest : g6.fns "latest" = some ⟨[false], f_latest⟩ := (Gx.add_ne g5 _ (by decide)).trans q5_latest
theorem q7_latest : g7.fns "latest" = some ⟨[false], f_latest⟩ := (Gx.add_ne g6 _ (by decide)).trans q6_latest
theorem q8_latest : g8.fns "latest" = some ⟨[false], f_latest⟩ := (Gx.add_ne g7 _ (by decide)).trans q7_latest
theorem q9_latest : g9.fns "latest" = some ⟨[false], f_latest⟩ := (Gx.add_ne g8 _ (by decide)).trans q8_latest
theorem q10_latest : g10.fns "latest" = some ⟨[false], f_latest⟩ := (Gx.add_ne g9 _ (by decide)).trans q9_latest
theorem q6_then : g6.fns "then" = some ⟨[false, false], f_then⟩ := Gx.add_at _ _ _
theorem q7_then : g7.fns "then" = some ⟨[false, false], f_then⟩ := (Gx.add_ne g6 _ (by decide)).trans q6_then
theorem q8_then : g8.fns "then" = some ⟨[false, false], f_then⟩ := (Gx.add_ne g7 _ (by decide)).trans q7_then
theorem q9_then : g9.fns "then" = some ⟨[false, false], f_then⟩ := (Gx.add_ne g8 _ (by decide)).trans q8_then
theorem q10_then : g10.fns "then" = some ⟨[false, false], f_then⟩ := (Gx.add_ne g9 _ (by decide)).trans q9_then
def f_applied : Fn := fnS g10 Lz.wfuel 5 2 Lz.i_applied
def g11 : Gx := g10.add "applied" ⟨[false, false], f_applied⟩
theorem c_applied : stG (cS (cc ["table", "vector", "row", "one", "other"] [] [] [] 10) 40 (defScope (tp 23)) 20) (defBody (tp 23)) = some Lz.i_applied := by decide +kernel
theorem s_applied : FnScope ["table", "vector", "row", "one", "other"] ["table", "vector"] (defScope (tp 23)) := fnS_by (by decide +kernel)
theorem e_applied : Lz.S_applied f_applied := Lz.ok_applied q10_then e_then q10_latest e_latest
def f_columns_of : Fn := fnS g11 Lz.wfuel 1 1 Lz.i_columns_of
def g12 : Gx := g11.add "columns_of" ⟨[false], f_columns_of⟩
theorem c_columns_of : stG (cS (cc ["table"] [] [] [] 11) 40 (defScope (tp 24)) 20) (defBody (tp 24)) = some Lz.i_columns_of := by decide +kernel
theorem s_columns_of : FnScope ["table"] ["table"] (defScope (tp 24)) := fnS_by (by decide +kernel)
theorem e_columns_of : Lz.S_columns_of f_columns_of := Lz.ok_columns_of 
theorem q12_columns_of : g12.fns "columns_of" = some ⟨[false], f_columns_of⟩ := Gx.add_at _ _ _
theorem q11_latest : g11.fns "latest" = some ⟨[false], f_latest⟩ := (Gx.add_ne g10 _ (by decide)).trans q10_latest
theorem q12_latest : g12.fns "latest" = some ⟨[false], f_latest⟩ := (Gx.add_ne g11 _ (by decide)).trans q11_latest
theorem q11_then : g11.fns "then" = some ⟨[false, false], f_then⟩ := (Gx.add_ne g10 _ (by decide)).trans q10_then
theorem q12_then : g12.fns "then" = some ⟨[false, false], f_then⟩ := (Gx.add_ne g11 _ (by decide)).trans q11_then
def f_product : Fn := fnS g12 Lz.wfuel 7 2 Lz.i_product
def g13 : Gx := g12.add "product" ⟨[false, false], f_product⟩
theorem c_product : stG (cS (cc ["table", "other", "rows", "row", "column", "one", "late"] [2] [(53, [3, 4, 5, 6])] [] 12) 40 (defScope (tp 25)) 20) (defBody (tp 25)) = some Lz.i_product := by decide +kernel
theorem s_product : FnScope ["table", "other", "rows", "row", "column", "one", "late"] ["table", "other"] (defScope (tp 25)) := fnS_by (by decide +kernel)
theorem e_product : Lz.S_product f_product := Lz.ok_product q12_then e_then q12_latest e_latest q12_columns_of e_columns_of
theorem q13_latest : g13.fns "latest" = some ⟨[false], f_latest⟩ := (Gx.add_ne g12 _ (by decide)).trans q12_latest
def f_joined : Fn := fnS g13 Lz.wfuel 4 2 Lz.i_joined
def g14 : Gx := g13.add "joined" ⟨[false, false], f_joined⟩
theorem c_joined : stG (cS (cc ["vector", "other", "one", "late"] [] [] [] 13) 40 (defScope (tp 26)) 20) (defBody (tp 26)) = some Lz.i_joined := by decide +kernel
theorem s_joined : FnScope ["vector", "other", "one", "late"] ["vector", "other"] (defScope (tp 26)) := fnS_by (by decide +kernel)
theorem e_joined : Lz.S_joined f_joined := Lz.ok_joined q13_latest e_latest
theorem q9_is_square_any : g9.fns "is_square_any" = some ⟨[false], f_is_square_any⟩ := Gx.add_at _ _ _
theorem q10_is_square_any : g10.fns "is_square_any" = some ⟨[false], f_is_square_any⟩ := (Gx.add_ne g9 _ (by decide)).trans q9_is_square_any
theorem q11_is_square_any : g11.fns "is_square_any" = some ⟨[false], f_is_square_any⟩ := (Gx.add_ne g10 _ (by decide)).trans q10_is_square_any
theorem q12_is_square_any : g12.fns "is_square_any" = some ⟨[false], f_is_square_any⟩ := (Gx.add_ne g11 _ (by decide)).trans q11_is_square_any
theorem q13_is_square_any : g13.fns "is_square_any" = some ⟨[false], f_is_square_any⟩ := (Gx.add_ne g12 _ (by decide)).trans q12_is_square_any
theorem q14_is_square_any : g14.fns "is_square_any" = some ⟨[false], f_is_square_any⟩ := (Gx.add_ne g13 _ (by decide)).trans q13_is_square_any
theorem q9_is_table_any : g9.fns "is_table_any" = some ⟨[false], f_is_table_any⟩ := (Gx.add_ne g8 _ (by decide)).trans q8_is_table_any
theorem q10_is_table_any : g10.fns "is_table_any" = some ⟨[false], f_is_table_any⟩ := (Gx.add_ne g9 _ (by decide)).trans q9_is_table_any
theorem q11_is_table_any : g11.fns "is_table_any" = some ⟨[false], f_is_table_any⟩ := (Gx.add_ne g10 _ (by decide)).trans q10_is_table_any
theorem q12_is_table_any : g12.fns "is_table_any" = some ⟨[false], f_is_table_any⟩ := (Gx.add_ne g11 _ (by decide)).trans q11_is_table_any
theorem q13_is_table_any : g13.fns "is_table_any" = some ⟨[false], f_is_table_any⟩ := (Gx.add_ne g12 _ (by decide)).trans q12_is_table_any
theorem q14_is_table_any : g14.fns "is_table_any" = some ⟨[false], f_is_table_any⟩ := (Gx.add_ne g13 _ (by decide)).trans q13_is_table_any
theorem q10_is_tuple : g10.fns "is_tuple" = some ⟨[false, false], f_is_tuple⟩ := (Gx.add_ne g9 _ (by decide)).trans q9_is_tuple
theorem q11_is_tuple : g11.fns "is_tuple" = some ⟨[false, false], f_is_tuple⟩ := (Gx.add_ne g10 _ (by decide)).trans q10_is_tuple
theorem q12_is_tuple : g12.fns "is_tuple" = some ⟨[false, false], f_is_tuple⟩ := (Gx.add_ne g11 _ (by decide)).trans q11_is_tuple
theorem q13_is_tuple : g13.fns "is_tuple" = some ⟨[false, false], f_is_tuple⟩ := (Gx.add_ne g12 _ (by decide)).trans q12_is_tuple
theorem q14_is_tuple : g14.fns "is_tuple" = some ⟨[false, false], f_is_tuple⟩ := (Gx.add_ne g13 _ (by decide)).trans q13_is_tuple
theorem k14_LINE : g14.cons "LINE" = some (.str (Str.ofString "line")) := rfl
def f_is_line_any : Fn := fnS g14 Lz.wfuel 1 1 Lz.i_is_line_any
def g15 : Gx := g14.add "is_line_any" ⟨[false], f_is_line_any⟩
theorem c_is_line_any : stG (cS (cc ["value"] [] [] [] 14) 40 (defScope (tp 30)) 20) (defBody (tp 30)) = some Lz.i_is_line_any := by decide +kernel
theorem s_is_line_any : FnScope ["value"] ["value"] (defScope (tp 30)) := fnS_by (by decide +kernel)
theorem e_is_line_any : Lz.S_is_line_any f_is_line_any := Lz.ok_is_line_any q14_is_tuple e_is_tuple q14_is_square_any e_is_square_any q14_is_table_any e_is_table_any k14_LINE
theorem q15_is_line_any : g15.fns "is_line_any" = some ⟨[false], f_is_line_any⟩ := Gx.add_at _ _ _
def f_want_line : Fn := fnS g15 Lz.wfuel 1 1 Lz.i_want_line
def g16 : Gx := g15.add "want_line" ⟨[false], f_want_line⟩
theorem c_want_line : stG (cS (cc ["line"] [] [] [] 15) 40 (defScope (tp 31)) 20) (defBody (tp 31)) = some Lz.i_want_line := by decide +kernel
theorem s_want_line : FnScope ["line"] ["line"] (defScope (tp 31)) := fnS_by (by decide +kernel)
theorem e_want_line : Lz.S_want_line f_want_line := Lz.ok_want_line q15_is_line_any e_is_line_any
def f_inputs_of : Fn := fnS g16 Lz.wfuel 1 1 Lz.i_inputs_of
def g17 : Gx := g16.add "inputs_of" ⟨[false], f_inputs_of⟩
theorem c_inputs_of : stG (cS (cc ["line"] [] [] [] 16) 40 (defScope (tp 32)) 20) (defBody (tp 32)) = some Lz.i_inputs_of := by decide +kernel
theorem s_inputs_of : FnScope ["line"] ["line"] (defScope (tp 32)) := fnS_by (by decide +kernel)
theorem e_inputs_of : Lz.S_inputs_of f_inputs_of := Lz.ok_inputs_of 
def f_outputs_of : Fn := fnS g17 Lz.wfuel 1 1 Lz.i_outputs_of
def g18 : Gx := g17.add "outputs_of" ⟨[false], f_outputs_of⟩
theorem c_outputs_of : stG (cS (cc ["line"] [] [] [] 17) 40 (defScope (tp 33)) 20) (defBody (tp 33)) = some Lz.i_outputs_of := by decide +kernel
theorem s_outputs_of : FnScope ["line"] ["line"] (defScope (tp 33)) := fnS_by (by decide +kernel)
theorem e_outputs_of : Lz.S_outputs_of f_outputs_of := Lz.ok_outputs_of 
theorem q3_is_list : g3.fns "is_list" = some ⟨[false], f_is_list⟩ := Gx.add_at _ _ _
theorem q4_is_list : g4.fns "is_list" = some ⟨[false], f_is_list⟩ := (Gx.add_ne g3 _ (by decide)).trans q3_is_list
theorem q5_is_list : g5.fns "is_list" = some ⟨[false], f_is_list⟩ := (Gx.add_ne g4 _ (by decide)).trans q4_is_list
theorem q6_is_list : g6.fns "is_list" = some ⟨[false], f_is_list⟩ := (Gx.add_ne g5 _ (by decide)).trans q5_is_list
theorem q7_is_list : g7.fns "is_list" = some ⟨[false], f_is_list⟩ := (Gx.add_ne g6 _ (by decide)).trans q6_is_list
theorem q8_is_list : g8.fns "is_list" = some ⟨[false], f_is_list⟩ := (Gx.add_ne g7 _ (by decide)).trans q7_is_list
theorem q9_is_list : g9.fns "is_list" = some ⟨[false], f_is_list⟩ := (Gx.add_ne g8 _ (by decide)).trans q8_is_list
theorem q10_is_list : g10.fns "is_list" = some ⟨[false], f_is_list⟩ := (Gx.add_ne g9 _ (by decide)).trans q9_is_list
theorem q11_is_list : g11.fns "is_list" = some ⟨[false], f_is_list⟩ := (Gx.add_ne g10 _ (by decide)).trans q10_is_list
theorem q12_is_list : g12.fns "is_list" = some ⟨[false], f_is_list⟩ := (Gx.add_ne g11 _ (by decide)).trans q11_is_list
theorem q13_is_list : g13.fns "is_list" = some ⟨[false], f_is_list⟩ := (Gx.add_ne g12 _ (by decide)).trans q12_is_list
theorem q14_is_list : g14.fns "is_list" = some ⟨[false], f_is_list⟩ := (Gx.add_ne g13 _ (by decide)).trans q13_is_list
theorem q15_is_list : g15.fns "is_list" = some ⟨[false], f_is_list⟩ := (Gx.add_ne g14 _ (by decide)).trans q14_is_list
theorem q16_is_list : g16.fns "is_list" = some ⟨[false], f_is_list⟩ := (Gx.add_ne g15 _ (by decide)).trans q15_is_list
theorem q17_is_list : g17.fns "is_list" = some ⟨[false], f_is_list⟩ := (Gx.add_ne g16 _ (by decide)).trans q16_is_list
theorem q18_is_list : g18.fns "is_list" = some ⟨[false], f_is_list⟩ := (Gx.add_ne g17 _ (by decide)).trans q17_is_list
theorem q10_is_vector_of : g10.fns "is_vector_of" = some ⟨[false, false], f_is_vector_of⟩ := Gx.add_at _ _ _
theorem q11_is_vector_of : g11.fns "is_vector_of" = some ⟨[false, false], f_is_vector_of⟩ := (Gx.add_ne g10 _ (by decide)).trans q10_is_vector_of
theorem q12_is_vector_of : g12.fns "is_vector_of" = some ⟨[false, false], f_is_vector_of⟩ := (Gx.add_ne g11 _ (by decide)).trans q11_is_vector_of
theorem q13_is_vector_of : g13.fns "is_vector_of" = some ⟨[false, false], f_is_vector_of⟩ := (Gx.add_ne g12 _ (by decide)).trans q12_is_vector_of
theorem q14_is_vector_of : g14.fns "is_vector_of" = some ⟨[false, false], f_is_vector_of⟩ := (Gx.add_ne g13 _ (by decide)).trans q13_is_vector_of
theorem q15_is_vector_of : g15.fns "is_vector_of" = some ⟨[false, false], f_is_vector_of⟩ := (Gx.add_ne g14 _ (by decide)).trans q14_is_vector_of
theorem q16_is_vector_of : g16.fns "is_vector_of" = some ⟨[false, false], f_is_vector_of⟩ := (Gx.add_ne g15 _ (by decide)).trans q15_is_vector_of
theorem q17_is_vector_of : g17.fns "is_vector_of" = some ⟨[false, false], f_is_vector_of⟩ := (Gx.add_ne g16 _ (by decide)).trans q16_is_vector_of
theorem q18_is_vector_of : g18.fns "is_vector_of" = some ⟨[false, false], f_is_vector_of⟩ := (Gx.add_ne g17 _ (by decide)).trans q17_is_vector_of
theorem k18_MOST_STEPS : g18.cons "MOST_STEPS" = some (.int (12)) := rfl
def f_are_steps : Fn := fnS g18 Lz.wfuel 3 2 Lz.i_are_steps
def g19 : Gx := g18.add "are_steps" ⟨[false, false], f_are_steps⟩
theorem c_are_steps : stG (cS (cc ["many", "value", "one"] [] [] [] 18) 40 (defScope (tp 34)) 20) (defBody (tp 34)) = some Lz.i_are_steps := by decide +kernel
theorem s_are_steps : FnScope ["many", "value", "one"] ["many", "value"] (defScope (tp 34)) := fnS_by (by decide +kernel)
theorem e_are_steps : Lz.S_are_steps f_are_steps := Lz.ok_are_steps q18_is_list e_is_list q18_is_vector_of e_is_vector_of k18_MOST_STEPS
theorem q19_are_steps : g19.fns "are_steps" = some ⟨[false, false], f_are_steps⟩ := Gx.add_at _ _ _
theorem q17_inputs_of : g17.fns "inputs_of" = some ⟨[false], f_inputs_of⟩ := Gx.add_at _ _ _
theorem q18_inputs_of : g18.fns "inputs_of" = some ⟨[false], f_inputs_of⟩ := (Gx.add_ne g17 _ (by decide)).trans q17_inputs_of
theorem q19_inputs_of : g19.fns "inputs_of" = some ⟨[false], f_inputs_of⟩ := (Gx.add_ne g18 _ (by decide)).trans q18_inputs_of
theorem q16_want_line : g16.fns "want_line" = some ⟨[false], f_want_line⟩ := Gx.add_at _ _ _
theorem q17_want_line : g17.fns "want_line" = some ⟨[false], f_want_line⟩ := (Gx.add_ne g16 _ (by decide)).trans q16_want_line
theorem q18_want_line : g18.fns "want_line" = some ⟨[false], f_want_line⟩ := (Gx.add_ne g17 _ (by decide)).trans q17_want_line
theorem q19_want_line : g19.fns "want_line" = some ⟨[false], f_want_line⟩ := (Gx.add_ne g18 _ (by decide)).trans q18_want_line
def f_want_inputs : Fn := fnS g19 Lz.wfuel 2 2 Lz.i_want_inputs
def g20 : Gx := g19.add "want_inputs" ⟨[false, false], f_want_inputs⟩
theorem c_want_inputs : stG (cS (cc ["line", "inputs"] [] [] [] 19) 40 (defScope (tp 35)) 20) (defBody (tp 35)) = some Lz.i_want_inputs := by decide +kernel
theorem s_want_inputs : FnScope ["line", "inputs"] ["line", "inputs"] (defScope (tp 35)) := fnS_by (by decide +kernel)
theorem e_want_inputs : Lz.S_want_inputs f_want_inputs := Lz.ok_want_inputs q19_want_line e_want_line q19_are_steps e_are_steps q19_inputs_of e_inputs_of
theorem q11_applied : g11.fns "applied" = some ⟨[false, false], f_applied⟩ := Gx.add_at _ _ _
theorem q12_applied : g12.fns "applied" = some ⟨[false, false], f_applied⟩ := (Gx.add_ne g11 _ (by decide)).trans q11_applied
theorem q13_applied : g13.fns "applied" = some ⟨[false, false], f_applied⟩ := (Gx.add_ne g12 _ (by decide)).trans q12_applied
theorem q14_applied : g14.fns "applied" = some ⟨[false, false], f_applied⟩ := (Gx.add_ne g13 _ (by decide)).trans q13_applied
theorem q15_applied : g15.fns "applied" = some ⟨[false, false], f_applied⟩ := (Gx.add_ne g14 _ (by decide)).trans q14_applied
theorem q16_applied : g16.fns "applied" = some ⟨[false, false], f_applied⟩ := (Gx.add_ne g15 _ (by decide)).trans q15_applied
theorem q17_applied : g17.fns "applied" = some ⟨[false, false], f_applied⟩ := (Gx.add_ne g16 _ (by decide)).trans q16_applied
theorem q18_applied : g18.fns "applied" = some ⟨[false, false], f_applied⟩ := (Gx.add_ne g17 _ (by decide)).trans q17_applied
theorem q19_applied : g19.fns "applied" = some ⟨[false, false], f_applied⟩ := (Gx.add_ne g18 _ (by decide)).trans q18_applied
theorem q20_applied : g20.fns "applied" = some ⟨[false, false], f_applied⟩ := (Gx.add_ne g19 _ (by decide)).trans q19_applied
theorem q14_joined : g14.fns "joined" = some ⟨[false, false], f_joined⟩ := Gx.add_at _ _ _
theorem q15_joined : g15.fns "joined" = some ⟨[false, false], f_joined⟩ := (Gx.add_ne g14 _ (by decide)).trans q14_joined
theorem q16_joined : g16.fns "joined" = some ⟨[false, false], f_joined⟩ := (Gx.add_ne g15 _ (by decide)).trans q15_joined
theorem q17_joined : g17.fns "joined" = some ⟨[false, false], f_joined⟩ := (Gx.add_ne g16 _ (by decide)).trans q16_joined
theorem q18_joined : g18.fns "joined" = some ⟨[false, false], f_joined⟩ := (Gx.add_ne g17 _ (by decide)).trans q17_joined
theorem q19_joined : g19.fns "joined" = some ⟨[false, false], f_joined⟩ := (Gx.add_ne g18 _ (by decide)).trans q18_joined
theorem q20_joined : g20.fns "joined" = some ⟨[false, false], f_joined⟩ := (Gx.add_ne g19 _ (by decide)).trans q19_joined
def f_states_by : Fn := fnS g20 Lz.wfuel 9 2 Lz.i_states_by
def g21 : Gx := g20.add "states_by" ⟨[false, false], f_states_by⟩
theorem c_states_by : stG (cS (cc ["line", "inputs", "found", "vector", "word", "table", "ins", "outs", "here"] [2] [(83, [3, 8])] [] 20) 40 (defScope (tp 36)) 20) (defBody (tp 36)) = some Lz.i_states_by := by decide +kernel
theorem s_states_by : FnScope ["line", "inputs", "found", "vector", "word", "table", "ins", "outs", "here"] ["line", "inputs"] (defScope (tp 36)) := fnS_by (by decide +kernel)
theorem e_states_by : Lz.S_states_by f_states_by := Lz.ok_states_by q20_applied e_applied q20_joined e_joined
theorem q21_applied : g21.fns "applied" = some ⟨[false, false], f_applied⟩ := (Gx.add_ne g20 _ (by decide)).trans q20_applied
theorem q21_states_by : g21.fns "states_by" = some ⟨[false, false], f_states_by⟩ := Gx.add_at _ _ _
def f_outputs_by : Fn := fnS g21 Lz.wfuel 3 2 Lz.i_outputs_by
def g22 : Gx := g21.add "outputs_by" ⟨[false, false], f_outputs_by⟩
theorem c_outputs_by : stG (cS (cc ["line", "inputs", "state"] [] [] [] 21) 40 (defScope (tp 37)) 20) (defBody (tp 37)) = some Lz.i_outputs_by := by decide +kernel
theorem s_outputs_by : FnScope ["line", "inputs", "state"] ["line", "inputs"] (defScope (tp 37)) := fnS_by (by decide +kernel)
theorem e_outputs_by : Lz.S_outputs_by f_outputs_by := Lz.ok_outputs_by q21_applied e_applied q21_states_by e_states_by
theorem q13_product : g13.fns "product" = some ⟨[false, false], f_product⟩ := Gx.add_at _ _ _
theorem q14_product : g14.fns "product" = some ⟨[false, false], f_product⟩ := (Gx.add_ne g13 _ (by decide)).trans q13_product
theorem q15_product : g15.fns "product" = some ⟨[false, false], f_product⟩ := (Gx.add_ne g14 _ (by decide)).trans q14_product
theorem q16_product : g16.fns "product" = some ⟨[false, false], f_product⟩ := (Gx.add_ne g15 _ (by decide)).trans q15_product
theorem q17_product : g17.fns "product" = some ⟨[false, false], f_product⟩ := (Gx.add_ne g16 _ (by decide)).trans q16_product
theorem q18_product : g18.fns "product" = some ⟨[false, false], f_product⟩ := (Gx.add_ne g17 _ (by decide)).trans q17_product
theorem q19_product : g19.fns "product" = some ⟨[false, false], f_product⟩ := (Gx.add_ne g18 _ (by decide)).trans q18_product
theorem q20_product : g20.fns "product" = some ⟨[false, false], f_product⟩ := (Gx.add_ne g19 _ (by decide)).trans q19_product
theorem q21_product : g21.fns "product" = some ⟨[false, false], f_product⟩ := (Gx.add_ne g20 _ (by decide)).trans q20_product
theorem q22_product : g22.fns "product" = some ⟨[false, false], f_product⟩ := (Gx.add_ne g21 _ (by decide)).trans q21_product
def f_answers_by : Fn := fnS g22 Lz.wfuel 5 2 Lz.i_answers_by
def g23 : Gx := g22.add "answers_by" ⟨[false, false], f_answers_by⟩
theorem c_answers_by : stG (cS (cc ["line", "many", "turn", "here", "found"] [4] [(91, [2])] [] 22) 40 (defScope (tp 38)) 20) (defBody (tp 38)) = some Lz.i_answers_by := by decide +kernel
theorem s_answers_by : FnScope ["line", "many", "turn", "here", "found"] ["line", "many"] (defScope (tp 38)) := fnS_by (by decide +kernel)
theorem e_answers_by : Lz.S_answers_by f_answers_by := Lz.ok_answers_by q22_product e_product
theorem q20_inputs_of : g20.fns "inputs_of" = some ⟨[false], f_inputs_of⟩ := (Gx.add_ne g19 _ (by decide)).trans q19_inputs_of
theorem q21_inputs_of : g21.fns "inputs_of" = some ⟨[false], f_inputs_of⟩ := (Gx.add_ne g20 _ (by decide)).trans q20_inputs_of
theorem q22_inputs_of : g22.fns "inputs_of" = some ⟨[false], f_inputs_of⟩ := (Gx.add_ne g21 _ (by decide)).trans q21_inputs_of
theorem q23_inputs_of : g23.fns "inputs_of" = some ⟨[false], f_inputs_of⟩ := (Gx.add_ne g22 _ (by decide)).trans q22_inputs_of
theorem q19_is_list : g19.fns "is_list" = some ⟨[false], f_is_list⟩ := (Gx.add_ne g18 _ (by decide)).trans q18_is_list
theorem q20_is_list : g20.fns "is_list" = some ⟨[false], f_is_list⟩ := (Gx.add_ne g19 _ (by decide)).trans q19_is_list
theorem q21_is_list : g21.fns "is_list" = some ⟨[false], f_is_list⟩ := (Gx.add_ne g20 _ (by decide)).trans q20_is_list
theorem q22_is_list : g22.fns "is_list" = some ⟨[false], f_is_list⟩ := (Gx.add_ne g21 _ (by decide)).trans q21_is_list
theorem q23_is_list : g23.fns "is_list" = some ⟨[false], f_is_list⟩ := (Gx.add_ne g22 _ (by decide)).trans q22_is_list
theorem q15_is_tuple : g15.fns "is_tuple" = some ⟨[false, false], f_is_tuple⟩ := (Gx.add_ne g14 _ (by decide)).trans q14_is_tuple
theorem q16_is_tuple : g16.fns "is_tuple" = some ⟨[false, false], f_is_tuple⟩ := (Gx.add_ne g15 _ (by decide)).trans q15_is_tuple
theorem q17_is_tuple : g17.fns "is_tuple" = some ⟨[false, false], f_is_tuple⟩ := (Gx.add_ne g16 _ (by decide)).trans q16_is_tuple
theorem q18_is_tuple : g18.fns "is_tuple" = some ⟨[false, false], f_is_tuple⟩ := (Gx.add_ne g17 _ (by decide)).trans q17_is_tuple
theorem q19_is_tuple : g19.fns "is_tuple" = some ⟨[false, false], f_is_tuple⟩ := (Gx.add_ne g18 _ (by decide)).trans q18_is_tuple
theorem q20_is_tuple : g20.fns "is_tuple" = some ⟨[false, false], f_is_tuple⟩ := (Gx.add_ne g19 _ (by decide)).trans q19_is_tuple
theorem q21_is_tuple : g21.fns "is_tuple" = some ⟨[false, false], f_is_tuple⟩ := (Gx.add_ne g20 _ (by decide)).trans q20_is_tuple
theorem q22_is_tuple : g22.fns "is_tuple" = some ⟨[false, false], f_is_tuple⟩ := (Gx.add_ne g21 _ (by decide)).trans q21_is_tuple
theorem q23_is_tuple : g23.fns "is_tuple" = some ⟨[false, false], f_is_tuple⟩ := (Gx.add_ne g22 _ (by decide)).trans q22_is_tuple
theorem q10_is_within : g10.fns "is_within" = some ⟨[false, false, false], f_is_within⟩ := (Gx.add_ne g9 _ (by decide)).trans q9_is_within
theorem q11_is_within : g11.fns "is_within" = some ⟨[false, false, false], f_is_within⟩ := (Gx.add_ne g10 _ (by decide)).trans q10_is_within
theorem q12_is_within : g12.fns "is_within" = some ⟨[false, false, false], f_is_within⟩ := (Gx.add_ne g11 _ (by decide)).trans q11_is_within
theorem q13_is_within : g13.fns "is_within" = some ⟨[false, false, false], f_is_within⟩ := (Gx.add_ne g12 _ (by decide)).trans q12_is_within
theorem q14_is_within : g14.fns "is_within" = some ⟨[false, false, false], f_is_within⟩ := (Gx.add_ne g13 _ (by decide)).trans q13_is_within
theorem q15_is_within : g15.fns "is_within" = some ⟨[false, false, false], f_is_within⟩ := (Gx.add_ne g14 _ (by decide)).trans q14_is_within
theorem q16_is_within : g16.fns "is_within" = some ⟨[false, false, false], f_is_within⟩ := (Gx.add_ne g15 _ (by decide)).trans q15_is_within
theorem q17_is_within : g17.fns "is_within" = some ⟨[false, false, false], f_is_within⟩ := (Gx.add_ne g16 _ (by decide)).trans q16_is_within
theorem q18_is_within : g18.fns "is_within" = some ⟨[false, false, false], f_is_within⟩ := (Gx.add_ne g17 _ (by decide)).trans q17_is_within
theorem q19_is_within : g19.fns "is_within" = some ⟨[false, false, false], f_is_within⟩ := (Gx.add_ne g18 _ (by decide)).trans q18_is_within
theorem q20_is_within : g20.fns "is_within" = some ⟨[false, false, false], f_is_within⟩ := (Gx.add_ne g19 _ (by decide)).trans q19_is_within
theorem q21_is_within : g21.fns "is_within" = some ⟨[false, false, false], f_is_within⟩ := (Gx.add_ne g20 _ (by decide)).trans q20_is_within
theorem q22_is_within : g22.fns "is_within" = some ⟨[false, false, false], f_is_within⟩ := (Gx.add_ne g21 _ (by decide)).trans q21_is_within
theorem q23_is_within : g23.fns "is_within" = some ⟨[false, false, false], f_is_within⟩ := (Gx.add_ne g22 _ (by decide)).trans q22_is_within
theorem k23_MOST_TIME : g23.cons "MOST_TIME" = some (.int (1000000000)) := rfl
def f_are_delays : Fn := fnS g23 Lz.wfuel 5 3 Lz.i_are_delays
def g24 : Gx := g23.add "are_delays" ⟨[false, false, false], f_are_delays⟩
theorem c_are_delays : stG (cS (cc ["line", "inputs", "value", "one", "late"] [] [] [] 23) 40 (defScope (tp 40)) 20) (defBody (tp 40)) = some Lz.i_are_delays := by decide +kernel
theorem s_are_delays : FnScope ["line", "inputs", "value", "one", "late"] ["line", "inputs", "value"] (defScope (tp 40)) := fnS_by (by decide +kernel)
theorem e_are_delays : Lz.S_are_delays f_are_delays := Lz.ok_are_delays q23_is_list e_is_list q23_is_tuple e_is_tuple q23_inputs_of e_inputs_of q23_is_within e_is_within k23_MOST_TIME
theorem q13_then : g13.fns "then" = some ⟨[false, false], f_then⟩ := (Gx.add_ne g12 _ (by decide)).trans q12_then
theorem q14_then : g14.fns "then" = some ⟨[false, false], f_then⟩ := (Gx.add_ne g13 _ (by decide)).trans q13_then
theorem q15_then : g15.fns "then" = some ⟨[false, false], f_then⟩ := (Gx.add_ne g14 _ (by decide)).trans q14_then
theorem q16_then : g16.fns "then" = some ⟨[false, false], f_then⟩ := (Gx.add_ne g15 _ (by decide)).trans q15_then
theorem q17_then : g17.fns "then" = some ⟨[false, false], f_then⟩ := (Gx.add_ne g16 _ (by decide)).trans q16_then
theorem q18_then : g18.fns "then" = some ⟨[false, false], f_then⟩ := (Gx.add_ne g17 _ (by decide)).trans q17_then
theorem q19_then : g19.fns "then" = some ⟨[false, false], f_then⟩ := (Gx.add_ne g18 _ (by decide)).trans q18_then
theorem q20_then : g20.fns "then" = some ⟨[false, false], f_then⟩ := (Gx.add_ne g19 _ (by decide)).trans q19_then
theorem q21_then : g21.fns "then" = some ⟨[false, false], f_then⟩ := (Gx.add_ne g20 _ (by decide)).trans q20_then
theorem q22_then : g22.fns "then" = some ⟨[false, false], f_then⟩ := (Gx.add_ne g21 _ (by decide)).trans q21_then
theorem q23_then : g23.fns "then" = some ⟨[false, false], f_then⟩ := (Gx.add_ne g22 _ (by decide)).trans q22_then
theorem q24_then : g24.fns "then" = some ⟨[false, false], f_then⟩ := (Gx.add_ne g23 _ (by decide)).trans q23_then
def f_delayed : Fn := fnS g24 Lz.wfuel 6 2 Lz.i_delayed
def g25 : Gx := g24.add "delayed" ⟨[false, false], f_delayed⟩
theorem c_delayed : stG (cS (cc ["inputs", "delays", "vector", "row", "time", "late"] [] [] [] 24) 40 (defScope (tp 41)) 20) (defBody (tp 41)) = some Lz.i_delayed := by decide +kernel
theorem s_delayed : FnScope ["inputs", "delays", "vector", "row", "time", "late"] ["inputs", "delays"] (defScope (tp 41)) := fnS_by (by decide +kernel)
theorem e_delayed : Lz.S_delayed f_delayed := Lz.ok_delayed q24_then e_then
theorem q23_answers_by : g23.fns "answers_by" = some ⟨[false, false], f_answers_by⟩ := Gx.add_at _ _ _
theorem q24_answers_by : g24.fns "answers_by" = some ⟨[false, false], f_answers_by⟩ := (Gx.add_ne g23 _ (by decide)).trans q23_answers_by
theorem q25_answers_by : g25.fns "answers_by" = some ⟨[false, false], f_answers_by⟩ := (Gx.add_ne g24 _ (by decide)).trans q24_answers_by
theorem q22_outputs_by : g22.fns "outputs_by" = some ⟨[false, false], f_outputs_by⟩ := Gx.add_at _ _ _
theorem q23_outputs_by : g23.fns "outputs_by" = some ⟨[false, false], f_outputs_by⟩ := (Gx.add_ne g22 _ (by decide)).trans q22_outputs_by
theorem q24_outputs_by : g24.fns "outputs_by" = some ⟨[false, false], f_outputs_by⟩ := (Gx.add_ne g23 _ (by decide)).trans q23_outputs_by
theorem q25_outputs_by : g25.fns "outputs_by" = some ⟨[false, false], f_outputs_by⟩ := (Gx.add_ne g24 _ (by decide)).trans q24_outputs_by
theorem q25_then : g25.fns "then" = some ⟨[false, false], f_then⟩ := (Gx.add_ne g24 _ (by decide)).trans q24_then
def f_mattering_of : Fn := fnS g25 Lz.wfuel 10 4 Lz.i_mattering_of
def g26 : Gx := g25.add "mattering_of" ⟨[false, false, false, false], f_mattering_of⟩
theorem c_mattering_of : stG (cS (cc ["line", "inputs", "step", "output", "near", "answers", "goal", "found", "place", "time"] [7] [(104, [4, 8, 9]), (105, [8, 9])] [] 25) 40 (defScope (tp 42)) 20) (defBody (tp 42)) = some Lz.i_mattering_of := by decide +kernel
theorem s_mattering_of : FnScope ["line", "inputs", "step", "output", "near", "answers", "goal", "found", "place", "time"] ["line", "inputs", "step", "output"] (defScope (tp 42)) := fnS_by (by decide +kernel)
theorem e_mattering_of : Lz.S_mattering_of f_mattering_of := Lz.ok_mattering_of q25_answers_by e_answers_by q25_outputs_by e_outputs_by q25_then e_then
theorem q24_is_within : g24.fns "is_within" = some ⟨[false, false, false], f_is_within⟩ := (Gx.add_ne g23 _ (by decide)).trans q23_is_within
theorem q25_is_within : g25.fns "is_within" = some ⟨[false, false, false], f_is_within⟩ := (Gx.add_ne g24 _ (by decide)).trans q24_is_within
theorem q26_is_within : g26.fns "is_within" = some ⟨[false, false, false], f_is_within⟩ := (Gx.add_ne g25 _ (by decide)).trans q25_is_within
theorem q18_outputs_of : g18.fns "outputs_of" = some ⟨[false], f_outputs_of⟩ := Gx.add_at _ _ _
theorem q19_outputs_of : g19.fns "outputs_of" = some ⟨[false], f_outputs_of⟩ := (Gx.add_ne g18 _ (by decide)).trans q18_outputs_of
theorem q20_outputs_of : g20.fns "outputs_of" = some ⟨[false], f_outputs_of⟩ := (Gx.add_ne g19 _ (by decide)).trans q19_outputs_of
theorem q21_outputs_of : g21.fns "outputs_of" = some ⟨[false], f_outputs_of⟩ := (Gx.add_ne g20 _ (by decide)).trans q20_outputs_of
theorem q22_outputs_of : g22.fns "outputs_of" = some ⟨[false], f_outputs_of⟩ := (Gx.add_ne g21 _ (by decide)).trans q21_outputs_of
theorem q23_outputs_of : g23.fns "outputs_of" = some ⟨[false], f_outputs_of⟩ := (Gx.add_ne g22 _ (by decide)).trans q22_outputs_of
theorem q24_outputs_of : g24.fns "outputs_of" = some ⟨[false], f_outputs_of⟩ := (Gx.add_ne g23 _ (by decide)).trans q23_outputs_of
theorem q25_outputs_of : g25.fns "outputs_of" = some ⟨[false], f_outputs_of⟩ := (Gx.add_ne g24 _ (by decide)).trans q24_outputs_of
theorem q26_outputs_of : g26.fns "outputs_of" = some ⟨[false], f_outputs_of⟩ := (Gx.add_ne g25 _ (by decide)).trans q25_outputs_of
theorem q20_want_inputs : g20.fns "want_inputs" = some ⟨[false, false], f_want_inputs⟩ := Gx.add_at _ _ _
theorem q21_want_inputs : g21.fns "want_inputs" = some ⟨[false, false], f_want_inputs⟩ := (Gx.add_ne g20 _ (by decide)).trans q20_want_inputs
theorem q22_want_inputs : g22.fns "want_inputs" = some ⟨[false, false], f_want_inputs⟩ := (Gx.add_ne g21 _ (by decide)).trans q21_want_inputs
theorem q23_want_inputs : g23.fns "want_inputs" = some ⟨[false, false], f_want_inputs⟩ := (Gx.add_ne g22 _ (by decide)).trans q22_want_inputs
theorem q24_want_inputs : g24.fns "want_inputs" = some ⟨[false, false], f_want_inputs⟩ := (Gx.add_ne g23 _ (by decide)).trans q23_want_inputs
theorem q25_want_inputs : g25.fns "want_inputs" = some ⟨[false, false], f_want_inputs⟩ := (Gx.add_ne g24 _ (by decide)).trans q24_want_inputs
theorem q26_want_inputs : g26.fns "want_inputs" = some ⟨[false, false], f_want_inputs⟩ := (Gx.add_ne g25 _ (by decide)).trans q25_want_inputs
def f_want_asked : Fn := fnS g26 Lz.wfuel 4 4 Lz.i_want_asked
def g27 : Gx := g26.add "want_asked" ⟨[false, false, false, false], f_want_asked⟩
theorem c_want_asked : stG (cS (cc ["line", "inputs", "step", "output"] [] [] [] 26) 40 (defScope (tp 43)) 20) (defBody (tp 43)) = some Lz.i_want_asked := by decide +kernel
theorem s_want_asked : FnScope ["line", "inputs", "step", "output"] ["line", "inputs", "step", "output"] (defScope (tp 43)) := fnS_by (by decide +kernel)
theorem e_want_asked : Lz.S_want_asked f_want_asked := Lz.ok_want_asked q26_want_inputs e_want_inputs q26_is_within e_is_within q26_outputs_of e_outputs_of
theorem q24_are_delays : g24.fns "are_delays" = some ⟨[false, false, false], f_are_delays⟩ := Gx.add_at _ _ _
theorem q25_are_delays : g25.fns "are_delays" = some ⟨[false, false, false], f_are_delays⟩ := (Gx.add_ne g24 _ (by decide)).trans q24_are_delays
theorem q26_are_delays : g26.fns "are_delays" = some ⟨[false, false, false], f_are_delays⟩ := (Gx.add_ne g25 _ (by decide)).trans q25_are_delays
theorem q27_are_delays : g27.fns "are_delays" = some ⟨[false, false, false], f_are_delays⟩ := (Gx.add_ne g26 _ (by decide)).trans q26_are_delays
theorem q25_delayed : g25.fns "delayed" = some ⟨[false, false], f_delayed⟩ := Gx.add_at _ _ _
theorem q26_delayed : g26.fns "delayed" = some ⟨[false, false], f_delayed⟩ := (Gx.add_ne g25 _ (by decide)).trans q25_delayed
theorem q27_delayed : g27.fns "delayed" = some ⟨[false, false], f_delayed⟩ := (Gx.add_ne g26 _ (by decide)).trans q26_delayed
theorem q26_outputs_by : g26.fns "outputs_by" = some ⟨[false, false], f_outputs_by⟩ := (Gx.add_ne g25 _ (by decide)).trans q25_outputs_by
theorem q27_outputs_by : g27.fns "outputs_by" = some ⟨[false, false], f_outputs_by⟩ := (Gx.add_ne g26 _ (by decide)).trans q26_outputs_by
theorem q27_want_inputs : g27.fns "want_inputs" = some ⟨[false, false], f_want_inputs⟩ := (Gx.add_ne g26 _ (by decide)).trans q26_want_inputs
def f_late_outputs : Fn := fnS g27 Lz.wfuel 8 3 Lz.i_late_outputs
def g28 : Gx := g27.add "late_outputs" ⟨[false, false, false], f_late_outputs⟩
theorem c_late_outputs : stG (cS (cc ["line", "inputs", "delays", "found", "near", "far", "one", "late"] [3] [(120, [4, 5, 6, 7])] [] 27) 40 (defScope (tp 44)) 20) (defBody (tp 44)) = some Lz.i_late_outputs := by decide +kernel
theorem s_late_outputs : FnScope ["line", "inputs", "delays", "found", "near", "far", "one", "late"] ["line", "inputs", "delays"] (defScope (tp 44)) := fnS_by (by decide +kernel)
theorem e_late_outputs : Lz.S_late_outputs f_late_outputs := Lz.ok_late_outputs q27_want_inputs e_want_inputs q27_are_delays e_are_delays q27_outputs_by e_outputs_by q27_delayed e_delayed
theorem q26_mattering_of : g26.fns "mattering_of" = some ⟨[false, false, false, false], f_mattering_of⟩ := Gx.add_at _ _ _
theorem q27_mattering_of : g27.fns "mattering_of" = some ⟨[false, false, false, false], f_mattering_of⟩ := (Gx.add_ne g26 _ (by decide)).trans q26_mattering_of
theorem q28_mattering_of : g28.fns "mattering_of" = some ⟨[false, false, false, false], f_mattering_of⟩ := (Gx.add_ne g27 _ (by decide)).trans q27_mattering_of
theorem q27_want_asked : g27.fns "want_asked" = some ⟨[false, false, false, false], f_want_asked⟩ := Gx.add_at _ _ _
theorem q28_want_asked : g28.fns "want_asked" = some ⟨[false, false, false, false], f_want_asked⟩ := (Gx.add_ne g27 _ (by decide)).trans q27_want_asked
def f_mattering_inputs : Fn := fnS g28 Lz.wfuel 4 4 Lz.i_mattering_inputs
def g29 : Gx := g28.add "mattering_inputs" ⟨[false, false, false, false], f_mattering_inputs⟩
theorem c_mattering_inputs : stG (cS (cc ["line", "inputs", "step", "output"] [] [] [] 28) 40 (defScope (tp 45)) 20) (defBody (tp 45)) = some Lz.i_mattering_inputs := by decide +kernel
theorem s_mattering_inputs : FnScope ["line", "inputs", "step", "output"] ["line", "inputs", "step", "output"] (defScope (tp 45)) := fnS_by (by decide +kernel)
theorem e_mattering_inputs : Lz.S_mattering_inputs f_mattering_inputs := Lz.ok_mattering_inputs q28_want_asked e_want_asked q28_mattering_of e_mattering_of
def f_l_pot : Fn := fnS g29 Lz.wfuel 3 2 (Lz.i_l_pot (3109) (40014) (4001))
def g30 : Gx := g29.add "_law_pot" ⟨[false, false], f_l_pot⟩
theorem c_l_pot : stG (cS (cc ["script", "k", "cell"] [] [] [] 29) 40 (defScope (tp 47)) 20) (defBody (tp 47)) = some (Lz.i_l_pot (3109) (40014) (4001)) := by decide +kernel
theorem s_l_pot : FnScope ["script", "k", "cell"] ["script", "k"] (defScope (tp 47)) := fnS_by (by decide +kernel)
theorem e_l_pot : Lz.S_pot f_l_pot := Lz.ok_l_pot (3109) (40014) (4001) (by decide)
def f_l_draw : Fn := fnS g30 Lz.wfuel 3 2 (Lz.i_l_draw (4001) (113))
def g31 : Gx := g30.add "_law_draw" ⟨[true, false], f_l_draw⟩
theorem c_l_draw : stG (cS (cc ["pot", "many", "digit"] [0] [] [] 30) 40 (defScope (tp 48)) 20) (defBody (tp 48)) = some (Lz.i_l_draw (4001) (113)) := by decide +kernel
theorem s_l_draw : FnScope ["pot", "many", "digit"] ["pot", "many"] (defScope (tp 48)) := fnS_by (by decide +kernel)
theorem e_l_draw : Lz.S_draw f_l_draw := Lz.ok_l_draw (4001) (113) (by decide)
theorem q31_l_draw : g31.fns "_law_draw" = some ⟨[true, false], f_l_draw⟩ := Gx.add_at _ _ _
def f_l_pick : Fn := fnS g31 Lz.wfuel 2 2 Lz.i_l_pick
def g32 : Gx := g31.add "_law_pick" ⟨[true, false], f_l_pick⟩
theorem c_l_pick : stG (cS (cc ["pot", "some"] [0] [] [] 31) 40 (defScope (tp 49)) 20) (defBody (tp 49)) = some Lz.i_l_pick := by decide +kernel
theorem s_l_pick : FnScope ["pot", "some"] ["pot", "some"] (defScope (tp 49)) := fnS_by (by decide +kernel)
theorem e_l_pick : Lz.S_pick f_l_pick := Lz.ok_l_pick q31_l_draw e_l_draw
theorem q32_l_draw : g32.fns "_law_draw" = some ⟨[true, false], f_l_draw⟩ := (Gx.add_ne g31 _ (by decide)).trans q31_l_draw
theorem q32_l_pick : g32.fns "_law_pick" = some ⟨[true, false], f_l_pick⟩ := Gx.add_at _ _ _
def f_l_entry : Fn := fnS g32 Lz.wfuel 2 1 Lz.i_l_entry
def g33 : Gx := g32.add "_law_entry" ⟨[true], f_l_entry⟩
theorem c_l_entry : stG (cS (cc ["pot", "digit"] [0] [] [] 32) 40 (defScope (tp 50)) 20) (defBody (tp 50)) = some Lz.i_l_entry := by decide +kernel
theorem s_l_entry : FnScope ["pot", "digit"] ["pot"] (defScope (tp 50)) := fnS_by (by decide +kernel)
theorem e_l_entry : Lz.S_l_entry f_l_entry := Lz.ok_l_entry q32_l_draw e_l_draw q32_l_pick e_l_pick
theorem q33_l_entry : g33.fns "_law_entry" = some ⟨[true], f_l_entry⟩ := Gx.add_at _ _ _
def f_l_table : Fn := fnS g33 Lz.wfuel 5 3 Lz.i_l_table
def g34 : Gx := g33.add "_law_table" ⟨[true, false, false], f_l_table⟩
theorem c_l_table : stG (cS (cc ["pot", "rows", "columns", "near", "far"] [0] [] [] 33) 40 (defScope (tp 51)) 20) (defBody (tp 51)) = some Lz.i_l_table := by decide +kernel
theorem s_l_table : FnScope ["pot", "rows", "columns", "near", "far"] ["pot", "rows", "columns"] (defScope (tp 51)) := fnS_by (by decide +kernel)
theorem e_l_table : Lz.S_l_table f_l_table := Lz.ok_l_table q33_l_entry e_l_entry
theorem q33_l_draw : g33.fns "_law_draw" = some ⟨[true, false], f_l_draw⟩ := (Gx.add_ne g32 _ (by decide)).trans q32_l_draw
theorem q34_l_draw : g34.fns "_law_draw" = some ⟨[true, false], f_l_draw⟩ := (Gx.add_ne g33 _ (by decide)).trans q33_l_draw
theorem q34_l_table : g34.fns "_law_table" = some ⟨[true, false, false], f_l_table⟩ := Gx.add_at _ _ _
def f_l_line : Fn := fnS g34 Lz.wfuel 5 2 Lz.i_l_line
def g35 : Gx := g34.add "_law_line" ⟨[true, false], f_l_line⟩
theorem c_l_line : stG (cS (cc ["pot", "most", "places", "ins", "outs"] [0] [] [] 34) 40 (defScope (tp 52)) 20) (defBody (tp 52)) = some Lz.i_l_line := by decide +kernel
theorem s_l_line : FnScope ["pot", "most", "places", "ins", "outs"] ["pot", "most"] (defScope (tp 52)) := fnS_by (by decide +kernel)
theorem e_l_line : Lz.S_l_line f_l_line := Lz.ok_l_line q34_l_draw e_l_draw q34_l_table e_l_table
theorem q35_l_draw : g35.fns "_law_draw" = some ⟨[true, false], f_l_draw⟩ := (Gx.add_ne g34 _ (by decide)).trans q34_l_draw
theorem q33_l_pick : g33.fns "_law_pick" = some ⟨[true, false], f_l_pick⟩ := (Gx.add_ne g32 _ (by decide)).trans q32_l_pick
theorem q34_l_pick : g34.fns "_law_pick" = some ⟨[true, false], f_l_pick⟩ := (Gx.add_ne g33 _ (by decide)).trans q33_l_pick
theorem q35_l_pick : g35.fns "_law_pick" = some ⟨[true, false], f_l_pick⟩ := (Gx.add_ne g34 _ (by decide)).trans q34_l_pick
def f_l_vectors : Fn := fnS g35 Lz.wfuel 7 3 Lz.i_l_vectors
def g36 : Gx := g35.add "_law_vectors" ⟨[true, false, false], f_l_vectors⟩
theorem c_l_vectors : stG (cS (cc ["pot", "steps", "many", "turn", "found", "great", "one"] [0, 4] [(148, [3, 6])] [] 35) 40 (defScope (tp 53)) 20) (defBody (tp 53)) = some Lz.i_l_vectors := by decide +kernel
theorem s_l_vectors : FnScope ["pot", "steps", "many", "turn", "found", "great", "one"] ["pot", "steps", "many"] (defScope (tp 53)) := fnS_by (by decide +kernel)
theorem e_l_vectors : Lz.S_l_vectors f_l_vectors := Lz.ok_l_vectors q35_l_draw e_l_draw q35_l_pick e_l_pick
def f_l_latest : Fn := fnS g36 Lz.wfuel 3 1 Lz.i_l_latest
def g37 : Gx := g36.add "_law_latest" ⟨[false], f_l_latest⟩
theorem c_l_latest : stG (cS (cc ["some", "times", "one"] [] [] [] 36) 40 (defScope (tp 54)) 20) (defBody (tp 54)) = some Lz.i_l_latest := by decide +kernel
theorem s_l_latest : FnScope ["some", "times", "one"] ["some"] (defScope (tp 54)) := fnS_by (by decide +kernel)
theorem e_l_latest : Lz.S_latest f_l_latest := Lz.ok_l_latest 
def f_l_plus : Fn := fnS g37 Lz.wfuel 2 2 Lz.i_l_plus
def g38 : Gx := g37.add "_law_plus" ⟨[false, false], f_l_plus⟩
theorem c_l_plus : stG (cS (cc ["one", "other"] [] [] [] 37) 40 (defScope (tp 55)) 20) (defBody (tp 55)) = some Lz.i_l_plus := by decide +kernel
theorem s_l_plus : FnScope ["one", "other"] ["one", "other"] (defScope (tp 55)) := fnS_by (by decide +kernel)
theorem e_l_plus : Lz.S_then f_l_plus := Lz.ok_l_plus 
theorem q37_l_latest : g37.fns "_law_latest" = some ⟨[false], f_l_latest⟩ := Gx.add_at _ _ _
theorem q38_l_latest : g38.fns "_law_latest" = some ⟨[false], f_l_latest⟩ := (Gx.add_ne g37 _ (by decide)).trans q37_l_latest
theorem q38_l_plus : g38.fns "_law_plus" = some ⟨[false, false], f_l_plus⟩ := Gx.add_at _ _ _
def f_l_rows : Fn := fnS g38 Lz.wfuel 6 2 Lz.i_l_rows
def g39 : Gx := g38.add "_law_rows" ⟨[false, false], f_l_rows⟩
theorem c_l_rows : stG (cS (cc ["table", "vector", "found", "row", "entry", "time"] [2] [(158, [3, 4, 5])] [] 38) 40 (defScope (tp 56)) 20) (defBody (tp 56)) = some Lz.i_l_rows := by decide +kernel
theorem s_l_rows : FnScope ["table", "vector", "found", "row", "entry", "time"] ["table", "vector"] (defScope (tp 56)) := fnS_by (by decide +kernel)
theorem e_l_rows : Lz.S_l_rows f_l_rows := Lz.ok_l_rows q38_l_plus e_l_plus q38_l_latest e_l_latest
theorem q39_l_latest : g39.fns "_law_latest" = some ⟨[false], f_l_latest⟩ := (Gx.add_ne g38 _ (by decide)).trans q38_l_latest
theorem q39_l_rows : g39.fns "_law_rows" = some ⟨[false, false], f_l_rows⟩ := Gx.add_at _ _ _
def f_l_states : Fn := fnS g39 Lz.wfuel 9 2 Lz.i_l_states
def g40 : Gx := g39.add "_law_states" ⟨[false, false], f_l_states⟩
theorem c_l_states : stG (cS (cc ["line", "inputs", "vector", "found", "last", "near", "far", "one", "other"] [3] [(163, [2, 5, 6, 7, 8])] [] 39) 40 (defScope (tp 57)) 20) (defBody (tp 57)) = some Lz.i_l_states := by decide +kernel
theorem s_l_states : FnScope ["line", "inputs", "vector", "found", "last", "near", "far", "one", "other"] ["line", "inputs"] (defScope (tp 57)) := fnS_by (by decide +kernel)
theorem e_l_states : Lz.S_l_states f_l_states := Lz.ok_l_states q39_l_rows e_l_rows q39_l_latest e_l_latest
theorem q40_l_rows : g40.fns "_law_rows" = some ⟨[false, false], f_l_rows⟩ := (Gx.add_ne g39 _ (by decide)).trans q39_l_rows
theorem q40_l_states : g40.fns "_law_states" = some ⟨[false, false], f_l_states⟩ := Gx.add_at _ _ _
def f_l_outputs : Fn := fnS g40 Lz.wfuel 3 2 Lz.i_l_outputs
def g41 : Gx := g40.add "_law_outputs" ⟨[false, false], f_l_outputs⟩
theorem c_l_outputs : stG (cS (cc ["line", "inputs", "state"] [] [] [] 40) 40 (defScope (tp 58)) 20) (defBody (tp 58)) = some Lz.i_l_outputs := by decide +kernel
theorem s_l_outputs : FnScope ["line", "inputs", "state"] ["line", "inputs"] (defScope (tp 58)) := fnS_by (by decide +kernel)
theorem e_l_outputs : Lz.S_l_outputs f_l_outputs := Lz.ok_l_outputs q40_l_rows e_l_rows q40_l_states e_l_states
def i_l_even_vectors_c1e : I := (.call "_law_pick" (.cons (.var 0) (.cons (.lst (.cons .non (.cons (.int (0)) (.cons (.int (0)) (.cons (.int (1)) (.cons (.int (2)) (.cons (.int (4)) .nil))))))) .nil)) [])
def i_l_even_vectors_c1 : I := (.lc i_l_even_vectors_c1e (.tnm 4) (.irg (.var 2)) (.bl true) [4])
@[simp] theorem v_i_l_even_vectors_c1 : varI i_l_even_vectors_c1 = none := rfl
def i_l_even_vectors_c0e : I := (.blt "tuple" (.cons i_l_even_vectors_c1 .nil))
def i_l_even_vectors_c0 : I := (.lc i_l_even_vectors_c0e (.tnm 3) (.irg (.var 1)) (.bl true) [3])
@[simp] theorem v_i_l_even_vectors_c0 : varI i_l_even_vectors_c0 = none := rfl
def i_l_even_vectors : I := (.scons (.sret i_l_even_vectors_c0) .snil)
theorem q36_l_pick : g36.fns "_law_pick" = some ⟨[true, false], f_l_pick⟩ := (Gx.add_ne g35 _ (by decide)).trans q35_l_pick
theorem q37_l_pick : g37.fns "_law_pick" = some ⟨[true, false], f_l_pick⟩ := (Gx.add_ne g36 _ (by decide)).trans q36_l_pick
theorem q38_l_pick : g38.fns "_law_pick" = some ⟨[true, false], f_l_pick⟩ := (Gx.add_ne g37 _ (by decide)).trans q37_l_pick
theorem q39_l_pick : g39.fns "_law_pick" = some ⟨[true, false], f_l_pick⟩ := (Gx.add_ne g38 _ (by decide)).trans q38_l_pick
theorem q40_l_pick : g40.fns "_law_pick" = some ⟨[true, false], f_l_pick⟩ := (Gx.add_ne g39 _ (by decide)).trans q39_l_pick
theorem q41_l_pick : g41.fns "_law_pick" = some ⟨[true, false], f_l_pick⟩ := (Gx.add_ne g40 _ (by decide)).trans q40_l_pick
def f_l_even_vectors : Fn := fnS g41 Lz.wfuel 5 3 i_l_even_vectors
def g42 : Gx := g41.add "_law_even_vectors" ⟨[true, false, false], f_l_even_vectors⟩
theorem c_l_even_vectors : stG (cS (cc ["pot", "steps", "many", "turn", "one"] [0] [] [] 41) 40 (defScope (tp 60)) 20) (defBody (tp 60)) = some i_l_even_vectors := by decide +kernel
theorem s_l_even_vectors : FnScope ["pot", "steps", "many", "turn", "one"] ["pot", "steps", "many"] (defScope (tp 60)) := fnS_by (by decide +kernel)
def i_l_moved : I := (.scons (.sown 4 (.blt "list" (.cons (.var 0) .nil))) (.scons (.sidx 4 (.var 1) (.bin .Add (.bin .Add (.slc (.idx (.var 4) (.var 1)) .abs (.var 2)) (.tup (.cons (.call "_law_plus" (.cons (.idx (.idx (.var 4) (.var 1)) (.var 2)) (.cons (.var 3) .nil)) []) .nil))) (.slc (.idx (.var 4) (.var 1)) (.bin .Add (.var 2) (.int (1))) .abs))) (.scons (.sretv 4) .snil)))
theorem q39_l_plus : g39.fns "_law_plus" = some ⟨[false, false], f_l_plus⟩ := (Gx.add_ne g38 _ (by decide)).trans q38_l_plus
theorem q40_l_plus : g40.fns "_law_plus" = some ⟨[false, false], f_l_plus⟩ := (Gx.add_ne g39 _ (by decide)).trans q39_l_plus
theorem q41_l_plus : g41.fns "_law_plus" = some ⟨[false, false], f_l_plus⟩ := (Gx.add_ne g40 _ (by decide)).trans q40_l_plus
theorem q42_l_plus : g42.fns "_law_plus" = some ⟨[false, false], f_l_plus⟩ := (Gx.add_ne g41 _ (by decide)).trans q41_l_plus
def f_l_moved : Fn := fnS g42 Lz.wfuel 5 4 i_l_moved
def g43 : Gx := g42.add "_law_moved" ⟨[false, false, false, false], f_l_moved⟩
theorem c_l_moved : stG (cS (cc ["inputs", "step", "place", "more", "late"] [4] [] [] 42) 40 (defScope (tp 61)) 20) (defBody (tp 61)) = some i_l_moved := by decide +kernel
theorem s_l_moved : FnScope ["inputs", "step", "place", "more", "late"] ["inputs", "step", "place", "more"] (defScope (tp 61)) := fnS_by (by decide +kernel)
def i_l_matters_c0e : I := (.bin .Mult (.tup (.cons .non .nil)) (.blt "len" (.cons (.idx (.var 1) (.int (0))) .nil)))
def i_l_matters_c0 : I := (.lc i_l_matters_c0e (.tnm 9) (.iv (.var 1)) (.bl true) [9])
@[simp] theorem v_i_l_matters_c0 : varI i_l_matters_c0 = none := rfl
def i_l_matters_c1e : I := (.ite (.cmp .Eq (.var 10) (.var 6)) (.var 7) .non)
def i_l_matters_c1 : I := (.lc i_l_matters_c1e (.tnm 10) (.irg (.blt "len" (.cons (.idx (.var 1) (.int (0))) .nil))) (.bl true) [10])
@[simp] theorem v_i_l_matters_c1 : varI i_l_matters_c1 = none := rfl
def i_l_matters_w1b : I := (.sfg [6, 7, 8, 9, 10] (.scons (.sown 8 i_l_matters_c0) (.scons (.sidx 8 (.var 3) (.blt "tuple" (.cons i_l_matters_c1 .nil))) (.scons (.sif (.bor 8 (.cmp .Eq (.idx (.idx (.call "_law_outputs" (.cons (.var 0) (.cons (.var 8) .nil)) []) (.idx (.var 2) (.int (0)))) (.idx (.var 2) (.int (1)))) (.var 5))) (.scons (.sapp 4 (.tup (.cons (.var 3) (.cons (.var 6) .nil)))) .snil) .snil) .snil))))
def i_l_matters_w1 : I := (.sfor (.ttp (.cons (.tnm 6) (.cons (.tnm 7) .nil))) (.ien (.idx (.var 1) (.var 3))) i_l_matters_w1b)
def i_l_matters_w0b : I := (.sfg [3, 6, 7, 8, 9, 10] (.scons (.sfg [6, 7, 8, 9, 10] i_l_matters_w1) .snil))
def i_l_matters_w0 : I := (.sfor (.tnm 3) (.irg (.ite (.cmp .IsNot (.var 5) .non) (.bin .Add (.idx (.var 2) (.int (0))) (.int (1))) (.int (0)))) i_l_matters_w0b)
def i_l_matters : I := (.scons (.spar [(4, true), (5, false)] (.cons (.lst .nil) (.cons (.idx (.idx (.call "_law_outputs" (.cons (.var 0) (.cons (.var 1) .nil)) []) (.idx (.var 2) (.int (0)))) (.idx (.var 2) (.int (1)))) .nil))) (.scons (.sfg [3, 6, 7, 8, 9, 10] i_l_matters_w0) (.scons (.sretv 4) .snil)))
theorem q41_l_outputs : g41.fns "_law_outputs" = some ⟨[false, false], f_l_outputs⟩ := Gx.add_at _ _ _
theorem q42_l_outputs : g42.fns "_law_outputs" = some ⟨[false, false], f_l_outputs⟩ := (Gx.add_ne g41 _ (by decide)).trans q41_l_outputs
theorem q43_l_outputs : g43.fns "_law_outputs" = some ⟨[false, false], f_l_outputs⟩ := (Gx.add_ne g42 _ (by decide)).trans q42_l_outputs
def f_l_matters : Fn := fnS g43 Lz.wfuel 11 3 i_l_matters
def g44 : Gx := g43.add "_law_matters" ⟨[false, false, false], f_l_matters⟩
theorem c_l_matters : stG (cS (cc ["line", "inputs", "goal", "step", "found", "time", "place", "one", "alone", "turn", "far"] [4, 8] [(191, [3, 6, 7, 8, 9, 10]), (192, [6, 7, 8, 9, 10])] [(195, [8])] 43) 40 (defScope (tp 62)) 20) (defBody (tp 62)) = some i_l_matters := by decide +kernel
theorem s_l_matters : FnScope ["line", "inputs", "goal", "step", "found", "time", "place", "one", "alone", "turn", "far"] ["line", "inputs", "goal"] (defScope (tp 62)) := fnS_by (by decide +kernel)
def i_l_late_c1e : I := (.call "_law_plus" (.cons (.var 9) (.cons (.var 10) .nil)) [])
def i_l_late_c1 : I := (.lc i_l_late_c1e (.ttp (.cons (.tnm 9) (.cons (.tnm 10) .nil))) (.izp (.var 7) (.var 8)) (.bl true) [9, 10])
@[simp] theorem v_i_l_late_c1 : varI i_l_late_c1 = none := rfl
def i_l_late_c0e : I := (.blt "tuple" (.cons i_l_late_c1 .nil))
def i_l_late_c0 : I := (.lc i_l_late_c0e (.ttp (.cons (.tnm 7) (.cons (.tnm 8) .nil))) (.izp (.var 1) (.var 2)) (.bl true) [7, 8])
@[simp] theorem v_i_l_late_c0 : varI i_l_late_c0 = none := rfl
def i_l_late_c2e : I := (.ite (.cmp .Is (.var 11) .non) .non (.bin .Sub (.var 12) (.var 11)))
def i_l_late_c2 : I := (.lc i_l_late_c2e (.ttp (.cons (.tnm 11) (.cons (.tnm 12) .nil))) (.izp (.var 5) (.var 6)) (.bl true) [11, 12])
@[simp] theorem v_i_l_late_c2 : varI i_l_late_c2 = none := rfl
def i_l_late_w0b : I := (.sfg [5, 6, 11, 12] (.scons (.sapp 4 (.blt "tuple" (.cons i_l_late_c2 .nil))) .snil))
def i_l_late_w0 : I := (.sfor (.ttp (.cons (.tnm 5) (.cons (.tnm 6) .nil))) (.izp (.call "_law_outputs" (.cons (.var 0) (.cons (.var 1) .nil)) []) (.call "_law_outputs" (.cons (.var 0) (.cons (.var 3) .nil)) [])) i_l_late_w0b)
def i_l_late : I := (.scons (.sset 3 i_l_late_c0) (.scons (.sown 4 (.lst .nil)) (.scons (.sfg [5, 6, 11, 12] i_l_late_w0) (.scons (.sretv 4) .snil))))
theorem q44_l_outputs : g44.fns "_law_outputs" = some ⟨[false, false], f_l_outputs⟩ := (Gx.add_ne g43 _ (by decide)).trans q43_l_outputs
theorem q43_l_plus : g43.fns "_law_plus" = some ⟨[false, false], f_l_plus⟩ := (Gx.add_ne g42 _ (by decide)).trans q42_l_plus
theorem q44_l_plus : g44.fns "_law_plus" = some ⟨[false, false], f_l_plus⟩ := (Gx.add_ne g43 _ (by decide)).trans q43_l_plus
def f_l_late : Fn := fnS g44 Lz.wfuel 13 3 i_l_late
def g45 : Gx := g44.add "_law_late" ⟨[false, false, false], f_l_late⟩
theorem c_l_late : stG (cS (cc ["line", "inputs", "delays", "late", "found", "near", "far", "vector", "row", "time", "more", "one", "other"] [4] [(201, [5, 6, 11, 12])] [] 44) 40 (defScope (tp 63)) 20) (defBody (tp 63)) = some i_l_late := by decide +kernel
theorem s_l_late : FnScope ["line", "inputs", "delays", "late", "found", "near", "far", "vector", "row", "time", "more", "one", "other"] ["line", "inputs", "delays"] (defScope (tp 63)) := fnS_by (by decide +kernel)
def i_l_delays_right_c0e : I := (.blt "max" (.cons (.var 8) .nil))
def i_l_delays_right_c0 : I := (.lc i_l_delays_right_c0e (.tnm 8) (.iv (.var 2)) (.bl true) [8])
@[simp] theorem v_i_l_delays_right_c0 : varI i_l_delays_right_c0 = none := rfl
def i_l_delays_right_c1e : I := (.idx (.idx (.var 2) (.var 12)) (.var 13))
def i_l_delays_right_c1 : I := (.lc i_l_delays_right_c1e (.ttp (.cons (.tnm 12) (.cons (.tnm 13) .nil))) (.iv (.call "mattering_inputs" (.cons (.var 0) (.cons (.var 1) (.cons (.var 7) (.cons (.var 9) .nil)))) [])) (.bl true) [12, 13])
@[simp] theorem v_i_l_delays_right_c1 : varI i_l_delays_right_c1 = none := rfl
def i_l_delays_right_w1b : I := (.sfg [9, 10, 11, 12, 13] (.scons (.sset 11 i_l_delays_right_c1) (.scons (.sif (.and (.cmp .IsNot (.var 10) .non) (.inot (.cmp2 .LtE .LtE (.blt "max" (.cons (.var 11) .nil)) (.var 10) (.var 4)))) (.scons (.sret (.bl false)) .snil) .snil) .snil)))
def i_l_delays_right_w1 : I := (.sfor (.ttp (.cons (.tnm 9) (.cons (.tnm 10) .nil))) (.ien (.var 8)) i_l_delays_right_w1b)
def i_l_delays_right_w0b : I := (.sfg [7, 8, 9, 10, 11, 12, 13] (.scons (.sfg [9, 10, 11, 12, 13] i_l_delays_right_w1) .snil))
def i_l_delays_right_w0 : I := (.sfor (.ttp (.cons (.tnm 7) (.cons (.tnm 8) .nil))) (.ien (.var 5)) i_l_delays_right_w0b)
def i_l_delays_right : I := (.scons (.spar [(5, false), (6, false)] (.cons (.call "_law_late" (.cons (.var 0) (.cons (.var 1) (.cons (.var 2) .nil))) []) (.cons (.pkb "repr" 2) .nil))) (.scons (.sown 3 (.call "late_outputs" (.cons (.var 0) (.cons (.var 1) (.cons (.var 2) .nil))) [])) (.scons (.sif (.bor 3 (.or (.cmp .NotEq (.blt "repr" (.cons (.lst (.cons (.var 3) (.cons (.call "late_outputs" (.cons (.blt "tuple" (.cons (.var 2) .nil)) (.cons (.blt "tuple" (.cons (.var 1) .nil)) (.cons (.var 0) .nil))) [2, 1, 0]) .nil))) .nil)) (.blt "repr" (.cons (.lst (.cons (.var 5) (.cons (.var 5) .nil))) .nil))) (.cmp .NotEq (.pkb "repr" 2) (.var 6)))) (.scons (.sret (.bl false)) .snil) .snil) (.scons (.sset 4 (.blt "max" (.cons i_l_delays_right_c0 .nil))) (.scons (.sfg [7, 8, 9, 10, 11, 12, 13] i_l_delays_right_w0) (.scons (.sapp 3 .non) (.scons (.sret (.cmp .Eq (.blt "repr" (.cons (.call "late_outputs" (.cons (.var 0) (.cons (.var 1) (.cons (.var 2) .nil))) []) .nil)) (.pkb "repr" 5))) .snil)))))))
theorem q45_l_late : g45.fns "_law_late" = some ⟨[false, false, false], f_l_late⟩ := Gx.add_at _ _ _
theorem q28_late_outputs : g28.fns "late_outputs" = some ⟨[false, false, false], f_late_outputs⟩ := Gx.add_at _ _ _
theorem q29_late_outputs : g29.fns "late_outputs" = some ⟨[false, false, false], f_late_outputs⟩ := (Gx.add_ne g28 _ (by decide)).trans q28_late_outputs
theorem q30_late_outputs : g30.fns "late_outputs" = some ⟨[false, false, false], f_late_outputs⟩ := (Gx.add_ne g29 _ (by decide)).trans q29_late_outputs
theorem q31_late_outputs : g31.fns "late_outputs" = some ⟨[false, false, false], f_late_outputs⟩ := (Gx.add_ne g30 _ (by decide)).trans q30_late_outputs
theorem q32_late_outputs : g32.fns "late_outputs" = some ⟨[false, false, false], f_late_outputs⟩ := (Gx.add_ne g31 _ (by decide)).trans q31_late_outputs
theorem q33_late_outputs : g33.fns "late_outputs" = some ⟨[false, false, false], f_late_outputs⟩ := (Gx.add_ne g32 _ (by decide)).trans q32_late_outputs
theorem q34_late_outputs : g34.fns "late_outputs" = some ⟨[false, false, false], f_late_outputs⟩ := (Gx.add_ne g33 _ (by decide)).trans q33_late_outputs
theorem q35_late_outputs : g35.fns "late_outputs" = some ⟨[false, false, false], f_late_outputs⟩ := (Gx.add_ne g34 _ (by decide)).trans q34_late_outputs
theorem q36_late_outputs : g36.fns "late_outputs" = some ⟨[false, false, false], f_late_outputs⟩ := (Gx.add_ne g35 _ (by decide)).trans q35_late_outputs
theorem q37_late_outputs : g37.fns "late_outputs" = some ⟨[false, false, false], f_late_outputs⟩ := (Gx.add_ne g36 _ (by decide)).trans q36_late_outputs
theorem q38_late_outputs : g38.fns "late_outputs" = some ⟨[false, false, false], f_late_outputs⟩ := (Gx.add_ne g37 _ (by decide)).trans q37_late_outputs
theorem q39_late_outputs : g39.fns "late_outputs" = some ⟨[false, false, false], f_late_outputs⟩ := (Gx.add_ne g38 _ (by decide)).trans q38_late_outputs
theorem q40_late_outputs : g40.fns "late_outputs" = some ⟨[false, false, false], f_late_outputs⟩ := (Gx.add_ne g39 _ (by decide)).trans q39_late_outputs
theorem q41_late_outputs : g41.fns "late_outputs" = some ⟨[false, false, false], f_late_outputs⟩ := (Gx.add_ne g40 _ (by decide)).trans q40_late_outputs
theorem q42_late_outputs : g42.fns "late_outputs" = some ⟨[false, false, false], f_late_outputs⟩ := (Gx.add_ne g41 _ (by decide)).trans q41_late_outputs
theorem q43_late_outputs : g43.fns "late_outputs" = some ⟨[false, false, false], f_late_outputs⟩ := (Gx.add_ne g42 _ (by decide)).trans q42_late_outputs
theorem q44_late_outputs : g44.fns "late_outputs" = some ⟨[false, false, false], f_late_outputs⟩ := (Gx.add_ne g43 _ (by decide)).trans q43_late_outputs
theorem q45_late_outputs : g45.fns "late_outputs" = some ⟨[false, false, false], f_late_outputs⟩ := (Gx.add_ne g44 _ (by decide)).trans q44_late_outputs
theorem q29_mattering_inputs : g29.fns "mattering_inputs" = some ⟨[false, false, false, false], f_mattering_inputs⟩ := Gx.add_at _ _ _
theorem q30_mattering_inputs : g30.fns "mattering_inputs" = some ⟨[false, false, false, false], f_mattering_inputs⟩ := (Gx.add_ne g29 _ (by decide)).trans q29_mattering_inputs
theorem q31_mattering_inputs : g31.fns "mattering_inputs" = some ⟨[false, false, false, false], f_mattering_inputs⟩ := (Gx.add_ne g30 _ (by decide)).trans q30_mattering_inputs
theorem q32_mattering_inputs : g32.fns "mattering_inputs" = some ⟨[false, false, false, false], f_mattering_inputs⟩ := (Gx.add_ne g31 _ (by decide)).trans q31_mattering_inputs
theorem q33_mattering_inputs : g33.fns "mattering_inputs" = some ⟨[false, false, false, false], f_mattering_inputs⟩ := (Gx.add_ne g32 _ (by decide)).trans q32_mattering_inputs
theorem q34_mattering_inputs : g34.fns "mattering_inputs" = some ⟨[false, false, false, false], f_mattering_inputs⟩ := (Gx.add_ne g33 _ (by decide)).trans q33_mattering_inputs
theorem q35_mattering_inputs : g35.fns "mattering_inputs" = some ⟨[false, false, false, false], f_mattering_inputs⟩ := (Gx.add_ne g34 _ (by decide)).trans q34_mattering_inputs
theorem q36_mattering_inputs : g36.fns "mattering_inputs" = some ⟨[false, false, false, false], f_mattering_inputs⟩ := (Gx.add_ne g35 _ (by decide)).trans q35_mattering_inputs
theorem q37_mattering_inputs : g37.fns "mattering_inputs" = some ⟨[false, false, false, false], f_mattering_inputs⟩ := (Gx.add_ne g36 _ (by decide)).trans q36_mattering_inputs
theorem q38_mattering_inputs : g38.fns "mattering_inputs" = some ⟨[false, false, false, false], f_mattering_inputs⟩ := (Gx.add_ne g37 _ (by decide)).trans q37_mattering_inputs
theorem q39_mattering_inputs : g39.fns "mattering_inputs" = some ⟨[false, false, false, false], f_mattering_inputs⟩ := (Gx.add_ne g38 _ (by decide)).trans q38_mattering_inputs
theorem q40_mattering_inputs : g40.fns "mattering_inputs" = some ⟨[false, false, false, false], f_mattering_inputs⟩ := (Gx.add_ne g39 _ (by decide)).trans q39_mattering_inputs
theorem q41_mattering_inputs : g41.fns "mattering_inputs" = some ⟨[false, false, false, false], f_mattering_inputs⟩ := (Gx.add_ne g40 _ (by decide)).trans q40_mattering_inputs
theorem q42_mattering_inputs : g42.fns "mattering_inputs" = some ⟨[false, false, false, false], f_mattering_inputs⟩ := (Gx.add_ne g41 _ (by decide)).trans q41_mattering_inputs
theorem q43_mattering_inputs : g43.fns "mattering_inputs" = some ⟨[false, false, false, false], f_mattering_inputs⟩ := (Gx.add_ne g42 _ (by decide)).trans q42_mattering_inputs
theorem q44_mattering_inputs : g44.fns "mattering_inputs" = some ⟨[false, false, false, false], f_mattering_inputs⟩ := (Gx.add_ne g43 _ (by decide)).trans q43_mattering_inputs
theorem q45_mattering_inputs : g45.fns "mattering_inputs" = some ⟨[false, false, false, false], f_mattering_inputs⟩ := (Gx.add_ne g44 _ (by decide)).trans q44_mattering_inputs
def f_l_delays_right : Fn := fnS g45 Lz.wfuel 14 3 i_l_delays_right
def g46 : Gx := g45.add "_law_delays_right" ⟨[false, false, false], f_l_delays_right⟩
theorem c_l_delays_right : stG (cS (cc ["line", "inputs", "delays", "told", "most", "due", "shown", "step", "row", "output", "late", "some", "near", "place"] [3] [(210, [7, 8, 9, 10, 11, 12, 13]), (211, [9, 10, 11, 12, 13])] [(207, [3])] 45) 40 (defScope (tp 64)) 20) (defBody (tp 64)) = some i_l_delays_right := by decide +kernel
theorem s_l_delays_right : FnScope ["line", "inputs", "delays", "told", "most", "due", "shown", "step", "row", "output", "late", "some", "near", "place"] ["line", "inputs", "delays"] (defScope (tp 64)) := fnS_by (by decide +kernel)
def i_l_line_right_w2b : I := (.sfg [11, 15] (.scons (.sif (.cmp .Lt (.idx (.idx (.call "_law_outputs" (.cons (.var 1) (.cons (.call "_law_moved" (.cons (.var 2) (.cons (.var 15) (.cons (.var 11) (.cons (.int (3)) .nil)))) []) .nil)) []) (.var 3)) (.var 9)) (.bin .Add (.var 14) (.int (3)))) (.scons (.sret (.bl false)) .snil) .snil) .snil))
def i_l_line_right_w2 : I := (.sfor (.ttp (.cons (.tnm 15) (.cons (.tnm 11) .nil))) (.iv (.var 12)) i_l_line_right_w2b)
def i_l_line_right_w1b : I := (.sfg [9, 11, 12, 13, 14, 15] (.scons (.sset 12 (.call "_law_matters" (.cons (.var 1) (.cons (.var 2) (.cons (.tup (.cons (.var 3) (.cons (.var 9) .nil))) .nil))) [])) (.scons (.sown 13 (.call "mattering_inputs" (.cons (.var 1) (.cons (.var 2) (.cons (.var 3) (.cons (.var 9) .nil)))) [])) (.scons (.sif (.bor 13 (.cmp .NotEq (.blt "repr" (.cons (.lst (.cons (.var 13) (.cons (.call "mattering_inputs" (.cons (.var 9) (.cons (.var 3) (.cons (.blt "tuple" (.cons (.var 2) .nil)) (.cons (.var 1) .nil)))) [3, 2, 1, 0]) .nil))) .nil)) (.blt "repr" (.cons (.lst (.cons (.var 12) (.cons (.var 12) .nil))) .nil)))) (.scons (.sret (.bl false)) .snil) .snil) (.scons (.sapp 13 .non) (.scons (.sset 14 (.idx (.idx (.call "_law_outputs" (.cons (.var 1) (.cons (.var 2) .nil)) []) (.var 3)) (.var 9))) (.scons (.sfg [11, 15] i_l_line_right_w2) .snil)))))))
def i_l_line_right_w1 : I := (.sfor (.tnm 9) (.irg (.blt "len" (.cons (.idx (.var 1) (.int (3))) .nil))) i_l_line_right_w1b)
def i_l_line_right_w0b : I := (.sfg [3, 9, 11, 12, 13, 14, 15] (.scons (.sfg [9, 11, 12, 13, 14, 15] i_l_line_right_w1) .snil))
def i_l_line_right_w0 : I := (.sfor (.tnm 3) (.irg (.var 8)) i_l_line_right_w0b)
def i_l_line_right_c1e : I := (.ite (.cmp .Eq (.tup (.cons (.var 3) (.cons (.var 16) .nil))) (.tup (.cons (.var 10) (.cons (.var 11) .nil)))) (.int (3)) (.int (0)))
def i_l_line_right_c1 : I := (.lc i_l_line_right_c1e (.tnm 16) (.irg (.var 7)) (.bl true) [16])
@[simp] theorem v_i_l_line_right_c1 : varI i_l_line_right_c1 = none := rfl
def i_l_line_right_c0e : I := (.blt "tuple" (.cons i_l_line_right_c1 .nil))
def i_l_line_right_c0 : I := (.lc i_l_line_right_c0e (.tnm 3) (.irg (.var 8)) (.bl true) [3])
@[simp] theorem v_i_l_line_right_c0 : varI i_l_line_right_c0 = none := rfl
def i_l_line_right_c3e : I := (.call "_law_pick" (.cons (.var 0) (.cons (.lst (.cons (.int (0)) (.cons (.int (0)) (.cons (.int (1)) (.cons (.int (5)) (.cons (.int (999999999)) .nil)))))) .nil)) [])
def i_l_line_right_c3 : I := (.lc i_l_line_right_c3e (.tnm 16) (.irg (.var 7)) (.bl true) [16])
@[simp] theorem v_i_l_line_right_c3 : varI i_l_line_right_c3 = none := rfl
def i_l_line_right_c2e : I := (.blt "tuple" (.cons i_l_line_right_c3 .nil))
def i_l_line_right_c2 : I := (.lc i_l_line_right_c2e (.tnm 3) (.irg (.var 8)) (.bl true) [3])
@[simp] theorem v_i_l_line_right_c2 : varI i_l_line_right_c2 = none := rfl
def i_l_line_right : I := (.scons (.stg (.ttp (.cons (.tnm 6) (.cons (.tnm 7) (.cons (.tnm 8) .nil)))) (.tup (.cons (.blt "repr" (.cons (.lst (.cons (.var 1) (.cons (.var 2) .nil))) .nil)) (.cons (.blt "len" (.cons (.idx (.idx (.var 1) (.int (2))) (.int (0))) .nil)) (.cons (.pkb "len" 2) .nil))))) (.scons (.sfg [3, 9, 11, 12, 13, 14, 15] i_l_line_right_w0) (.scons (.stg (.ttp (.cons (.tnm 10) (.cons (.tnm 11) .nil))) (.tup (.cons (.call "_law_draw" (.cons (.var 0) (.cons (.var 8) .nil)) []) (.cons (.call "_law_draw" (.cons (.var 0) (.cons (.var 7) .nil)) []) .nil)))) (.scons (.sset 4 i_l_line_right_c0) (.scons (.sset 5 i_l_line_right_c2) (.scons (.sif (.or (.inot (.call "_law_delays_right" (.cons (.var 1) (.cons (.var 2) (.cons (.var 4) .nil))) [])) (.inot (.call "_law_delays_right" (.cons (.var 1) (.cons (.var 2) (.cons (.var 5) .nil))) []))) (.scons (.sret (.bl false)) .snil) .snil) (.scons (.sret (.cmp .Eq (.blt "repr" (.cons (.lst (.cons (.var 1) (.cons (.var 2) .nil))) .nil)) (.var 6))) .snil)))))))
theorem q46_l_delays_right : g46.fns "_law_delays_right" = some ⟨[false, false, false], f_l_delays_right⟩ := Gx.add_at _ _ _
theorem q36_l_draw : g36.fns "_law_draw" = some ⟨[true, false], f_l_draw⟩ := (Gx.add_ne g35 _ (by decide)).trans q35_l_draw
theorem q37_l_draw : g37.fns "_law_draw" = some ⟨[true, false], f_l_draw⟩ := (Gx.add_ne g36 _ (by decide)).trans q36_l_draw
theorem q38_l_draw : g38.fns "_law_draw" = some ⟨[true, false], f_l_draw⟩ := (Gx.add_ne g37 _ (by decide)).trans q37_l_draw
theorem q39_l_draw : g39.fns "_law_draw" = some ⟨[true, false], f_l_draw⟩ := (Gx.add_ne g38 _ (by decide)).trans q38_l_draw
theorem q40_l_draw : g40.fns "_law_draw" = some ⟨[true, false], f_l_draw⟩ := (Gx.add_ne g39 _ (by decide)).trans q39_l_draw
theorem q41_l_draw : g41.fns "_law_draw" = some ⟨[true, false], f_l_draw⟩ := (Gx.add_ne g40 _ (by decide)).trans q40_l_draw
theorem q42_l_draw : g42.fns "_law_draw" = some ⟨[true, false], f_l_draw⟩ := (Gx.add_ne g41 _ (by decide)).trans q41_l_draw
theorem q43_l_draw : g43.fns "_law_draw" = some ⟨[true, false], f_l_draw⟩ := (Gx.add_ne g42 _ (by decide)).trans q42_l_draw
theorem q44_l_draw : g44.fns "_law_draw" = some ⟨[true, false], f_l_draw⟩ := (Gx.add_ne g43 _ (by decide)).trans q43_l_draw
theorem q45_l_draw : g45.fns "_law_draw" = some ⟨[true, false], f_l_draw⟩ := (Gx.add_ne g44 _ (by decide)).trans q44_l_draw
theorem q46_l_draw : g46.fns "_law_draw" = some ⟨[true, false], f_l_draw⟩ := (Gx.add_ne g45 _ (by decide)).trans q45_l_draw
theorem q44_l_matters : g44.fns "_law_matters" = some ⟨[false, false, false], f_l_matters⟩ := Gx.add_at _ _ _
theorem q45_l_matters : g45.fns "_law_matters" = some ⟨[false, false, false], f_l_matters⟩ := (Gx.add_ne g44 _ (by decide)).trans q44_l_matters
theorem q46_l_matters : g46.fns "_law_matters" = some ⟨[false, false, false], f_l_matters⟩ := (Gx.add_ne g45 _ (by decide)).trans q45_l_matters
theorem q43_l_moved : g43.fns "_law_moved" = some ⟨[false, false, false, false], f_l_moved⟩ := Gx.add_at _ _ _
theorem q44_l_moved : g44.fns "_law_moved" = some ⟨[false, false, false, false], f_l_moved⟩ := (Gx.add_ne g43 _ (by decide)).trans q43_l_moved
theorem q45_l_moved : g45.fns "_law_moved" = some ⟨[false, false, false, false], f_l_moved⟩ := (Gx.add_ne g44 _ (by decide)).trans q44_l_moved
theorem q46_l_moved : g46.fns "_law_moved" = some ⟨[false, false, false, false], f_l_moved⟩ := (Gx.add_ne g45 _ (by decide)).trans q45_l_moved
theorem q45_l_outputs : g45.fns "_law_outputs" = some ⟨[false, false], f_l_outputs⟩ := (Gx.add_ne g44 _ (by decide)).trans q44_l_outputs
theorem q46_l_outputs : g46.fns "_law_outputs" = some ⟨[false, false], f_l_outputs⟩ := (Gx.add_ne g45 _ (by decide)).trans q45_l_outputs
theorem q42_l_pick : g42.fns "_law_pick" = some ⟨[true, false], f_l_pick⟩ := (Gx.add_ne g41 _ (by decide)).trans q41_l_pick
theorem q43_l_pick : g43.fns "_law_pick" = some ⟨[true, false], f_l_pick⟩ := (Gx.add_ne g42 _ (by decide)).trans q42_l_pick
theorem q44_l_pick : g44.fns "_law_pick" = some ⟨[true, false], f_l_pick⟩ := (Gx.add_ne g43 _ (by decide)).trans q43_l_pick
theorem q45_l_pick : g45.fns "_law_pick" = some ⟨[true, false], f_l_pick⟩ := (Gx.add_ne g44 _ (by decide)).trans q44_l_pick
theorem q46_l_pick : g46.fns "_law_pick" = some ⟨[true, false], f_l_pick⟩ := (Gx.add_ne g45 _ (by decide)).trans q45_l_pick
theorem q46_mattering_inputs : g46.fns "mattering_inputs" = some ⟨[false, false, false, false], f_mattering_inputs⟩ := (Gx.add_ne g45 _ (by decide)).trans q45_mattering_inputs
def f_l_line_right : Fn := fnS g46 Lz.wfuel 17 3 i_l_line_right
def g47 : Gx := g46.add "_law_line_right" ⟨[true, false, false], f_l_line_right⟩
theorem c_l_line_right : stG (cS (cc ["pot", "line", "inputs", "step", "one", "many", "shown", "wide", "steps", "output", "at", "place", "due", "told", "time", "near", "far"] [0, 13] [(219, [3, 9, 11, 12, 13, 14, 15]), (220, [9, 11, 12, 13, 14, 15]), (227, [11, 15])] [(223, [13])] 46) 40 (defScope (tp 65)) 20) (defBody (tp 65)) = some i_l_line_right := by decide +kernel
theorem s_l_line_right : FnScope ["pot", "line", "inputs", "step", "one", "many", "shown", "wide", "steps", "output", "at", "place", "due", "told", "time", "near", "far"] ["pot", "line", "inputs"] (defScope (tp 65)) := fnS_by (by decide +kernel)
def i_l_right : I := (.scons (.sset 1 (.call "_law_line" (.cons (.var 0) (.cons (.int (4)) .nil)) [])) (.scons (.sset 2 (.blt "len" (.cons (.idx (.idx (.var 1) (.int (2))) (.int (0))) .nil))) (.scons (.sset 3 (.call "_law_pick" (.cons (.var 0) (.cons (.lst (.cons (.call "_law_even_vectors" (.cons (.var 0) (.cons (.int (4)) (.cons (.var 2) .nil))) []) (.cons (.call "_law_vectors" (.cons (.var 0) (.cons (.int (3)) (.cons (.var 2) .nil))) []) (.cons (.call "_law_even_vectors" (.cons (.var 0) (.cons (.int (6)) (.cons (.var 2) .nil))) []) .nil)))) .nil)) [])) (.scons (.sret (.call "_law_line_right" (.cons (.var 0) (.cons (.var 1) (.cons (.var 3) .nil))) [])) .snil))))
theorem q42_l_even_vectors : g42.fns "_law_even_vectors" = some ⟨[true, false, false], f_l_even_vectors⟩ := Gx.add_at _ _ _
theorem q43_l_even_vectors : g43.fns "_law_even_vectors" = some ⟨[true, false, false], f_l_even_vectors⟩ := (Gx.add_ne g42 _ (by decide)).trans q42_l_even_vectors
theorem q44_l_even_vectors : g44.fns "_law_even_vectors" = some ⟨[true, false, false], f_l_even_vectors⟩ := (Gx.add_ne g43 _ (by decide)).trans q43_l_even_vectors
theorem q45_l_even_vectors : g45.fns "_law_even_vectors" = some ⟨[true, false, false], f_l_even_vectors⟩ := (Gx.add_ne g44 _ (by decide)).trans q44_l_even_vectors
theorem q46_l_even_vectors : g46.fns "_law_even_vectors" = some ⟨[true, false, false], f_l_even_vectors⟩ := (Gx.add_ne g45 _ (by decide)).trans q45_l_even_vectors
theorem q47_l_even_vectors : g47.fns "_law_even_vectors" = some ⟨[true, false, false], f_l_even_vectors⟩ := (Gx.add_ne g46 _ (by decide)).trans q46_l_even_vectors
theorem q35_l_line : g35.fns "_law_line" = some ⟨[true, false], f_l_line⟩ := Gx.add_at _ _ _
theorem q36_l_line : g36.fns "_law_line" = some ⟨[true, false], f_l_line⟩ := (Gx.add_ne g35 _ (by decide)).trans q35_l_line
theorem q37_l_line : g37.fns "_law_line" = some ⟨[true, false], f_l_line⟩ := (Gx.add_ne g36 _ (by decide)).trans q36_l_line
theorem q38_l_line : g38.fns "_law_line" = some ⟨[true, false], f_l_line⟩ := (Gx.add_ne g37 _ (by decide)).trans q37_l_line
theorem q39_l_line : g39.fns "_law_line" = some ⟨[true, false], f_l_line⟩ := (Gx.add_ne g38 _ (by decide)).trans q38_l_line
theorem q40_l_line : g40.fns "_law_line" = some ⟨[true, false], f_l_line⟩ := (Gx.add_ne g39 _ (by decide)).trans q39_l_line
theorem q41_l_line : g41.fns "_law_line" = some ⟨[true, false], f_l_line⟩ := (Gx.add_ne g40 _ (by decide)).trans q40_l_line
theorem q42_l_line : g42.fns "_law_line" = some ⟨[true, false], f_l_line⟩ := (Gx.add_ne g41 _ (by decide)).trans q41_l_line
theorem q43_l_line : g43.fns "_law_line" = some ⟨[true, false], f_l_line⟩ := (Gx.add_ne g42 _ (by decide)).trans q42_l_line
theorem q44_l_line : g44.fns "_law_line" = some ⟨[true, false], f_l_line⟩ := (Gx.add_ne g43 _ (by decide)).trans q43_l_line
theorem q45_l_line : g45.fns "_law_line" = some ⟨[true, false], f_l_line⟩ := (Gx.add_ne g44 _ (by decide)).trans q44_l_line
theorem q46_l_line : g46.fns "_law_line" = some ⟨[true, false], f_l_line⟩ := (Gx.add_ne g45 _ (by decide)).trans q45_l_line
theorem q47_l_line : g47.fns "_law_line" = some ⟨[true, false], f_l_line⟩ := (Gx.add_ne g46 _ (by decide)).trans q46_l_line
theorem q47_l_line_right : g47.fns "_law_line_right" = some ⟨[true, false, false], f_l_line_right⟩ := Gx.add_at _ _ _
theorem q47_l_pick : g47.fns "_law_pick" = some ⟨[true, false], f_l_pick⟩ := (Gx.add_ne g46 _ (by decide)).trans q46_l_pick
theorem q36_l_vectors : g36.fns "_law_vectors" = some ⟨[true, false, false], f_l_vectors⟩ := Gx.add_at _ _ _
theorem q37_l_vectors : g37.fns "_law_vectors" = some ⟨[true, false, false], f_l_vectors⟩ := (Gx.add_ne g36 _ (by decide)).trans q36_l_vectors
theorem q38_l_vectors : g38.fns "_law_vectors" = some ⟨[true, false, false], f_l_vectors⟩ := (Gx.add_ne g37 _ (by decide)).trans q37_l_vectors
theorem q39_l_vectors : g39.fns "_law_vectors" = some ⟨[true, false, false], f_l_vectors⟩ := (Gx.add_ne g38 _ (by decide)).trans q38_l_vectors
theorem q40_l_vectors : g40.fns "_law_vectors" = some ⟨[true, false, false], f_l_vectors⟩ := (Gx.add_ne g39 _ (by decide)).trans q39_l_vectors
theorem q41_l_vectors : g41.fns "_law_vectors" = some ⟨[true, false, false], f_l_vectors⟩ := (Gx.add_ne g40 _ (by decide)).trans q40_l_vectors
theorem q42_l_vectors : g42.fns "_law_vectors" = some ⟨[true, false, false], f_l_vectors⟩ := (Gx.add_ne g41 _ (by decide)).trans q41_l_vectors
theorem q43_l_vectors : g43.fns "_law_vectors" = some ⟨[true, false, false], f_l_vectors⟩ := (Gx.add_ne g42 _ (by decide)).trans q42_l_vectors
theorem q44_l_vectors : g44.fns "_law_vectors" = some ⟨[true, false, false], f_l_vectors⟩ := (Gx.add_ne g43 _ (by decide)).trans q43_l_vectors
theorem q45_l_vectors : g45.fns "_law_vectors" = some ⟨[true, false, false], f_l_vectors⟩ := (Gx.add_ne g44 _ (by decide)).trans q44_l_vectors
theorem q46_l_vectors : g46.fns "_law_vectors" = some ⟨[true, false, false], f_l_vectors⟩ := (Gx.add_ne g45 _ (by decide)).trans q45_l_vectors
theorem q47_l_vectors : g47.fns "_law_vectors" = some ⟨[true, false, false], f_l_vectors⟩ := (Gx.add_ne g46 _ (by decide)).trans q46_l_vectors
def f_l_right : Fn := fnS g47 Lz.wfuel 4 1 i_l_right
def g48 : Gx := g47.add "_law_right" ⟨[true], f_l_right⟩
theorem c_l_right : stG (cS (cc ["pot", "line", "wide", "some"] [0] [] [] 47) 40 (defScope (tp 66)) 20) (defBody (tp 66)) = some i_l_right := by decide +kernel
theorem s_l_right : FnScope ["pot", "line", "wide", "some"] ["pot"] (defScope (tp 66)) := fnS_by (by decide +kernel)
def i_l_gaps_right_c0e : I := (.call "_law_draw" (.cons (.var 0) (.cons (.int (4)) .nil)) [])
def i_l_gaps_right_c0 : I := (.lc i_l_gaps_right_c0e (.tnm 2) (.irg (.int (11))) (.bl true) [2])
@[simp] theorem v_i_l_gaps_right_c0 : varI i_l_gaps_right_c0 = none := rfl
def i_l_gaps_right_w0b : I := (.sfg [1] (.scons (.sapp 7 (.bin .Add (.bin .Add (.idx (.var 7) (.neg (.int (1)))) (.var 4)) (.var 1))) .snil))
def i_l_gaps_right_w0 : I := (.sfor (.tnm 1) (.iv (.var 5)) i_l_gaps_right_w0b)
def i_l_gaps_right_w1b : I := (.sfg [2] (.scons (.sset 10 (.bin .Add (.var 10) (.lst (.cons (.tup (.cons (.blt "max" (.cons (.int (0)) (.cons (.var 11) .nil))) .nil)) .nil)))) (.scons (.sset 11 (.bin .Sub (.var 11) (.ite (.cmp .Lt (.var 2) (.int (11))) (.idx (.var 5) (.var 2)) (.int (0))))) .snil)))
def i_l_gaps_right_w1 : I := (.sfor (.tnm 2) (.irg2 (.var 8) (.int (12))) i_l_gaps_right_w1b)
def i_l_gaps_right_c1e : I := (.tup (.cons (.ite (.cmp .Eq (.var 2) (.var 8)) (.var 9) (.int (0))) .nil))
def i_l_gaps_right_c1 : I := (.lc i_l_gaps_right_c1e (.tnm 2) (.irg (.int (12))) (.bl true) [2])
@[simp] theorem v_i_l_gaps_right_c1 : varI i_l_gaps_right_c1 = none := rfl
def i_l_gaps_right_c2e : I := (.tup (.cons (.var 12) .nil))
def i_l_gaps_right_c2 : I := (.lc i_l_gaps_right_c2e (.tnm 12) (.iv (.var 7)) (.bl true) [12])
@[simp] theorem v_i_l_gaps_right_c2 : varI i_l_gaps_right_c2 = none := rfl
def i_l_gaps_right : I := (.scons (.spar [(4, false), (5, false)] (.cons (.bin .Add (.int (1)) (.call "_law_draw" (.cons (.var 0) (.cons (.int (5)) .nil)) [])) (.cons i_l_gaps_right_c0 .nil))) (.scons (.spar [(6, false), (7, true)] (.cons (.tup (.cons (.str "line") (.cons (.tup (.cons (.tup (.cons (.var 4) .nil)) .nil)) (.cons (.tup (.cons (.tup (.cons (.int (0)) .nil)) .nil)) (.cons (.tup (.cons (.tup (.cons (.int (0)) .nil)) .nil)) .nil))))) (.cons (.lst (.cons (.int (0)) .nil)) .nil))) (.scons (.sfg [1] i_l_gaps_right_w0) (.scons (.stg (.ttp (.cons (.tnm 8) (.cons (.tnm 9) .nil))) (.tup (.cons (.call "_law_draw" (.cons (.var 0) (.cons (.int (12)) .nil)) []) (.cons (.call "_law_draw" (.cons (.var 0) (.cons (.int (12)) .nil)) []) .nil)))) (.scons (.spar [(10, false), (11, false)] (.cons (.bin .Mult (.lst (.cons (.tup (.cons (.int (0)) .nil)) .nil)) (.var 8)) (.cons (.var 9) .nil))) (.scons (.sfg [2] i_l_gaps_right_w1) (.scons (.sset 3 i_l_gaps_right_c1) (.scons (.sret (.cmp .Eq (.call "late_outputs" (.cons (.var 6) (.cons i_l_gaps_right_c2 (.cons (.var 3) .nil))) []) (.var 10))) .snil))))))))
theorem q47_l_draw : g47.fns "_law_draw" = some ⟨[true, false], f_l_draw⟩ := (Gx.add_ne g46 _ (by decide)).trans q46_l_draw
theorem q48_l_draw : g48.fns "_law_draw" = some ⟨[true, false], f_l_draw⟩ := (Gx.add_ne g47 _ (by decide)).trans q47_l_draw
theorem q46_late_outputs : g46.fns "late_outputs" = some ⟨[false, false, false], f_late_outputs⟩ := (Gx.add_ne g45 _ (by decide)).trans q45_late_outputs
theorem q47_late_outputs : g47.fns "late_outputs" = some ⟨[false, false, false], f_late_outputs⟩ := (Gx.add_ne g46 _ (by decide)).trans q46_late_outputs
theorem q48_late_outputs : g48.fns "late_outputs" = some ⟨[false, false, false], f_late_outputs⟩ := (Gx.add_ne g47 _ (by decide)).trans q47_late_outputs
def f_l_gaps_right : Fn := fnS g48 Lz.wfuel 13 1 i_l_gaps_right
def g49 : Gx := g48.add "_law_gaps_right" ⟨[true], f_l_gaps_right⟩
theorem c_l_gaps_right : stG (cS (cc ["pot", "gap", "step", "delays", "turn", "gaps", "line", "times", "at", "late", "due", "left", "time"] [0, 7] [(244, [1]), (248, [2])] [] 48) 40 (defScope (tp 67)) 20) (defBody (tp 67)) = some i_l_gaps_right := by decide +kernel
theorem s_l_gaps_right : FnScope ["pot", "gap", "step", "delays", "turn", "gaps", "line", "times", "at", "late", "due", "left", "time"] ["pot"] (defScope (tp 67)) := fnS_by (by decide +kernel)
def i_law_w0b : I := (.sfg [1] (.scons (.sif (.inot (.call "_law_right" (.cons (.call "_law_pot" (.cons (.var 0) (.cons (.var 1) .nil)) []) .nil) [])) (.scons (.sret (.bl false)) .snil) .snil) .snil))
def i_law_w0 : I := (.sfor (.tnm 1) (.irg (.blt "max" (.cons (.int (1)) (.cons (.blt "min" (.cons (.int (2)) (.cons (.pkb "len" 0) .nil))) .nil)))) i_law_w0b)
def i_law : I := (.scons (.sfg [1] i_law_w0) (.scons (.sret (.call "_law_gaps_right" (.cons (.call "_law_pot" (.cons (.var 0) (.cons (.int (2)) .nil)) []) .nil) [])) .snil))
theorem q49_l_gaps_right : g49.fns "_law_gaps_right" = some ⟨[true], f_l_gaps_right⟩ := Gx.add_at _ _ _
theorem q30_l_pot : g30.fns "_law_pot" = some ⟨[false, false], f_l_pot⟩ := Gx.add_at _ _ _
theorem q31_l_pot : g31.fns "_law_pot" = some ⟨[false, false], f_l_pot⟩ := (Gx.add_ne g30 _ (by decide)).trans q30_l_pot
theorem q32_l_pot : g32.fns "_law_pot" = some ⟨[false, false], f_l_pot⟩ := (Gx.add_ne g31 _ (by decide)).trans q31_l_pot
theorem q33_l_pot : g33.fns "_law_pot" = some ⟨[false, false], f_l_pot⟩ := (Gx.add_ne g32 _ (by decide)).trans q32_l_pot
theorem q34_l_pot : g34.fns "_law_pot" = some ⟨[false, false], f_l_pot⟩ := (Gx.add_ne g33 _ (by decide)).trans q33_l_pot
theorem q35_l_pot : g35.fns "_law_pot" = some ⟨[false, false], f_l_pot⟩ := (Gx.add_ne g34 _ (by decide)).trans q34_l_pot
theorem q36_l_pot : g36.fns "_law_pot" = some ⟨[false, false], f_l_pot⟩ := (Gx.add_ne g35 _ (by decide)).trans q35_l_pot
theorem q37_l_pot : g37.fns "_law_pot" = some ⟨[false, false], f_l_pot⟩ := (Gx.add_ne g36 _ (by decide)).trans q36_l_pot
theorem q38_l_pot : g38.fns "_law_pot" = some ⟨[false, false], f_l_pot⟩ := (Gx.add_ne g37 _ (by decide)).trans q37_l_pot
theorem q39_l_pot : g39.fns "_law_pot" = some ⟨[false, false], f_l_pot⟩ := (Gx.add_ne g38 _ (by decide)).trans q38_l_pot
theorem q40_l_pot : g40.fns "_law_pot" = some ⟨[false, false], f_l_pot⟩ := (Gx.add_ne g39 _ (by decide)).trans q39_l_pot
theorem q41_l_pot : g41.fns "_law_pot" = some ⟨[false, false], f_l_pot⟩ := (Gx.add_ne g40 _ (by decide)).trans q40_l_pot
theorem q42_l_pot : g42.fns "_law_pot" = some ⟨[false, false], f_l_pot⟩ := (Gx.add_ne g41 _ (by decide)).trans q41_l_pot
theorem q43_l_pot : g43.fns "_law_pot" = some ⟨[false, false], f_l_pot⟩ := (Gx.add_ne g42 _ (by decide)).trans q42_l_pot
theorem q44_l_pot : g44.fns "_law_pot" = some ⟨[false, false], f_l_pot⟩ := (Gx.add_ne g43 _ (by decide)).trans q43_l_pot
theorem q45_l_pot : g45.fns "_law_pot" = some ⟨[false, false], f_l_pot⟩ := (Gx.add_ne g44 _ (by decide)).trans q44_l_pot
theorem q46_l_pot : g46.fns "_law_pot" = some ⟨[false, false], f_l_pot⟩ := (Gx.add_ne g45 _ (by decide)).trans q45_l_pot
theorem q47_l_pot : g47.fns "_law_pot" = some ⟨[false, false], f_l_pot⟩ := (Gx.add_ne g46 _ (by decide)).trans q46_l_pot
theorem q48_l_pot : g48.fns "_law_pot" = some ⟨[false, false], f_l_pot⟩ := (Gx.add_ne g47 _ (by decide)).trans q47_l_pot
theorem q49_l_pot : g49.fns "_law_pot" = some ⟨[false, false], f_l_pot⟩ := (Gx.add_ne g48 _ (by decide)).trans q48_l_pot
theorem q48_l_right : g48.fns "_law_right" = some ⟨[true], f_l_right⟩ := Gx.add_at _ _ _
theorem q49_l_right : g49.fns "_law_right" = some ⟨[true], f_l_right⟩ := (Gx.add_ne g48 _ (by decide)).trans q48_l_right
def f_law : Fn := fnS g49 Lz.wfuel 2 1 i_law
def g50 : Gx := g49.add "law" ⟨[false], f_law⟩
theorem c_law : stG (cS (cc ["script", "k"] [] [(254, [1])] [] 49) 40 (defScope (tp 68)) 20) (defBody (tp 68)) = some i_law := by decide +kernel
theorem s_law : FnScope ["script", "k"] ["script"] (defScope (tp 68)) := fnS_by (by decide +kernel)
section
variable {P : Program} {w : World} {K : PySem.W.Frag} {mg : Str → Option Value} {base : Heap}
theorem t_is_integer {fa : Addr} {fd : FuncData} (T : Tb P w K mg base g0 0) (F : Fun K "is_integer" "is_integer" (tp 1) fa fd) (m : mg "is_integer" = some (.ref fa)) : Tb P w K mg base g1 1 :=
  T.add (ps := ["value"]) m F.kp rfl (F.binds fun _ _ _ _ _ _ us hl => match us, hl with | [_], _ => rfl) (ct_of (c := cc ["value"] [] [] [] 0) (ks := [false]) F s_is_integer T (fun z => by cases z) rfl rfl c_is_integer) (List.forall_mem_cons.mpr ⟨fun e => absurd e (by decide), List.forall_mem_cons.mpr ⟨fun e => absurd e (by decide), fun q z => nomatch z⟩⟩)
theorem t_is_within {fa : Addr} {fd : FuncData} (T : Tb P w K mg base g1 1) (F : Fun K "is_within" "is_within" (tp 2) fa fd) (m : mg "is_within" = some (.ref fa)) : Tb P w K mg base g2 2 :=
  T.add (ps := ["value", "least", "most"]) m F.kp rfl (F.binds fun _ _ _ _ _ _ us hl => match us, hl with | [_, _, _], _ => rfl) (ct_of (c := cc ["value", "least", "most"] [] [] [] 1) (ks := [false, false, false]) F s_is_within T (fun z => by cases z) rfl rfl c_is_within) (List.forall_mem_cons.mpr ⟨fun e => absurd e (by decide), List.forall_mem_cons.mpr ⟨fun e => absurd e (by decide), fun q z => nomatch z⟩⟩)
theorem t_is_list {fa : Addr} {fd : FuncData} (T : Tb P w K mg base g2 2) (F : Fun K "is_list" "is_list" (tp 3) fa fd) (m : mg "is_list" = some (.ref fa)) : Tb P w K mg base g3 3 :=
  T.add (ps := ["value"]) m F.kp rfl (F.binds fun _ _ _ _ _ _ us hl => match us, hl with | [_], _ => rfl) (ct_of (c := cc ["value"] [] [] [] 2) (ks := [false]) F s_is_list T (fun z => by cases z) rfl rfl c_is_list) (List.forall_mem_cons.mpr ⟨fun e => absurd e (by decide), List.forall_mem_cons.mpr ⟨fun e => absurd e (by decide), fun q z => nomatch z⟩⟩)
theorem t_is_tuple {fa : Addr} {fd : FuncData} (T : Tb P w K mg base g3 3) (F : Fun K "is_tuple" "is_tuple" (tp 4) fa fd) (m : mg "is_tuple" = some (.ref fa)) : Tb P w K mg base g4 4 :=
  T.add (ps := ["value", "many"]) m F.kp rfl (F.binds fun _ _ _ _ _ _ us hl => match us, hl with | [_, _], _ => rfl) (ct_of (c := cc ["value", "many"] [] [] [] 3) (ks := [false, false]) F s_is_tuple T (fun z => by cases z) rfl rfl c_is_tuple) (List.forall_mem_cons.mpr ⟨fun e => absurd e (by decide), List.forall_mem_cons.mpr ⟨fun e => absurd e (by decide), fun q z => nomatch z⟩⟩)
theorem t_latest {fa : Addr} {fd : FuncData} (T : Tb P w K mg base g4 4) (F : Fun K "latest" "latest" (tp 15) fa fd) (m : mg "latest" = some (.ref fa)) : Tb P w K mg base g5 5 :=
  T.add (ps := ["times"]) m F.kp rfl (F.binds fun _ _ _ _ _ _ us hl => match us, hl with | [_], _ => rfl) (ct_of (c := cc ["times", "some", "one"] [] [] [] 4) (ks := [false]) F s_latest T (fun z => by cases z) rfl rfl c_latest) (List.forall_mem_cons.mpr ⟨fun e => absurd e (by decide), List.forall_mem_cons.mpr ⟨fun e => absurd e (by decide), fun q z => nomatch z⟩⟩)
theorem t_then {fa : Addr} {fd : FuncData} (T : Tb P w K mg base g5 5) (F : Fun K "then" "then" (tp 16) fa fd) (m : mg "then" = some (.ref fa)) : Tb P w K mg base g6 6 :=
  T.add (ps := ["one", "other"]) m F.kp rfl (F.binds fun _ _ _ _ _ _ us hl => match us, hl with | [_, _], _ => rfl) (ct_of (c := cc ["one", "other"] [] [] [] 5) (ks := [false, false]) F s_then T (fun z => by cases z) rfl rfl c_then) (List.forall_mem_cons.mpr ⟨fun e => absurd e (by decide), List.forall_mem_cons.mpr ⟨fun e => absurd e (by decide), fun q z => nomatch z⟩⟩)
theorem t_is_entry {fa : Addr} {fd : FuncData} (T : Tb P w K mg base g6 6) (F : Fun K "is_entry" "is_entry" (tp 19) fa fd) (m : mg "is_entry" = some (.ref fa)) : Tb P w K mg base g7 7 :=
  T.add (ps := ["value"]) m F.kp rfl (F.binds fun _ _ _ _ _ _ us hl => match us, hl with | [_], _ => rfl) (ct_of (c := cc ["value"] [] [] [] 6) (ks := [false]) F s_is_entry T (fun z => by cases z) rfl rfl c_is_entry) (List.forall_mem_cons.mpr ⟨fun e => absurd e (by decide), List.forall_mem_cons.mpr ⟨fun e => absurd e (by decide), fun q z => nomatch z⟩⟩)
theorem t_is_table_any {fa : Addr} {fd : FuncData} (T : Tb P w K mg base g7 7) (F : Fun K "is_table_any" "is_table_any" (tp 20) fa fd) (m : mg "is_table_any" = some (.ref fa)) : Tb P w K mg base g8 8 :=
  T.add (ps := ["value"]) m F.kp rfl (F.binds fun _ _ _ _ _ _ us hl => match us, hl with | [_], _ => rfl) (ct_of (c := cc ["value", "row", "one"] [] [] [] 7) (ks := [false]) F s_is_table_any T (fun z => by cases z) rfl rfl c_is_table_any) (List.forall_mem_cons.mpr ⟨fun e => absurd e (by decide), List.forall_mem_cons.mpr ⟨fun e => absurd e (by decide), fun q z => nomatch z⟩⟩)
theorem t_is_square_any {fa : Addr} {fd : FuncData} (T : Tb P w K mg base g8 8) (F : Fun K "is_square_any" "is_square_any" (tp 21) fa fd) (m : mg "is_square_any" = some (.ref fa)) : Tb P w K mg base g9 9 :=
  T.add (ps := ["value"]) m F.kp rfl (F.binds fun _ _ _ _ _ _ us hl => match us, hl with | [_], _ => rfl) (ct_of (c := cc ["value"] [] [] [] 8) (ks := [false]) F s_is_square_any T (fun z => by cases z) rfl rfl c_is_square_any) (List.forall_mem_cons.mpr ⟨fun e => absurd e (by decide), List.forall_mem_cons.mpr ⟨fun e => absurd e (by decide), fun q z => nomatch z⟩⟩)
theorem t_is_vector_of {fa : Addr} {fd : FuncData} (T : Tb P w K mg base g9 9) (F : Fun K "is_vector_of" "is_vector_of" (tp 22) fa fd) (m : mg "is_vector_of" = some (.ref fa)) : Tb P w K mg base g10 10 :=
  T.add (ps := ["many", "value"]) m F.kp rfl (F.binds fun _ _ _ _ _ _ us hl => match us, hl with | [_, _], _ => rfl) (ct_of (c := cc ["many", "value", "one"] [] [] [] 9) (ks := [false, false]) F s_is_vector_of T (fun z => by cases z) rfl rfl c_is_vector_of) (List.forall_mem_cons.mpr ⟨fun e => absurd e (by decide), List.forall_mem_cons.mpr ⟨fun e => absurd e (by decide), fun q z => nomatch z⟩⟩)
theorem t_applied {fa : Addr} {fd : FuncData} (T : Tb P w K mg base g10 10) (F : Fun K "applied" "applied" (tp 23) fa fd) (m : mg "applied" = some (.ref fa)) : Tb P w K mg base g11 11 :=
  T.add (ps := ["table", "vector"]) m F.kp rfl (F.binds fun _ _ _ _ _ _ us hl => match us, hl with | [_, _], _ => rfl) (ct_of (c := cc ["table", "vector", "row", "one", "other"] [] [] [] 10) (ks := [false, false]) F s_applied T (fun z => by cases z) rfl rfl c_applied) (List.forall_mem_cons.mpr ⟨fun e => absurd e (by decide), List.forall_mem_cons.mpr ⟨fun e => absurd e (by decide), fun q z => nomatch z⟩⟩)
theorem t_columns_of {fa : Addr} {fd : FuncData} (T : Tb P w K mg base g11 11) (F : Fun K "columns_of" "columns_of" (tp 24) fa fd) (m : mg "columns_of" = some (.ref fa)) : Tb P w K mg base g12 12 :=
  T.add (ps := ["table"]) m F.kp rfl (F.binds fun _ _ _ _ _ _ us hl => match us, hl with | [_], _ => rfl) (ct_of (c := cc ["table"] [] [] [] 11) (ks := [false]) F s_columns_of T (fun z => by cases z) rfl rfl c_columns_of) (List.forall_mem_cons.mpr ⟨fun e => absurd e (by decide), List.forall_mem_cons.mpr ⟨fun e => absurd e (by decide), fun q z => nomatch z⟩⟩)
theorem t_product {fa : Addr} {fd : FuncData} (T : Tb P w K mg base g12 12) (F : Fun K "product" "product" (tp 25) fa fd) (m : mg "product" = some (.ref fa)) : Tb P w K mg base g13 13 :=
  T.add (ps := ["table", "other"]) m F.kp rfl (F.binds fun _ _ _ _ _ _ us hl => match us, hl with | [_, _], _ => rfl) (ct_of (c := cc ["table", "other", "rows", "row", "column", "one", "late"] [2] [(53, [3, 4, 5, 6])] [] 12) (ks := [false, false]) F s_product T (fun z => by cases z) rfl rfl c_product) (List.forall_mem_cons.mpr ⟨fun e => absurd e (by decide), List.forall_mem_cons.mpr ⟨fun e => absurd e (by decide), fun q z => nomatch z⟩⟩)
theorem t_joined {fa : Addr} {fd : FuncData} (T : Tb P w K mg base g13 13) (F : Fun K "joined" "joined" (tp 26) fa fd) (m : mg "joined" = some (.ref fa)) : Tb P w K mg base g14 14 :=
  T.add (ps := ["vector", "other"]) m F.kp rfl (F.binds fun _ _ _ _ _ _ us hl => match us, hl with | [_, _], _ => rfl) (ct_of (c := cc ["vector", "other", "one", "late"] [] [] [] 13) (ks := [false, false]) F s_joined T (fun z => by cases z) rfl rfl c_joined) (List.forall_mem_cons.mpr ⟨fun e => absurd e (by decide), List.forall_mem_cons.mpr ⟨fun e => absurd e (by decide), fun q z => nomatch z⟩⟩)
theorem t_is_line_any {fa : Addr} {fd : FuncData} (T : Tb P w K mg base g14 14) (F : Fun K "is_line_any" "is_line_any" (tp 30) fa fd) (m : mg "is_line_any" = some (.ref fa)) : Tb P w K mg base g15 15 :=
  T.add (ps := ["value"]) m F.kp rfl (F.binds fun _ _ _ _ _ _ us hl => match us, hl with | [_], _ => rfl) (ct_of (c := cc ["value"] [] [] [] 14) (ks := [false]) F s_is_line_any T (fun z => by cases z) rfl rfl c_is_line_any) (List.forall_mem_cons.mpr ⟨fun e => absurd e (by decide), List.forall_mem_cons.mpr ⟨fun e => absurd e (by decide), fun q z => nomatch z⟩⟩)
theorem t_want_line {fa : Addr} {fd : FuncData} (T : Tb P w K mg base g15 15) (F : Fun K "want_line" "want_line" (tp 31) fa fd) (m : mg "want_line" = some (.ref fa)) : Tb P w K mg base g16 16 :=
  T.add (ps := ["line"]) m F.kp rfl (F.binds fun _ _ _ _ _ _ us hl => match us, hl with | [_], _ => rfl) (ct_of (c := cc ["line"] [] [] [] 15) (ks := [false]) F s_want_line T (fun z => by cases z) rfl rfl c_want_line) (List.forall_mem_cons.mpr ⟨fun e => absurd e (by decide), List.forall_mem_cons.mpr ⟨fun e => absurd e (by decide), fun q z => nomatch z⟩⟩)
theorem t_inputs_of {fa : Addr} {fd : FuncData} (T : Tb P w K mg base g16 16) (F : Fun K "inputs_of" "inputs_of" (tp 32) fa fd) (m : mg "inputs_of" = some (.ref fa)) : Tb P w K mg base g17 17 :=
  T.add (ps := ["line"]) m F.kp rfl (F.binds fun _ _ _ _ _ _ us hl => match us, hl with | [_], _ => rfl) (ct_of (c := cc ["line"] [] [] [] 16) (ks := [false]) F s_inputs_of T (fun z => by cases z) rfl rfl c_inputs_of) (List.forall_mem_cons.mpr ⟨fun e => absurd e (by decide), List.forall_mem_cons.mpr ⟨fun e => absurd e (by decide), fun q z => nomatch z⟩⟩)
theorem t_outputs_of {fa : Addr} {fd : FuncData} (T : Tb P w K mg base g17 17) (F : Fun K "outputs_of" "outputs_of" (tp 33) fa fd) (m : mg "outputs_of" = some (.ref fa)) : Tb P w K mg base g18 18 :=
  T.add (ps := ["line"]) m F.kp rfl (F.binds fun _ _ _ _ _ _ us hl => match us, hl with | [_], _ => rfl) (ct_of (c := cc ["line"] [] [] [] 17) (ks := [false]) F s_outputs_of T (fun z => by cases z) rfl rfl c_outputs_of) (List.forall_mem_cons.mpr ⟨fun e => absurd e (by decide), List.forall_mem_cons.mpr ⟨fun e => absurd e (by decide), fun q z => nomatch z⟩⟩)
theorem t_are_steps {fa : Addr} {fd : FuncData} (T : Tb P w K mg base g18 18) (F : Fun K "are_steps" "are_steps" (tp 34) fa fd) (m : mg "are_steps" = some (.ref fa)) : Tb P w K mg base g19 19 :=
  T.add (ps := ["many", "value"]) m F.kp rfl (F.binds fun _ _ _ _ _ _ us hl => match us, hl with | [_, _], _ => rfl) (ct_of (c := cc ["many", "value", "one"] [] [] [] 18) (ks := [false, false]) F s_are_steps T (fun z => by cases z) rfl rfl c_are_steps) (List.forall_mem_cons.mpr ⟨fun e => absurd e (by decide), List.forall_mem_cons.mpr ⟨fun e => absurd e (by decide), fun q z => nomatch z⟩⟩)
theorem t_want_inputs {fa : Addr} {fd : FuncData} (T : Tb P w K mg base g19 19) (F : Fun K "want_inputs" "want_inputs" (tp 35) fa fd) (m : mg "want_inputs" = some (.ref fa)) : Tb P w K mg base g20 20 :=
  T.add (ps := ["line", "inputs"]) m F.kp rfl (F.binds fun _ _ _ _ _ _ us hl => match us, hl with | [_, _], _ => rfl) (ct_of (c := cc ["line", "inputs"] [] [] [] 19) (ks := [false, false]) F s_want_inputs T (fun z => by cases z) rfl rfl c_want_inputs) (List.forall_mem_cons.mpr ⟨fun e => absurd e (by decide), List.forall_mem_cons.mpr ⟨fun e => absurd e (by decide), fun q z => nomatch z⟩⟩)
theorem t_states_by {fa : Addr} {fd : FuncData} (T : Tb P w K mg base g20 20) (F : Fun K "states_by" "states_by" (tp 36) fa fd) (m : mg "states_by" = some (.ref fa)) : Tb P w K mg base g21 21 :=
  T.add (ps := ["line", "inputs"]) m F.kp rfl (F.binds fun _ _ _ _ _ _ us hl => match us, hl with | [_, _], _ => rfl) (ct_of (c := cc ["line", "inputs", "found", "vector", "word", "table", "ins", "outs", "here"] [2] [(83, [3, 8])] [] 20) (ks := [false, false]) F s_states_by T (fun z => by cases z) rfl rfl c_states_by) (List.forall_mem_cons.mpr ⟨fun e => absurd e (by decide), List.forall_mem_cons.mpr ⟨fun e => absurd e (by decide), fun q z => nomatch z⟩⟩)
theorem t_outputs_by {fa : Addr} {fd : FuncData} (T : Tb P w K mg base g21 21) (F : Fun K "outputs_by" "outputs_by" (tp 37) fa fd) (m : mg "outputs_by" = some (.ref fa)) : Tb P w K mg base g22 22 :=
  T.add (ps := ["line", "inputs"]) m F.kp rfl (F.binds fun _ _ _ _ _ _ us hl => match us, hl with | [_, _], _ => rfl) (ct_of (c := cc ["line", "inputs", "state"] [] [] [] 21) (ks := [false, false]) F s_outputs_by T (fun z => by cases z) rfl rfl c_outputs_by) (List.forall_mem_cons.mpr ⟨fun e => absurd e (by decide), List.forall_mem_cons.mpr ⟨fun e => absurd e (by decide), fun q z => nomatch z⟩⟩)
theorem t_answers_by {fa : Addr} {fd : FuncData} (T : Tb P w K mg base g22 22) (F : Fun K "answers_by" "answers_by" (tp 38) fa fd) (m : mg "answers_by" = some (.ref fa)) : Tb P w K mg base g23 23 :=
  T.add (ps := ["line", "many"]) m F.kp rfl (F.binds fun _ _ _ _ _ _ us hl => match us, hl with | [_, _], _ => rfl) (ct_of (c := cc ["line", "many", "turn", "here", "found"] [4] [(91, [2])] [] 22) (ks := [false, false]) F s_answers_by T (fun z => by cases z) rfl rfl c_answers_by) (List.forall_mem_cons.mpr ⟨fun e => absurd e (by decide), List.forall_mem_cons.mpr ⟨fun e => absurd e (by decide), fun q z => nomatch z⟩⟩)
theorem t_are_delays {fa : Addr} {fd : FuncData} (T : Tb P w K mg base g23 23) (F : Fun K "are_delays" "are_delays" (tp 40) fa fd) (m : mg "are_delays" = some (.ref fa)) : Tb P w K mg base g24 24 :=
  T.add (ps := ["line", "inputs", "value"]) m F.kp rfl (F.binds fun _ _ _ _ _ _ us hl => match us, hl with | [_, _, _], _ => rfl) (ct_of (c := cc ["line", "inputs", "value", "one", "late"] [] [] [] 23) (ks := [false, false, false]) F s_are_delays T (fun z => by cases z) rfl rfl c_are_delays) (List.forall_mem_cons.mpr ⟨fun e => absurd e (by decide), List.forall_mem_cons.mpr ⟨fun e => absurd e (by decide), fun q z => nomatch z⟩⟩)
theorem t_delayed {fa : Addr} {fd : FuncData} (T : Tb P w K mg base g24 24) (F : Fun K "delayed" "delayed" (tp 41) fa fd) (m : mg "delayed" = some (.ref fa)) : Tb P w K mg base g25 25 :=
  T.add (ps := ["inputs", "delays"]) m F.kp rfl (F.binds fun _ _ _ _ _ _ us hl => match us, hl with | [_, _], _ => rfl) (ct_of (c := cc ["inputs", "delays", "vector", "row", "time", "late"] [] [] [] 24) (ks := [false, false]) F s_delayed T (fun z => by cases z) rfl rfl c_delayed) (List.forall_mem_cons.mpr ⟨fun e => absurd e (by decide), List.forall_mem_cons.mpr ⟨fun e => absurd e (by decide), fun q z => nomatch z⟩⟩)
theorem t_mattering_of {fa : Addr} {fd : FuncData} (T : Tb P w K mg base g25 25) (F : Fun K "mattering_of" "mattering_of" (tp 42) fa fd) (m : mg "mattering_of" = some (.ref fa)) : Tb P w K mg base g26 26 :=
  T.add (ps := ["line", "inputs", "step", "output"]) m F.kp rfl (F.binds fun _ _ _ _ _ _ us hl => match us, hl with | [_, _, _, _], _ => rfl) (ct_of (c := cc ["line", "inputs", "step", "output", "near", "answers", "goal", "found", "place", "time"] [7] [(104, [4, 8, 9]), (105, [8, 9])] [] 25) (ks := [false, false, false, false]) F s_mattering_of T (fun z => by cases z) rfl rfl c_mattering_of) (List.forall_mem_cons.mpr ⟨fun e => absurd e (by decide), List.forall_mem_cons.mpr ⟨fun e => absurd e (by decide), fun q z => nomatch z⟩⟩)
theorem t_want_asked {fa : Addr} {fd : FuncData} (T : Tb P w K mg base g26 26) (F : Fun K "want_asked" "want_asked" (tp 43) fa fd) (m : mg "want_asked" = some (.ref fa)) : Tb P w K mg base g27 27 :=
  T.add (ps := ["line", "inputs", "step", "output"]) m F.kp rfl (F.binds fun _ _ _ _ _ _ us hl => match us, hl with | [_, _, _, _], _ => rfl) (ct_of (c := cc ["line", "inputs", "step", "output"] [] [] [] 26) (ks := [false, false, false, false]) F s_want_asked T (fun z => by cases z) rfl rfl c_want_asked) (List.forall_mem_cons.mpr ⟨fun e => absurd e (by decide), List.forall_mem_cons.mpr ⟨fun e => absurd e (by decide), fun q z => nomatch z⟩⟩)
theorem t_late_outputs {fa : Addr} {fd : FuncData} (T : Tb P w K mg base g27 27) (F : Fun K "late_outputs" "late_outputs" (tp 44) fa fd) (m : mg "late_outputs" = some (.ref fa)) : Tb P w K mg base g28 28 :=
  T.add (ps := ["line", "inputs", "delays"]) m F.kp rfl (F.binds fun _ _ _ _ _ _ us hl => match us, hl with | [_, _, _], _ => rfl) (ct_of (c := cc ["line", "inputs", "delays", "found", "near", "far", "one", "late"] [3] [(120, [4, 5, 6, 7])] [] 27) (ks := [false, false, false]) F s_late_outputs T (fun z => by cases z) rfl rfl c_late_outputs) (List.forall_mem_cons.mpr ⟨fun _ => kb_of F rfl rfl (by decide) fun _ _ _ _ _ _ ws hl => match ws, hl with | [_, _, _], _ => rfl, List.forall_mem_cons.mpr ⟨fun e => absurd e (by decide), fun q z => nomatch z⟩⟩)
theorem t_mattering_inputs {fa : Addr} {fd : FuncData} (T : Tb P w K mg base g28 28) (F : Fun K "mattering_inputs" "mattering_inputs" (tp 45) fa fd) (m : mg "mattering_inputs" = some (.ref fa)) : Tb P w K mg base g29 29 :=
  T.add (ps := ["line", "inputs", "step", "output"]) m F.kp rfl (F.binds fun _ _ _ _ _ _ us hl => match us, hl with | [_, _, _, _], _ => rfl) (ct_of (c := cc ["line", "inputs", "step", "output"] [] [] [] 28) (ks := [false, false, false, false]) F s_mattering_inputs T (fun z => by cases z) rfl rfl c_mattering_inputs) (List.forall_mem_cons.mpr ⟨fun e => absurd e (by decide), List.forall_mem_cons.mpr ⟨fun _ => kb_of F rfl rfl (by decide) fun _ _ _ _ _ _ ws hl => match ws, hl with | [_, _, _, _], _ => rfl, fun q z => nomatch z⟩⟩)
theorem t_l_pot {fa : Addr} {fd : FuncData} (T : Tb P w K mg base g29 29) (F : Fun K "_law_pot" "_law_pot" (tp 47) fa fd) (m : mg "_law_pot" = some (.ref fa)) : Tb P w K mg base g30 30 :=
  T.add (ps := ["script", "k"]) m F.kp rfl (F.binds fun _ _ _ _ _ _ us hl => match us, hl with | [_, _], _ => rfl) (ct_of (c := cc ["script", "k", "cell"] [] [] [] 29) (ks := [false, false]) F s_l_pot T (fun z => by cases z) rfl rfl c_l_pot) (List.forall_mem_cons.mpr ⟨fun e => absurd e (by decide), List.forall_mem_cons.mpr ⟨fun e => absurd e (by decide), fun q z => nomatch z⟩⟩)
theorem t_l_draw {fa : Addr} {fd : FuncData} (T : Tb P w K mg base g30 30) (F : Fun K "_law_draw" "_law_draw" (tp 48) fa fd) (m : mg "_law_draw" = some (.ref fa)) : Tb P w K mg base g31 31 :=
  T.add (ps := ["pot", "many"]) m F.kp rfl (F.binds fun _ _ _ _ _ _ us hl => match us, hl with | [_, _], _ => rfl) (ct_of (c := cc ["pot", "many", "digit"] [0] [] [] 30) (ks := [true, false]) F s_l_draw T (fun z => by cases z) rfl rfl c_l_draw) (List.forall_mem_cons.mpr ⟨fun e => absurd e (by decide), List.forall_mem_cons.mpr ⟨fun e => absurd e (by decide), fun q z => nomatch z⟩⟩)
theorem t_l_pick {fa : Addr} {fd : FuncData} (T : Tb P w K mg base g31 31) (F : Fun K "_law_pick" "_law_pick" (tp 49) fa fd) (m : mg "_law_pick" = some (.ref fa)) : Tb P w K mg base g32 32 :=
  T.add (ps := ["pot", "some"]) m F.kp rfl (F.binds fun _ _ _ _ _ _ us hl => match us, hl with | [_, _], _ => rfl) (ct_of (c := cc ["pot", "some"] [0] [] [] 31) (ks := [true, false]) F s_l_pick T (fun z => by cases z) rfl rfl c_l_pick) (List.forall_mem_cons.mpr ⟨fun e => absurd e (by decide), List.forall_mem_cons.mpr ⟨fun e => absurd e (by decide), fun q z => nomatch z⟩⟩)
theorem t_l_entry {fa : Addr} {fd : FuncData} (T : Tb P w K mg base g32 32) (F : Fun K "_law_entry" "_law_entry" (tp 50) fa fd) (m : mg "_law_entry" = some (.ref fa)) : Tb P w K mg base g33 33 :=
  T.add (ps := ["pot"]) m F.kp rfl (F.binds fun _ _ _ _ _ _ us hl => match us, hl with | [_], _ => rfl) (ct_of (c := cc ["pot", "digit"] [0] [] [] 32) (ks := [true]) F s_l_entry T (fun z => by cases z) rfl rfl c_l_entry) (List.forall_mem_cons.mpr ⟨fun e => absurd e (by decide), List.forall_mem_cons.mpr ⟨fun e => absurd e (by decide), fun q z => nomatch z⟩⟩)
theorem t_l_table {fa : Addr} {fd : FuncData} (T : Tb P w K mg base g33 33) (F : Fun K "_law_table" "_law_table" (tp 51) fa fd) (m : mg "_law_table" = some (.ref fa)) : Tb P w K mg base g34 34 :=
  T.add (ps := ["pot", "rows", "columns"]) m F.kp rfl (F.binds fun _ _ _ _ _ _ us hl => match us, hl with | [_, _, _], _ => rfl) (ct_of (c := cc ["pot", "rows", "columns", "near", "far"] [0] [] [] 33) (ks := [true, false, false]) F s_l_table T (fun z => by cases z) rfl rfl c_l_table) (List.forall_mem_cons.mpr ⟨fun e => absurd e (by decide), List.forall_mem_cons.mpr ⟨fun e => absurd e (by decide), fun q z => nomatch z⟩⟩)
theorem t_l_line {fa : Addr} {fd : FuncData} (T : Tb P w K mg base g34 34) (F : Fun K "_law_line" "_law_line" (tp 52) fa fd) (m : mg "_law_line" = some (.ref fa)) : Tb P w K mg base g35 35 :=
  T.add (ps := ["pot", "most"]) m F.kp rfl (F.binds fun _ _ _ _ _ _ us hl => match us, hl with | [_, _], _ => rfl) (ct_of (c := cc ["pot", "most", "places", "ins", "outs"] [0] [] [] 34) (ks := [true, false]) F s_l_line T (fun z => by cases z) rfl rfl c_l_line) (List.forall_mem_cons.mpr ⟨fun e => absurd e (by decide), List.forall_mem_cons.mpr ⟨fun e => absurd e (by decide), fun q z => nomatch z⟩⟩)
theorem t_l_vectors {fa : Addr} {fd : FuncData} (T : Tb P w K mg base g35 35) (F : Fun K "_law_vectors" "_law_vectors" (tp 53) fa fd) (m : mg "_law_vectors" = some (.ref fa)) : Tb P w K mg base g36 36 :=
  T.add (ps := ["pot", "steps", "many"]) m F.kp rfl (F.binds fun _ _ _ _ _ _ us hl => match us, hl with | [_, _, _], _ => rfl) (ct_of (c := cc ["pot", "steps", "many", "turn", "found", "great", "one"] [0, 4] [(148, [3, 6])] [] 35) (ks := [true, false, false]) F s_l_vectors T (fun z => by cases z) rfl rfl c_l_vectors) (List.forall_mem_cons.mpr ⟨fun e => absurd e (by decide), List.forall_mem_cons.mpr ⟨fun e => absurd e (by decide), fun q z => nomatch z⟩⟩)
theorem t_l_latest {fa : Addr} {fd : FuncData} (T : Tb P w K mg base g36 36) (F : Fun K "_law_latest" "_law_latest" (tp 54) fa fd) (m : mg "_law_latest" = some (.ref fa)) : Tb P w K mg base g37 37 :=
  T.add (ps := ["some"]) m F.kp rfl (F.binds fun _ _ _ _ _ _ us hl => match us, hl with | [_], _ => rfl) (ct_of (c := cc ["some", "times", "one"] [] [] [] 36) (ks := [false]) F s_l_latest T (fun z => by cases z) rfl rfl c_l_latest) (List.forall_mem_cons.mpr ⟨fun e => absurd e (by decide), List.forall_mem_cons.mpr ⟨fun e => absurd e (by decide), fun q z => nomatch z⟩⟩)
theorem t_l_plus {fa : Addr} {fd : FuncData} (T : Tb P w K mg base g37 37) (F : Fun K "_law_plus" "_law_plus" (tp 55) fa fd) (m : mg "_law_plus" = some (.ref fa)) : Tb P w K mg base g38 38 :=
  T.add (ps := ["one", "other"]) m F.kp rfl (F.binds fun _ _ _ _ _ _ us hl => match us, hl with | [_, _], _ => rfl) (ct_of (c := cc ["one", "other"] [] [] [] 37) (ks := [false, false]) F s_l_plus T (fun z => by cases z) rfl rfl c_l_plus) (List.forall_mem_cons.mpr ⟨fun e => absurd e (by decide), List.forall_mem_cons.mpr ⟨fun e => absurd e (by decide), fun q z => nomatch z⟩⟩)
theorem t_l_rows {fa : Addr} {fd : FuncData} (T : Tb P w K mg base g38 38) (F : Fun K "_law_rows" "_law_rows" (tp 56) fa fd) (m : mg "_law_rows" = some (.ref fa)) : Tb P w K mg base g39 39 :=
  T.add (ps := ["table", "vector"]) m F.kp rfl (F.binds fun _ _ _ _ _ _ us hl => match us, hl with | [_, _], _ => rfl) (ct_of (c := cc ["table", "vector", "found", "row", "entry", "time"] [2] [(158, [3, 4, 5])] [] 38) (ks := [false, false]) F s_l_rows T (fun z => by cases z) rfl rfl c_l_rows) (List.forall_mem_cons.mpr ⟨fun e => absurd e (by decide), List.forall_mem_cons.mpr ⟨fun e => absurd e (by decide), fun q z => nomatch z⟩⟩)
theorem t_l_states {fa : Addr} {fd : FuncData} (T : Tb P w K mg base g39 39) (F : Fun K "_law_states" "_law_states" (tp 57) fa fd) (m : mg "_law_states" = some (.ref fa)) : Tb P w K mg base g40 40 :=
  T.add (ps := ["line", "inputs"]) m F.kp rfl (F.binds fun _ _ _ _ _ _ us hl => match us, hl with | [_, _], _ => rfl) (ct_of (c := cc ["line", "inputs", "vector", "found", "last", "near", "far", "one", "other"] [3] [(163, [2, 5, 6, 7, 8])] [] 39) (ks := [false, false]) F s_l_states T (fun z => by cases z) rfl rfl c_l_states) (List.forall_mem_cons.mpr ⟨fun e => absurd e (by decide), List.forall_mem_cons.mpr ⟨fun e => absurd e (by decide), fun q z => nomatch z⟩⟩)
theorem t_l_outputs {fa : Addr} {fd : FuncData} (T : Tb P w K mg base g40 40) (F : Fun K "_law_outputs" "_law_outputs" (tp 58) fa fd) (m : mg "_law_outputs" = some (.ref fa)) : Tb P w K mg base g41 41 :=
  T.add (ps := ["line", "inputs"]) m F.kp rfl (F.binds fun _ _ _ _ _ _ us hl => match us, hl with | [_, _], _ => rfl) (ct_of (c := cc ["line", "inputs", "state"] [] [] [] 40) (ks := [false, false]) F s_l_outputs T (fun z => by cases z) rfl rfl c_l_outputs) (List.forall_mem_cons.mpr ⟨fun e => absurd e (by decide), List.forall_mem_cons.mpr ⟨fun e => absurd e (by decide), fun q z => nomatch z⟩⟩)
theorem t_l_even_vectors {fa : Addr} {fd : FuncData} (T : Tb P w K mg base g41 41) (F : Fun K "_law_even_vectors" "_law_even_vectors" (tp 60) fa fd) (m : mg "_law_even_vectors" = some (.ref fa)) : Tb P w K mg base g42 42 :=
  T.add (ps := ["pot", "steps", "many"]) m F.kp rfl (F.binds fun _ _ _ _ _ _ us hl => match us, hl with | [_, _, _], _ => rfl) (ct_of (c := cc ["pot", "steps", "many", "turn", "one"] [0] [] [] 41) (ks := [true, false, false]) F s_l_even_vectors T (fun z => by cases z) rfl rfl c_l_even_vectors) (List.forall_mem_cons.mpr ⟨fun e => absurd e (by decide), List.forall_mem_cons.mpr ⟨fun e => absurd e (by decide), fun q z => nomatch z⟩⟩)
theorem t_l_moved {fa : Addr} {fd : FuncData} (T : Tb P w K mg base g42 42) (F : Fun K "_law_moved" "_law_moved" (tp 61) fa fd) (m : mg "_law_moved" = some (.ref fa)) : Tb P w K mg base g43 43 :=
  T.add (ps := ["inputs", "step", "place", "more"]) m F.kp rfl (F.binds fun _ _ _ _ _ _ us hl => match us, hl with | [_, _, _, _], _ => rfl) (ct_of (c := cc ["inputs", "step", "place", "more", "late"] [4] [] [] 42) (ks := [false, false, false, false]) F s_l_moved T (fun z => by cases z) rfl rfl c_l_moved) (List.forall_mem_cons.mpr ⟨fun e => absurd e (by decide), List.forall_mem_cons.mpr ⟨fun e => absurd e (by decide), fun q z => nomatch z⟩⟩)
theorem t_l_matters {fa : Addr} {fd : FuncData} (T : Tb P w K mg base g43 43) (F : Fun K "_law_matters" "_law_matters" (tp 62) fa fd) (m : mg "_law_matters" = some (.ref fa)) : Tb P w K mg base g44 44 :=
  T.add (ps := ["line", "inputs", "goal"]) m F.kp rfl (F.binds fun _ _ _ _ _ _ us hl => match us, hl with | [_, _, _], _ => rfl) (ct_of (c := cc ["line", "inputs", "goal", "step", "found", "time", "place", "one", "alone", "turn", "far"] [4, 8] [(191, [3, 6, 7, 8, 9, 10]), (192, [6, 7, 8, 9, 10])] [(195, [8])] 43) (ks := [false, false, false]) F s_l_matters T (fun z => by cases z) rfl rfl c_l_matters) (List.forall_mem_cons.mpr ⟨fun e => absurd e (by decide), List.forall_mem_cons.mpr ⟨fun e => absurd e (by decide), fun q z => nomatch z⟩⟩)
theorem t_l_late {fa : Addr} {fd : FuncData} (T : Tb P w K mg base g44 44) (F : Fun K "_law_late" "_law_late" (tp 63) fa fd) (m : mg "_law_late" = some (.ref fa)) : Tb P w K mg base g45 45 :=
  T.add (ps := ["line", "inputs", "delays"]) m F.kp rfl (F.binds fun _ _ _ _ _ _ us hl => match us, hl with | [_, _, _], _ => rfl) (ct_of (c := cc ["line", "inputs", "delays", "late", "found", "near", "far", "vector", "row", "time", "more", "one", "other"] [4] [(201, [5, 6, 11, 12])] [] 44) (ks := [false, false, false]) F s_l_late T (fun z => by cases z) rfl rfl c_l_late) (List.forall_mem_cons.mpr ⟨fun e => absurd e (by decide), List.forall_mem_cons.mpr ⟨fun e => absurd e (by decide), fun q z => nomatch z⟩⟩)
theorem t_l_delays_right {fa : Addr} {fd : FuncData} (T : Tb P w K mg base g45 45) (F : Fun K "_law_delays_right" "_law_delays_right" (tp 64) fa fd) (m : mg "_law_delays_right" = some (.ref fa)) : Tb P w K mg base g46 46 :=
  T.add (ps := ["line", "inputs", "delays"]) m F.kp rfl (F.binds fun _ _ _ _ _ _ us hl => match us, hl with | [_, _, _], _ => rfl) (ct_of (c := cc ["line", "inputs", "delays", "told", "most", "due", "shown", "step", "row", "output", "late", "some", "near", "place"] [3] [(210, [7, 8, 9, 10, 11, 12, 13]), (211, [9, 10, 11, 12, 13])] [(207, [3])] 45) (ks := [false, false, false]) F s_l_delays_right T (fun z => by cases z) rfl rfl c_l_delays_right) (List.forall_mem_cons.mpr ⟨fun e => absurd e (by decide), List.forall_mem_cons.mpr ⟨fun e => absurd e (by decide), fun q z => nomatch z⟩⟩)
theorem t_l_line_right {fa : Addr} {fd : FuncData} (T : Tb P w K mg base g46 46) (F : Fun K "_law_line_right" "_law_line_right" (tp 65) fa fd) (m : mg "_law_line_right" = some (.ref fa)) : Tb P w K mg base g47 47 :=
  T.add (ps := ["pot", "line", "inputs"]) m F.kp rfl (F.binds fun _ _ _ _ _ _ us hl => match us, hl with | [_, _, _], _ => rfl) (ct_of (c := cc ["pot", "line", "inputs", "step", "one", "many", "shown", "wide", "steps", "output", "at", "place", "due", "told", "time", "near", "far"] [0, 13] [(219, [3, 9, 11, 12, 13, 14, 15]), (220, [9, 11, 12, 13, 14, 15]), (227, [11, 15])] [(223, [13])] 46) (ks := [true, false, false]) F s_l_line_right T (fun z => by cases z) rfl rfl c_l_line_right) (List.forall_mem_cons.mpr ⟨fun e => absurd e (by decide), List.forall_mem_cons.mpr ⟨fun e => absurd e (by decide), fun q z => nomatch z⟩⟩)
theorem t_l_right {fa : Addr} {fd : FuncData} (T : Tb P w K mg base g47 47) (F : Fun K "_law_right" "_law_right" (tp 66) fa fd) (m : mg "_law_right" = some (.ref fa)) : Tb P w K mg base g48 48 :=
  T.add (ps := ["pot"]) m F.kp rfl (F.binds fun _ _ _ _ _ _ us hl => match us, hl with | [_], _ => rfl) (ct_of (c := cc ["pot", "line", "wide", "some"] [0] [] [] 47) (ks := [true]) F s_l_right T (fun z => by cases z) rfl rfl c_l_right) (List.forall_mem_cons.mpr ⟨fun e => absurd e (by decide), List.forall_mem_cons.mpr ⟨fun e => absurd e (by decide), fun q z => nomatch z⟩⟩)
theorem t_l_gaps_right {fa : Addr} {fd : FuncData} (T : Tb P w K mg base g48 48) (F : Fun K "_law_gaps_right" "_law_gaps_right" (tp 67) fa fd) (m : mg "_law_gaps_right" = some (.ref fa)) : Tb P w K mg base g49 49 :=
  T.add (ps := ["pot"]) m F.kp rfl (F.binds fun _ _ _ _ _ _ us hl => match us, hl with | [_], _ => rfl) (ct_of (c := cc ["pot", "gap", "step", "delays", "turn", "gaps", "line", "times", "at", "late", "due", "left", "time"] [0, 7] [(244, [1]), (248, [2])] [] 48) (ks := [true]) F s_l_gaps_right T (fun z => by cases z) rfl rfl c_l_gaps_right) (List.forall_mem_cons.mpr ⟨fun e => absurd e (by decide), List.forall_mem_cons.mpr ⟨fun e => absurd e (by decide), fun q z => nomatch z⟩⟩)
theorem t_law {fa : Addr} {fd : FuncData} (T : Tb P w K mg base g49 49) (F : Fun K "law" "law" (tp 68) fa fd) (m : mg "law" = some (.ref fa)) : Tb P w K mg base g50 50 :=
  T.add (ps := ["script"]) m F.kp rfl (F.binds fun _ _ _ _ _ _ us hl => match us, hl with | [_], _ => rfl) (ct_of (c := cc ["script", "k"] [] [(254, [1])] [] 49) (ks := [false]) F s_law T (fun z => by cases z) rfl rfl c_law) (List.forall_mem_cons.mpr ⟨fun e => absurd e (by decide), List.forall_mem_cons.mpr ⟨fun e => absurd e (by decide), fun q z => nomatch z⟩⟩)
end
end k94

namespace Lz
open PySem PySem.Spec PyProof.Rows L2 Dx Pz
theorem decs_of {α : Type} {dec : α → PyData} : ∀ {ds : List PyData} {Q : α → Prop}, (∀ d ∈ ds, ∃ o, d = dec o ∧ Q o) → ∃ v : List α, ds = v.map dec ∧ ∀ o ∈ v, Q o
  | [], Q, _ => ⟨[], rfl, fun q hq => by cases hq⟩
  | d :: ds, Q, h => by
    obtain ⟨q, rfl, hq⟩ := h d List.mem_cons_self
    obtain ⟨qs, rfl, h2⟩ := decs_of fun x hx => h x (List.mem_cons_of_mem _ hx)
    refine ⟨q :: qs, rfl, fun x hx => ?_⟩
    rcases List.mem_cons.mp hx with rfl | hx
    · exact hq
    · exact h2 x hx
/-- a comprehension that draws: the pot in the slots E -/
theorem lc_pot {G : Gx} {wf : Nat} {α : Type} {elt it : I} {i : Nat} {ρ0 : Env1} (E : Int → Int → Option Sl → Env1) (xs : List PyData) (dec : α → PyData) (Q : α → Prop) {a b : Int} (hb : potB b)
    (h1 : (sm G [0] wf it).i ρ0 = some (xs, E a b none)) (hl : xs.length ≤ sizeLine) (h2 : ([i].all fun v => match (E a b none)[v]? with | some (some (.own _)) => false | _ => true) = true)
    (ht : ∀ a b x, (sm G [0] wf (.tnm i)).t x (wipeE (E a b none) [i]) = some (E a b (some (.dat x))))
    (hk : ∀ a' b' x, backE (E a b none) (E a' b' (some (.dat x))) [i] = E a' b' none)
    (h : ∀ x ∈ xs, ∀ a b, potB b → ∃ o a' b' r, (sm G [0] wf elt).e (E a b (some (.dat x))) = some (r, E a' b' (some (.dat x))) ∧ r.d = dec o ∧ Q o ∧ potB b') :
    ∃ (os : List α) (a' b' : Int), (sm G [0] wf (.lc elt (.tnm i) it (.bl true) [i])).e ρ0 = some (.frs (os.map dec), E a' b' none) ∧ os.length = xs.length ∧ (∀ o ∈ os, Q o) ∧ potB b' := by
  obtain ⟨ds, ρ', g1, g2, g3, a3, b3, rfl, hb3⟩ := lcG_inv (vs := [i]) (ρ0 := E a b none) (t := (sm G [0] wf (.tnm i)).t) (c := (sm G [0] wf (.bl true)).e) (e := (sm G [0] wf elt).e)
    (fun ρ => ∃ a b, ρ = E a b none ∧ potB b) (fun d => ∃ o, d = dec o ∧ Q o) xs (E a b none) [] ⟨a, b, rfl, hb⟩ (by simpa using hl) (by
      rintro x hx ρ ⟨a1, b1, rfl, hb1⟩
      obtain ⟨o, a', b', r, e, e2, h3, h4⟩ := h x hx a1 b1 hb1
      exact ⟨_, .dat (.bool true), _, r, _, ht a1 b1 x, rfl, rfl, e, ⟨o, e2, h3⟩, a', b', hk a' b' x, h4⟩)
  simp only [List.nil_append] at g1
  obtain ⟨os, rfl, h5⟩ := decs_of g3
  exact ⟨os, a3, b3, lc_ev h1 h2 g1, by simpa using g2, h5, hb3⟩
theorem set_pol {v : Vc} {p : Nat} (h : p < v.length) (o : Tt) : ((v.map optD).take p ++ [optD o]) ++ (v.map optD).drop (p + 1) = (v.set p o).map optD := by
  rw [List.map_set, List.set_eq_take_append_cons_drop, if_pos (by rw [List.length_map]; exact h)]
  simp
theorem ix_nat {n j : Nat} (h : j < n) : ixN n (j : Int) = some j := by
  unfold ixN
  rw [if_pos (by omega), if_pos (by omega)]
  congr 1
/-- v[:p] + (o,) + v[p + 1:] -/
theorem cutT (v : Vc) (p : Nat) : slcD (polD v) none (some (p : Int)) = some (.dat (.tuple ((v.map optD).take p))) := by
  show some (R.dat (.tuple (Dx.cutD (v.map optD) none (some (p : Int))))) = _
  rw [cut_to]
theorem cutD' (v : Vc) (p : Nat) : slcD (polD v) (some ((p : Int) + 1)) none = some (.dat (.tuple ((v.map optD).drop (p + 1)))) := by
  show some (R.dat (.tuple (Dx.cutD (v.map optD) (some ((p : Int) + 1)) none))) = _
  rw [show ((p : Int) + 1) = ((p + 1 : Nat) : Int) from rfl, cut_from]
theorem cat_pol {v : Vc} {p : Nat} (h : p < v.length) (hl : v.length ≤ 1000) (o : Tt) : binD .Add (.tuple ((v.map optD).take p)) (.tuple [optD o]) = some (.dat (.tuple ((v.map optD).take p ++ [optD o]))) ∧ binD .Add (.tuple ((v.map optD).take p ++ [optD o])) (.tuple ((v.map optD).drop (p + 1))) = some (.dat (polD (v.set p o))) := by
  refine ⟨bin_catT (by rw [szE]; simp; omega), ?_⟩
  rw [bin_catT (by rw [szE]; simp; omega), set_pol h]; rfl
theorem flat_one {α : Type} (x : α) : ∀ n : Nat, (List.replicate n [x]).flatten = List.replicate n x
  | 0 => rfl
  | n + 1 => by rw [List.replicate_succ, List.flatten_cons, flat_one x n, List.replicate_succ]; rfl
theorem rep_none (n : Nat) (h : n ≤ 1000) : binD .Mult (.tuple [.none]) (.int (n : Int)) = some (.dat (polD (List.replicate n none))) := by
  rw [bin_rep (by omega) (by omega) (by simp), flat_one]
  show _ = some (R.dat (.tuple ((List.replicate n (none : Tt)).map optD)))
  rw [List.map_replicate]; rfl
/-! ### one input alone -/
def alV (L w n p : Nat) (o : Tt) : List Vc := (List.replicate L (List.replicate w none)).set n ((List.range w).map fun q => if q = p then o else none)
theorem alV_len (L w n p : Nat) (o : Tt) : (alV L w n p o).length = L := by unfold alV; rw [List.length_set, List.length_replicate]
theorem alV_w {L w n p : Nat} {o : Tt} : ∀ v ∈ alV L w n p o, v.length = w := fun v hv => by
  unfold alV at hv
  rcases List.mem_or_eq_of_mem_set hv with h | h
  · rw [List.eq_of_mem_replicate h, List.length_replicate]
  · rw [h, List.length_map, List.length_range]
theorem alone_g {L w n p m q : Nat} {o : Tt} (hn : n < L) (hp : p < w) : g ((alV L w n p o).getD m []) q = if m = n ∧ q = p then o else none := by
  unfold alV
  rw [List.getD_eq_getElem?_getD, List.getElem?_set]
  by_cases h : n = m
  · subst h
    rw [if_pos rfl, if_pos (by rw [List.length_replicate]; exact hn)]
    by_cases hq : q < w
    · have : ((List.range w).map fun q => if q = p then o else none)[q]? = some (if q = p then o else none) := by rw [List.getElem?_map, List.getElem?_range hq]; rfl
      show g ((List.range w).map _) q = _
      rw [g_of this]; simp
    · show g ((List.range w).map _) q = _
      rw [g_out (by rw [List.length_map, List.length_range]; omega), if_neg (by omega)]
  · rw [if_neg h, if_neg (by omega), List.getElem?_replicate]
    split
    · exact g_nones _ _
    · rfl
theorem alone_out {A B C : Tb} {w : Nat} (h : LiOk A B C w) {L k n p i : Nat} {o : Tt} (hk : n ≤ k) (hn : n < L) (hp : p < w) : g (oAt A B C (alV L w n p o) k) i = pl (Lz.G (an A B C (k - n)) i p) o := by
  refine (o_lub (A := A) (B := B) (C := C) h.a.ne h.b.rect h.l.symm (alV L w n p o) k i).eq fun b => ?_
  constructor
  · intro hle x
    dsimp only
    split
    · rw [alone_g hn hp]
      split
      · rename_i e
        rw [e.1, e.2]; exact hle
      · rw [pl_none]; exact Le.none _
    · exact Le.none _
  · intro H
    have := H (n, p)
    dsimp only at this
    rw [if_pos hk, alone_g hn hp, if_pos ⟨rfl, rfl⟩] at this
    exact this
end Lz

namespace k94
open PySem PySem.Spec PyProof.Rows L2 Dx Pz Lz
theorem e_l_even_vectors : S_l_vectors f_l_even_vectors := fun a b n m hb hn hm => by
  have hrn := rng_n n (by omega)
  have hrm := rng_n m (by omega)
  have inner : ∀ (a b : Int) (x : Option Sl), potB b → ∃ (v : Vc) (a' b' : Int), (sm g41 [0] Lz.wfuel i_l_even_vectors_c1).e [some (potS a b), some (.dat (.int n)), some (.dat (.int m)), x, none] = some (.frs (v.map optD), [some (potS a' b'), some (.dat (.int n)), some (.dat (.int m)), x, none]) ∧ vecB m v ∧ potB b' := fun a b x hb => by
    obtain ⟨os, a', b', h1, h2, h3, h4⟩ := lc_pot (G := g41) (wf := Lz.wfuel) (elt := i_l_even_vectors_c1e) (it := .irg (.var 2)) (i := 4) (a := a) (b := b) (ρ0 := [some (potS a b), some (.dat (.int n)), some (.dat (.int m)), x, none]) (fun a b s => [some (potS a b), some (.dat (.int n)), some (.dat (.int m)), x, s]) ((List.range m).map fun (i : Nat) => .int i) optD timB hb (by simp [sm, ownsAt, outs, argG, isAbs, arsD, arD, refs, slsOf, slOf, putBack, pubD, getD, getO, setS, wipeE, backE, partD, parG, Out.fg, borG, borE, -List.getD_eq_getElem?_getD, hrm]) (by rw [szE]; simp; omega) (by simp) (fun a b x => by simp [sm, ownsAt, outs, argG, isAbs, arsD, arD, refs, slsOf, slOf, putBack, pubD, getD, getO, setS, wipeE, backE, partD, parG, Out.fg, borG, borE, -List.getD_eq_getElem?_getD]) (fun a' b' x => by simp [sm, ownsAt, outs, argG, isAbs, arsD, arD, refs, slsOf, slOf, putBack, pubD, getD, getO, setS, wipeE, backE, partD, parG, Out.fg, borG, borE, -List.getD_eq_getElem?_getD]) fun y hy a b hb => by
      obtain ⟨r, a1, b1, w1, hr, hb1⟩ := e_l_pick a b [.none, .int 0, .int 0, .int 1, .int 2, .int 4] hb (by simp) (by simp)
      have : ∃ o, r = optD o ∧ timB o := by
        simp at hr
        rcases hr with rfl | rfl | rfl | rfl | rfl
        · exact ⟨none, rfl, fun x e => (by cases e)⟩
        all_goals exact ⟨some _, rfl, fun x e => (by cases e; omega)⟩
      obtain ⟨o, rfl, ho⟩ := this
      refine ⟨o, a1, b1, .dat (optD o), ?_, rfl, ho, hb1⟩
      unfold i_l_even_vectors_c1e
      unfold potS at *
      simp [sm, ownsAt, outs, argG, isAbs, arsD, arD, refs, slsOf, slOf, putBack, pubD, getD, getO, setS, wipeE, backE, partD, parG, Out.fg, borG, borE, -List.getD_eq_getElem?_getD, szE, q41_l_pick, w1]
    exact ⟨os, a', b', h1, ⟨by simpa using h2, h3⟩, h4⟩
  obtain ⟨os, a', b', h1, h2, h3, h4⟩ := lc_pot (G := g41) (wf := Lz.wfuel) (elt := i_l_even_vectors_c0e) (it := .irg (.var 1)) (i := 3) (a := a) (b := b) (ρ0 := [some (potS a b), some (.dat (.int n)), some (.dat (.int m)), none, none]) (fun a b s => [some (potS a b), some (.dat (.int n)), some (.dat (.int m)), s, none]) ((List.range n).map fun (i : Nat) => .int i) polD (vecB m) hb (by simp [sm, ownsAt, outs, argG, isAbs, arsD, arD, refs, slsOf, slOf, putBack, pubD, getD, getO, setS, wipeE, backE, partD, parG, Out.fg, borG, borE, -List.getD_eq_getElem?_getD, hrn]) (by rw [szE]; simp; omega) (by simp) (fun a b x => by simp [sm, ownsAt, outs, argG, isAbs, arsD, arD, refs, slsOf, slOf, putBack, pubD, getD, getO, setS, wipeE, backE, partD, parG, Out.fg, borG, borE, -List.getD_eq_getElem?_getD]) (fun a' b' x => by simp [sm, ownsAt, outs, argG, isAbs, arsD, arD, refs, slsOf, slOf, putBack, pubD, getD, getO, setS, wipeE, backE, partD, parG, Out.fg, borG, borE, -List.getD_eq_getElem?_getD]) fun y hy a b hb => by
    obtain ⟨v, a1, b1, w1, hv, hb1⟩ := inner a b (some (.dat y)) hb
    refine ⟨v, a1, b1, .dat (polD v), ?_, rfl, hv, hb1⟩
    have tt : bltD "tuple" [.list (v.map optD)] = some (.dat (polD v)) := rfl
    unfold i_l_even_vectors_c0e
    unfold potS at *
    simp [sm, ownsAt, outs, argG, isAbs, arsD, arD, refs, slsOf, slOf, putBack, pubD, getD, getO, setS, wipeE, backE, partD, parG, Out.fg, borG, borE, -List.getD_eq_getElem?_getD, w1, tt]
  have h1 : (sm g41 [0] Lz.wfuel i_l_even_vectors_c0).e [some (potS a b), some (.dat (.int n)), some (.dat (.int m)), none, none] = _ := h1
  refine ⟨os, a', b', ?_, by simpa using h2, h3, h4⟩
  unfold f_l_even_vectors fnS i_l_even_vectors
  generalize os.map polD = L at *
  unfold potS at *
  simp [sm, ownsAt, outs, argG, isAbs, arsD, arD, refs, slsOf, slOf, putBack, pubD, getD, getO, setS, wipeE, backE, partD, parG, Out.fg, borG, borE, -List.getD_eq_getElem?_getD, h1, outs]
def mvV (vs : List Vc) (n p : Nat) (m : Int) : List Vc := vs.set n ((vs.getD n []).set p (pl (g (vs.getD n []) p) (some m)))
abbrev S_moved (f : Fn) : Prop := ∀ (vs : List Vc) (n p : Nat) (m : Int), n < vs.length → p < (vs.getD n []).length → (vs.getD n []).length ≤ 1000 → f [.dat (.list (vs.map polD)), .dat (.int n), .dat (.int p), .dat (.int m)] = some (.frs ((mvV vs n p m).map polD), [.dat (.list (vs.map polD)), .dat (.int n), .dat (.int p), .dat (.int m)])
theorem e_l_moved : S_moved f_l_moved := fun vs n p m hn hp hl => by
  have ix := idx_ls hn
  have ix2 := idx_pol hp
  have w := e_l_plus (g (vs.getD n []) p) (some m)
  have c1 := cutT (vs.getD n []) p
  have c2 := cutD' (vs.getD n []) p
  obtain ⟨b1, b2⟩ := cat_pol hp hl (pl (g (vs.getD n []) p) (some m))
  have lx : bltD "list" [.list (vs.map polD)] = some (.frs (vs.map polD)) := rfl
  have il : ixN (vs.map polD).length (n : Int) = some n := ix_nat (by rw [List.length_map]; exact hn)
  have st : (vs.map polD).set n (polD ((vs.getD n []).set p (pl (g (vs.getD n []) p) (some m)))) = (mvV vs n p m).map polD := by unfold mvV; rw [List.map_set]
  unfold f_l_moved fnS i_l_moved
  generalize (mvV vs n p m).map polD = R at *
  generalize vs.map polD = L at *
  generalize (vs.getD n []).set p (pl (g (vs.getD n []) p) (some m)) = N at *
  generalize hy : pl (g (vs.getD n []) p) (some m) = y at *
  have w : f_l_plus [.dat (optD (g (vs.getD n []) p)), .dat (.int m)] = some (.dat (optD y), [.dat (optD (g (vs.getD n []) p)), .dat (.int m)]) := w
  generalize ((vs.getD n []).map optD).take p = TK at *
  generalize ((vs.getD n []).map optD).drop (p + 1) = DR at *
  simp [sm, ownsAt, outs, argG, isAbs, arsD, arD, refs, slsOf, slOf, putBack, pubD, getD, getO, setS, wipeE, backE, partD, parG, Out.fg, borG, borE, -List.getD_eq_getElem?_getD, szE, lx, ix, ix2, q42_l_plus, w, c1, c2, b1, b2, il, st, outs]
abbrev S_matters (f : Fn) : Prop := ∀ (A B C : Tb) (w : Nat) (vs : List Vc) (k i : Nat), LiOk A B C w → InOk vs w → k < vs.length → i < C.length → f [.dat (liD A B C), .dat (.list (vs.map polD)), .dat (.tuple [.int k, .int i])] = some (.frs ((matL A B C vs k i).map prN), [.dat (liD A B C), .dat (.list (vs.map polD)), .dat (.tuple [.int k, .int i])])
theorem e_l_matters : S_matters f_l_matters := fun A B C w vs k i h hv hk hi => by
  have hl := hv.len
  have w8 := h.b.m8
  have w2 := e_l_outputs A B C w false vs h (by omega) (hv.vl w8)
  have w2 : f_l_outputs [.dat (liD A B C), .dat (.list (vs.map polD))] = _ := w2
  have ix1 := idx_ls (vs := out A B C vs) (i := k) (by rw [out_len]; exact hk)
  rw [out_getD hk] at ix1
  have ix2 := idx_pol (v := oAt A B C vs k) (i := i) (by rw [oAt_len]; exact hi)
  have v0 := (hv.vec _ (getD_mem (i := 0) (by omega))).1
  have i0 : idxD (.list (vs.map polD)) (.int 0) = some (polD (vs.getD 0 [])) := idx_ls (vs := vs) (i := 0) (by omega)
  have l0 := len_pol (vs.getD 0 [])
  rw [v0] at l0
  have rw0 := rng_n w (by omega)
  obtain ⟨goal, hg⟩ : ∃ goal, g (oAt A B C vs k) i = goal := ⟨_, rfl⟩
  obtain ⟨inn, hinn⟩ : ∃ inn : Nat → List (Nat × Nat), inn = fun n => ((List.range (vs.getD n []).length).filter fun p => cnd A B C vs k i goal n p).map fun p => (n, p) := ⟨_, rfl⟩
  have innl : ∀ n, n < k + 1 → (inn n).length ≤ 8 := fun n hn => by
    rw [hinn, List.length_map]
    refine Nat.le_trans (List.length_filter_le _ _) ?_
    rw [List.length_range, (hv.vec _ (getD_mem (by omega))).1]; exact w8
  have inner : ∀ n, n < k + 1 → ∀ acc : List (Nat × Nat), acc.length ≤ 1000 → (sm g43 [] Lz.wfuel i_l_matters_w1).s [some (.dat (liD A B C)), some (.dat (.list (vs.map polD))), some (.dat (.tuple [.int k, .int i])), some (.dat (.int n)), some (.own (acc.map prN)), some (.dat (optD goal)), none, none, none, none, none] = some (.nx ([some (.dat (liD A B C)), some (.dat (.list (vs.map polD))), some (.dat (.tuple [.int k, .int i])), some (.dat (.int n)), some (.own ((acc ++ inn n).map prN)), some (.dat (optD goal)), none, none, none, none, none])) := fun n hn acc ha => by
    have vl := (hv.vec _ (getD_mem (i := n) (by omega))).1
    have iv := idx_ls (vs := vs) (i := n) (by omega)
    have sq : seqD (polD (vs.getD n [])) = some ((vs.getD n []).map optD) := rfl
    unfold i_l_matters_w1
    refine for_ev (ρ1 := [some (.dat (liD A B C)), some (.dat (.list (vs.map polD))), some (.dat (.tuple [.int k, .int i])), some (.dat (.int n)), some (.own (acc.map prN)), some (.dat (optD goal)), none, none, none, none, none]) (xs := (enV (vs.getD n [])).map (enE optD)) (by
      rw [← en_vec]
      generalize liD A B C = D at *
      generalize vs.map polD = V at *
      simp [sm, ownsAt, outs, argG, isAbs, arsD, arD, refs, slsOf, slOf, putBack, pubD, getD, getO, setS, wipeE, backE, partD, parG, Out.fg, borG, borE, -List.getD_eq_getElem?_getD, iv, sq]) ?_
    have := for_fold (t := (sm g43 [] Lz.wfuel (.ttp (.cons (.tnm 6) (.cons (.tnm 7) .nil)))).t) (b := (sm g43 [] Lz.wfuel i_l_matters_w1b).s) (enE optD) (fun acc : List (Nat × Nat) => [some (.dat (liD A B C)), some (.dat (.list (vs.map polD))), some (.dat (.tuple [.int k, .int i])), some (.dat (.int n)), some (.own (acc.map prN)), some (.dat (optD goal)), none, none, none, none, none])
      (fun acc x => if decide (pl (Lz.G (an A B C (k - n)) i x.1) x.2 = goal) then acc ++ [(n, x.1)] else acc) (fun r acc => (∀ x ∈ r, x.1 < w) ∧ acc.length + r.length ≤ 2000) (enV (vs.getD n [])) acc ⟨fun x hx => by
        unfold enV at hx
        obtain ⟨p, hp, rfl⟩ := List.mem_map.mp hx
        have := List.mem_range.mp hp
        show p < w
        omega, by rw [enV_len]; omega⟩ fun x r acc ⟨h1, h2⟩ => by
      obtain ⟨p, o⟩ := x
      have hp : p < w := h1 _ List.mem_cons_self
      simp only [List.length_cons] at h2
      have hz : (acc.map prN).length < 16777216 := by rw [List.length_map]; omega
      have en : prN (n, p) = .tuple [.int n, .int p] := rfl
      -- all never, then one
      have c0 : (sm g43 [] Lz.wfuel i_l_matters_c0).e [some (.dat (liD A B C)), some (.dat (.list (vs.map polD))), some (.dat (.tuple [.int k, .int i])), some (.dat (.int n)), some (.own (acc.map prN)), some (.dat (optD goal)), some (.dat (.int p)), some (.dat (optD o)), none, none, none] = some (.frs ((List.replicate vs.length (List.replicate w none)).map polD), [some (.dat (liD A B C)), some (.dat (.list (vs.map polD))), some (.dat (.tuple [.int k, .int i])), some (.dat (.int n)), some (.own (acc.map prN)), some (.dat (optD goal)), some (.dat (.int p)), some (.dat (optD o)), none, none, none]) := by
        have e : (List.replicate vs.length (List.replicate w none)).map polD = vs.map fun _ => polD (List.replicate w none) := by
          rw [List.map_replicate, List.map_const']
        rw [e]
        unfold i_l_matters_c0
        refine lc_all polD _ vs (by simp [sm, ownsAt, outs, argG, isAbs, arsD, arD, refs, slsOf, slOf, putBack, pubD, getD, getO, setS, wipeE, backE, partD, parG, Out.fg, borG, borE, -List.getD_eq_getElem?_getD]) (by simp) (by rw [szE]; omega) fun v hvm => ⟨[some (.dat (liD A B C)), some (.dat (.list (vs.map polD))), some (.dat (.tuple [.int k, .int i])), some (.dat (.int n)), some (.own (acc.map prN)), some (.dat (optD goal)), some (.dat (.int p)), some (.dat (optD o)), none, some (.dat (polD v)), none], by simp [sm, ownsAt, outs, argG, isAbs, arsD, arD, refs, slsOf, slOf, putBack, pubD, getD, getO, setS, wipeE, backE, partD, parG, Out.fg, borG, borE, -List.getD_eq_getElem?_getD], ?_, by simp [sm, ownsAt, outs, argG, isAbs, arsD, arD, refs, slsOf, slOf, putBack, pubD, getD, getO, setS, wipeE, backE, partD, parG, Out.fg, borG, borE, -List.getD_eq_getElem?_getD]⟩
        have rp := rep_none w (by omega)
        generalize vs.map polD = V at *
        unfold i_l_matters_c0e
        simp [sm, ownsAt, outs, argG, isAbs, arsD, arD, refs, slsOf, slOf, putBack, pubD, getD, getO, setS, wipeE, backE, partD, parG, Out.fg, borG, borE, -List.getD_eq_getElem?_getD, szE, i0, l0, rp]
      have c1 : ∀ S : Option Sl, (sm g43 [] Lz.wfuel i_l_matters_c1).e [some (.dat (liD A B C)), some (.dat (.list (vs.map polD))), some (.dat (.tuple [.int k, .int i])), some (.dat (.int n)), some (.own (acc.map prN)), some (.dat (optD goal)), some (.dat (.int p)), some (.dat (optD o)), S, none, none] = some (.frs (((List.range w).map fun q => if q = p then o else none).map optD), [some (.dat (liD A B C)), some (.dat (.list (vs.map polD))), some (.dat (.tuple [.int k, .int i])), some (.dat (.int n)), some (.own (acc.map prN)), some (.dat (optD goal)), some (.dat (.int p)), some (.dat (optD o)), S, none, none]) := fun S => by
        rw [List.map_map]
        unfold i_l_matters_c1
        refine lc_all (fun (i : Nat) => PyData.int i) _ (List.range w) (by
          generalize vs.map polD = V at *
          simp [sm, ownsAt, outs, argG, isAbs, arsD, arD, refs, slsOf, slOf, putBack, pubD, getD, getO, setS, wipeE, backE, partD, parG, Out.fg, borG, borE, -List.getD_eq_getElem?_getD, i0, l0, rw0]) (by simp) (by rw [szE, List.length_range]; omega) fun q hq => ⟨[some (.dat (liD A B C)), some (.dat (.list (vs.map polD))), some (.dat (.tuple [.int k, .int i])), some (.dat (.int n)), some (.own (acc.map prN)), some (.dat (optD goal)), some (.dat (.int p)), some (.dat (optD o)), S, none, some (.dat (.int q))], by simp [sm, ownsAt, outs, argG, isAbs, arsD, arD, refs, slsOf, slOf, putBack, pubD, getD, getO, setS, wipeE, backE, partD, parG, Out.fg, borG, borE, -List.getD_eq_getElem?_getD], ?_, by simp [sm, ownsAt, outs, argG, isAbs, arsD, arD, refs, slsOf, slOf, putBack, pubD, getD, getO, setS, wipeE, backE, partD, parG, Out.fg, borG, borE, -List.getD_eq_getElem?_getD]⟩
        unfold i_l_matters_c1e
        by_cases hqp : q = p
        · subst hqp
          simp [sm, ownsAt, outs, argG, isAbs, arsD, arD, refs, slsOf, slOf, putBack, pubD, getD, getO, setS, wipeE, backE, partD, parG, Out.fg, borG, borE, -List.getD_eq_getElem?_getD]
        · have : ¬ (q : Int) = p := by omega
          simp [sm, ownsAt, outs, argG, isAbs, arsD, arD, refs, slsOf, slOf, putBack, pubD, getD, getO, setS, wipeE, backE, partD, parG, Out.fg, borG, borE, -List.getD_eq_getElem?_getD, hqp, this, optD]
      have il : ixN (List.replicate vs.length (List.replicate w (none : Tt)) |>.map polD).length (n : Int) = some n := ix_nat (by rw [List.length_map, List.length_replicate]; omega)
      have st : ((List.replicate vs.length (List.replicate w none)).map polD).set n (polD ((List.range w).map fun q => if q = p then o else none)) = (alV vs.length w n p o).map polD := by unfold alV; rw [List.map_set]
      have tt : bltD "tuple" [.list (((List.range w).map fun q => if q = p then o else none).map optD)] = some (.dat (polD ((List.range w).map fun q => if q = p then o else none))) := rfl
      have w3 := e_l_outputs A B C w false (alV vs.length w n p o) h (by rw [alV_len]; omega) (fun v hm => by rw [alV_w v hm]; omega)
      have w3 : f_l_outputs [.dat (liD A B C), .dat (.list ((alV vs.length w n p o).map polD))] = _ := w3
      have ix3 := idx_ls (vs := out A B C (alV vs.length w n p o)) (i := k) (by rw [out_len, alV_len]; exact hk)
      rw [out_getD (by rw [alV_len]; exact hk)] at ix3
      have ix4 := idx_pol (v := oAt A B C (alV vs.length w n p o) k) (i := i) (by rw [oAt_len]; exact hi)
      rw [alone_out h (by omega) (by omega) hp] at ix4
      have hsc : (acc.map prN).all Dx.scal = true := by
        rw [List.all_map]; exact List.all_eq_true.mpr fun q _ => rfl
      have c1 := c1 (some (.own ((List.replicate vs.length (List.replicate w none)).map polD)))
      refine ⟨⟨fun q hq => h1 q (List.mem_cons_of_mem _ hq), by dsimp only; split <;> (try rw [List.length_append, List.length_singleton]) <;> omega⟩, [some (.dat (liD A B C)), some (.dat (.list (vs.map polD))), some (.dat (.tuple [.int k, .int i])), some (.dat (.int n)), some (.own (acc.map prN)), some (.dat (optD goal)), some (.dat (.int p)), some (.dat (optD o)), none, none, none], by simp [sm, ownsAt, outs, argG, isAbs, arsD, arD, refs, slsOf, slOf, putBack, pubD, getD, getO, setS, wipeE, backE, partD, parG, Out.fg, borG, borE, -List.getD_eq_getElem?_getD, enE], .inl ?_⟩
      generalize ((List.range w).map fun q => if q = p then o else none).map optD = M at *
      generalize polD ((List.range w).map fun q => if q = p then o else none) = MM at *
      generalize (List.replicate vs.length (List.replicate w (none : Tt))).map polD = L0 at *
      generalize (out A B C (alV vs.length w n p o)).map polD = O at *
      generalize (alV vs.length w n p o).map polD = AL at *
      by_cases hc : pl (Lz.G (an A B C (k - n)) i p) o = goal
      · simp only [hc, decide_true, if_true]
        rw [hc] at ix4
        rw [List.map_append, List.map_cons, List.map_nil]
        generalize acc.map prN = L at *
        generalize vs.map polD = V at *
        generalize liD A B C = D at *
        unfold i_l_matters_w1b
        simp [sm, ownsAt, outs, argG, isAbs, arsD, arD, refs, slsOf, slOf, putBack, pubD, getD, getO, setS, wipeE, backE, partD, parG, Out.fg, borG, borE, -List.getD_eq_getElem?_getD, szE, c0, c1, tt, il, st, q43_l_outputs, w3, ix3, ix4, hz, en, hsc]
      · simp only [hc, decide_false, Bool.false_eq_true, if_false]
        generalize acc.map prN = L at *
        generalize vs.map polD = V at *
        generalize liD A B C = D at *
        unfold i_l_matters_w1b
        simp [sm, ownsAt, outs, argG, isAbs, arsD, arD, refs, slsOf, slOf, putBack, pubD, getD, getO, setS, wipeE, backE, partD, parG, Out.fg, borG, borE, -List.getD_eq_getElem?_getD, szE, c0, c1, tt, il, st, q43_l_outputs, w3, ix3, ix4, hc, hsc]
    have fe : (enV (vs.getD n [])).foldl (fun acc x => if decide (pl (Lz.G (an A B C (k - n)) i x.1) x.2 = goal) then acc ++ [(n, x.1)] else acc) acc = acc ++ inn n := by
      rw [fold_if (fun x : Nat × Tt => decide (pl (Lz.G (an A B C (k - n)) i x.1) x.2 = goal)) (fun x : Nat × Tt => (n, x.1)), hinn]
      unfold enV
      rw [List.filter_map, List.map_map]; rfl
    rw [fe] at this
    exact this
  have outer : ∀ xs : List Nat, xs = (if goal = none then [] else List.range (k + 1)) → (sm g43 [] Lz.wfuel i_l_matters_w0).s [some (.dat (liD A B C)), some (.dat (.list (vs.map polD))), some (.dat (.tuple [.int k, .int i])), none, some (.own ([])), some (.dat (optD goal)), none, none, none, none, none] = some (.nx ([some (.dat (liD A B C)), some (.dat (.list (vs.map polD))), some (.dat (.tuple [.int k, .int i])), none, some (.own ((xs.flatMap inn).map prN)), some (.dat (optD goal)), none, none, none, none, none])) := fun xs hxs => by
    unfold i_l_matters_w0
    have xl : xs.length ≤ k + 1 ∧ ∀ n ∈ xs, n < k + 1 := by
      rw [hxs]; split
      · exact ⟨Nat.zero_le _, fun n hn => by cases hn⟩
      · exact ⟨by rw [List.length_range]; exact Nat.le_refl _, fun n hn => List.mem_range.mp hn⟩
    have rg := rng_n (k + 1) (by omega)
    have rg0 := rng_n 0 (by omega)
    refine for_ev (ρ1 := [some (.dat (liD A B C)), some (.dat (.list (vs.map polD))), some (.dat (.tuple [.int k, .int i])), none, some (.own ([])), some (.dat (optD goal)), none, none, none, none, none]) (xs := xs.map fun (i : Nat) => PyData.int i) (by
      rw [hxs]
      generalize vs.map polD = V at *
      generalize liD A B C = D at *
      cases goal with
      | none =>
        simp at rg0
        simp [sm, ownsAt, outs, argG, isAbs, arsD, arD, refs, slsOf, slOf, putBack, pubD, getD, getO, setS, wipeE, backE, partD, parG, Out.fg, borG, borE, -List.getD_eq_getElem?_getD, optD, rg0]
      | some x =>
        push_cast at rg
        simp [sm, ownsAt, outs, argG, isAbs, arsD, arD, refs, slsOf, slOf, putBack, pubD, getD, getO, setS, wipeE, backE, partD, parG, Out.fg, borG, borE, -List.getD_eq_getElem?_getD, optD, rg]) ?_
    have := for_fold (t := (sm g43 [] Lz.wfuel (.tnm 3)).t) (b := (sm g43 [] Lz.wfuel i_l_matters_w0b).s) (fun (i : Nat) => PyData.int i) (fun acc : List (Nat × Nat) => [some (.dat (liD A B C)), some (.dat (.list (vs.map polD))), some (.dat (.tuple [.int k, .int i])), none, some (.own (acc.map prN)), some (.dat (optD goal)), none, none, none, none, none])
      (fun acc n => acc ++ inn n) (fun r acc => (∀ n ∈ r, n < k + 1) ∧ acc.length + 8 * r.length ≤ 200) xs [] ⟨xl.2, by simp; omega⟩ fun n r acc ⟨h1, h2⟩ => by
      have hn := h1 _ List.mem_cons_self
      have il := innl n hn
      simp only [List.length_cons] at h2
      have wi := inner n hn acc (by omega)
      refine ⟨⟨fun q hq => h1 q (List.mem_cons_of_mem _ hq), by simp; omega⟩, [some (.dat (liD A B C)), some (.dat (.list (vs.map polD))), some (.dat (.tuple [.int k, .int i])), some (.dat (.int n)), some (.own (acc.map prN)), some (.dat (optD goal)), none, none, none, none, none], by simp [sm, ownsAt, outs, argG, isAbs, arsD, arD, refs, slsOf, slOf, putBack, pubD, getD, getO, setS, wipeE, backE, partD, parG, Out.fg, borG, borE, -List.getD_eq_getElem?_getD], .inl ?_⟩
      generalize (acc ++ inn n).map prN = L2 at *
      generalize acc.map prN = L at *
      generalize vs.map polD = V at *
      generalize liD A B C = D at *
      unfold i_l_matters_w0b
      simp [sm, ownsAt, outs, argG, isAbs, arsD, arD, refs, slsOf, slOf, putBack, pubD, getD, getO, setS, wipeE, backE, partD, parG, Out.fg, borG, borE, -List.getD_eq_getElem?_getD, wi]
    rw [fold_app] at this
    exact this
  have o := outer _ rfl
  have mt : (if goal = none then [] else List.range (k + 1)).flatMap inn = matL A B C vs k i := by
    unfold matL
    rw [hg, hinn]
    split <;> rfl
  rw [mt] at o
  rw [hg] at ix2
  unfold f_l_matters fnS i_l_matters
  generalize (matL A B C vs k i).map prN = L at *
  generalize (out A B C vs).map polD = O at *
  generalize vs.map polD = V at *
  generalize liD A B C = D at *
  simp [sm, ownsAt, outs, argG, isAbs, arsD, arD, refs, slsOf, slOf, putBack, pubD, getD, getO, setS, wipeE, backE, partD, parG, Out.fg, borG, borE, -List.getD_eq_getElem?_getD, szE, q43_l_outputs, w2, ix1, ix2, o, outs]
end k94

namespace k94
open PySem PySem.Spec PyProof.Rows L2 Dx Pz Lz
/-! ### late outputs by the law -/
abbrev S_late (f : Fn) : Prop := ∀ (A B C : Lz.Tb) (w : Nat) (vs ds : List Vc), LiOk A B C w → InOk vs w → DelOk ds vs w → f [.dat (liD A B C), .dat (vsD false vs), .dat (vsD false ds)] = some (.frs ((ltL (out A B C vs) (out A B C (dly vs ds))).map polD), [.dat (liD A B C), .dat (vsD false vs), .dat (vsD false ds)])
theorem e_l_late : S_late f_l_late := fun A B C w vs ds h hv hd => by
  have hl := hv.len
  have w8 := h.b.m8
  have vw : ∀ v ∈ vs, v.length = w := fun v hm => (hv.vec v hm).1
  have w3 := e_l_outputs A B C w false vs h (by omega) (hv.vl w8)
  have dl := dly_len hd.len
  have w5 := e_l_outputs A B C w false (dly vs ds) h (by omega) (fun v hm => by rw [hd.vlen vw v hm]; omega)
  have w5 : f_l_outputs [.dat (liD A B C), .dat (.list ((dly vs ds).map polD))] = some (.frs ((out A B C (dly vs ds)).map polD), [.dat (liD A B C), .dat (.list ((dly vs ds).map polD))]) := w5
  have d0 : (sm g44 [] Lz.wfuel i_l_late_c0).e [some (.dat (liD A B C)), some (.dat (vsD false vs)), some (.dat (vsD false ds)), none, none, none, none, none, none, none, none, none, none] = some (.frs ((dly vs ds).map polD), [some (.dat (liD A B C)), some (.dat (vsD false vs)), some (.dat (vsD false ds)), none, none, none, none, none, none, none, none, none, none]) := by
    unfold dly
    rw [← zip_gen dlV polD]
    unfold i_l_late_c0
    refine lc_all (prG polD polD) _ (vs.zip ds) (by simp [sm, ownsAt, outs, argG, isAbs, arsD, arD, refs, slsOf, slOf, putBack, pubD, getD, getO, setS, wipeE, backE, partD, parG, Out.fg, borG, borE, -List.getD_eq_getElem?_getD, zipV]) (by simp) (by rw [szE, List.length_zip]; omega) fun y hy => ⟨[some (.dat (liD A B C)), some (.dat (vsD false vs)), some (.dat (vsD false ds)), none, none, none, none, some (.dat (polD y.1)), some (.dat (polD y.2)), none, none, none, none], by simp [sm, ownsAt, outs, argG, isAbs, arsD, arD, refs, slsOf, slOf, putBack, pubD, getD, getO, setS, wipeE, backE, partD, parG, Out.fg, borG, borE, -List.getD_eq_getElem?_getD, prG], ?_, by simp [sm, ownsAt, outs, argG, isAbs, arsD, arD, refs, slsOf, slOf, putBack, pubD, getD, getO, setS, wipeE, backE, partD, parG, Out.fg, borG, borE, -List.getD_eq_getElem?_getD]⟩
    have yl : y.1.length ≤ 1000 := hv.vl w8 y.1 (List.of_mem_zip (show (y.1, y.2) ∈ vs.zip ds from hy)).1
    have c1 : (sm g44 [] Lz.wfuel i_l_late_c1).e [some (.dat (liD A B C)), some (.dat (vsD false vs)), some (.dat (vsD false ds)), none, none, none, none, some (.dat (polD y.1)), some (.dat (polD y.2)), none, none, none, none] = some (.frs ((dlV y.1 y.2).map optD), [some (.dat (liD A B C)), some (.dat (vsD false vs)), some (.dat (vsD false ds)), none, none, none, none, some (.dat (polD y.1)), some (.dat (polD y.2)), none, none, none, none]) := by
      unfold dlV
      rw [← zip_pl]
      unfold i_l_late_c1
      refine lc_all (prG optD optD) _ (y.1.zip y.2) (by simp [sm, ownsAt, outs, argG, isAbs, arsD, arD, refs, slsOf, slOf, putBack, pubD, getD, getO, setS, wipeE, backE, partD, parG, Out.fg, borG, borE, -List.getD_eq_getElem?_getD, zipP]) (by simp) (by rw [szE, List.length_zip]; omega) fun u hu => ⟨[some (.dat (liD A B C)), some (.dat (vsD false vs)), some (.dat (vsD false ds)), none, none, none, none, some (.dat (polD y.1)), some (.dat (polD y.2)), some (.dat (optD u.1)), some (.dat (optD u.2)), none, none], by simp [sm, ownsAt, outs, argG, isAbs, arsD, arD, refs, slsOf, slOf, putBack, pubD, getD, getO, setS, wipeE, backE, partD, parG, Out.fg, borG, borE, -List.getD_eq_getElem?_getD, prG], ?_, by simp [sm, ownsAt, outs, argG, isAbs, arsD, arD, refs, slsOf, slOf, putBack, pubD, getD, getO, setS, wipeE, backE, partD, parG, Out.fg, borG, borE, -List.getD_eq_getElem?_getD]⟩
      have w := e_l_plus u.1 u.2
      unfold i_l_late_c1e
      simp [sm, ownsAt, outs, argG, isAbs, arsD, arD, refs, slsOf, slOf, putBack, pubD, getD, getO, setS, wipeE, backE, partD, parG, Out.fg, borG, borE, -List.getD_eq_getElem?_getD, q44_l_plus, w]
    have tt : bltD "tuple" [.list ((dlV y.1 y.2).map optD)] = some (.dat (polD (dlV y.1 y.2))) := rfl
    generalize (dlV y.1 y.2).map optD = L at *
    unfold i_l_late_c0e
    simp [sm, ownsAt, outs, argG, isAbs, arsD, arD, refs, slsOf, slOf, putBack, pubD, getD, getO, setS, wipeE, backE, partD, parG, Out.fg, borG, borE, -List.getD_eq_getElem?_getD, c1, tt]
  obtain ⟨O, hO⟩ : ∃ O, O = out A B C vs := ⟨_, rfl⟩
  obtain ⟨P, hP⟩ : ∃ P, P = out A B C (dly vs ds) := ⟨_, rfl⟩
  have key : ∀ y ∈ O.zip P, y.1.length ≤ 8 ∧ ∀ u ∈ y.1.zip y.2, ∀ x, u.1 = some x → ∃ z, u.2 = some z := fun y hy => by
    obtain ⟨k, k1, k2, y1, y2⟩ := zip_at hy
    rw [hO, out_len] at k1
    rw [hO, out_getD k1] at y1
    rw [hP, out_getD (by omega)] at y2
    refine ⟨by rw [y1, oAt_len]; exact h.c.len, fun u hu x hx => ?_⟩
    obtain ⟨i, i1, i2, u1, u2⟩ := zip_atV hu
    rw [u1, y1] at hx
    obtain ⟨z, hz, _⟩ := late_some h vw hd k1 hx
    exact ⟨z, by rw [u2, y2, hz]⟩
  have ol : O.length = vs.length := by rw [hO, out_len]
  rw [← hO] at w3
  rw [← hP] at w5
  obtain ⟨DL, hDL⟩ : ∃ DL, DL = (dly vs ds).map polD := ⟨_, rfl⟩
  rw [← hDL] at w5 d0
  have c0 : ∀ (n f : Vc) (S : Option Sl), n.length ≤ 8 → (∀ u ∈ n.zip f, ∀ x, u.1 = some x → ∃ z, u.2 = some z) → (sm g44 [] Lz.wfuel i_l_late_c2).e [some (.dat (liD A B C)), some (.dat (vsD false vs)), some (.dat (vsD false ds)), some (.dat (.list DL)), S, some (.dat (polD n)), some (.dat (polD f)), none, none, none, none, none, none] = some (.frs ((ltV n f).map optD), [some (.dat (liD A B C)), some (.dat (vsD false vs)), some (.dat (vsD false ds)), some (.dat (.list DL)), S, some (.dat (polD n)), some (.dat (polD f)), none, none, none, none, none, none]) := fun n f S hn hu => by
    unfold ltV
    rw [← zip_gen ltO optD]
    unfold i_l_late_c2
    refine lc_all (prG optD optD) _ (n.zip f) (by simp [sm, ownsAt, outs, argG, isAbs, arsD, arD, refs, slsOf, slOf, putBack, pubD, getD, getO, setS, wipeE, backE, partD, parG, Out.fg, borG, borE, -List.getD_eq_getElem?_getD, zipP]) (by simp) (by rw [szE, List.length_zip]; omega) fun u hum => ⟨[some (.dat (liD A B C)), some (.dat (vsD false vs)), some (.dat (vsD false ds)), some (.dat (.list DL)), S, some (.dat (polD n)), some (.dat (polD f)), none, none, none, none, some (.dat (optD u.1)), some (.dat (optD u.2))], by simp [sm, ownsAt, outs, argG, isAbs, arsD, arD, refs, slsOf, slOf, putBack, pubD, getD, getO, setS, wipeE, backE, partD, parG, Out.fg, borG, borE, -List.getD_eq_getElem?_getD, prG], ?_, by simp [sm, ownsAt, outs, argG, isAbs, arsD, arD, refs, slsOf, slOf, putBack, pubD, getD, getO, setS, wipeE, backE, partD, parG, Out.fg, borG, borE, -List.getD_eq_getElem?_getD]⟩
    have := hu u hum
    obtain ⟨u1, u2⟩ := u
    unfold i_l_late_c2e
    cases u1 with
    | none => simp [sm, ownsAt, outs, argG, isAbs, arsD, arD, refs, slsOf, slOf, putBack, pubD, getD, getO, setS, wipeE, backE, partD, parG, Out.fg, borG, borE, -List.getD_eq_getElem?_getD, optD, ltO]
    | some x =>
      obtain ⟨z, hz⟩ := this x rfl
      simp only at hz
      subst hz
      simp [sm, ownsAt, outs, argG, isAbs, arsD, arD, refs, slsOf, slOf, putBack, pubD, getD, getO, setS, wipeE, backE, partD, parG, Out.fg, borG, borE, -List.getD_eq_getElem?_getD, optD, ltO]
  have w0 : (sm g44 [] Lz.wfuel i_l_late_w0).s [some (.dat (liD A B C)), some (.dat (vsD false vs)), some (.dat (vsD false ds)), some (.dat (.list DL)), some (.own ([])), none, none, none, none, none, none, none, none] = some (.nx ([some (.dat (liD A B C)), some (.dat (vsD false vs)), some (.dat (vsD false ds)), some (.dat (.list DL)), some (.own ((ltL O P).map polD)), none, none, none, none, none, none, none, none])) := by
    unfold i_l_late_w0
    refine for_ev (ρ1 := [some (.dat (liD A B C)), some (.dat (vsD false vs)), some (.dat (vsD false ds)), some (.dat (.list DL)), some (.own ([])), none, none, none, none, none, none, none, none]) (xs := (O.zip P).map (prG polD polD)) (by
      have z := zipL O P
      generalize O.map polD = LO at *
      generalize P.map polD = LP at *
      generalize liD A B C = D at *
      generalize vsD false vs = V at *
      generalize vsD false ds = W at *
      simp [sm, ownsAt, outs, argG, isAbs, arsD, arD, refs, slsOf, slOf, putBack, pubD, getD, getO, setS, wipeE, backE, partD, parG, Out.fg, borG, borE, -List.getD_eq_getElem?_getD, q44_l_outputs, w3, w5, z]) ?_
    have := for_fold (t := (sm g44 [] Lz.wfuel (.ttp (.cons (.tnm 5) (.cons (.tnm 6) .nil)))).t) (b := (sm g44 [] Lz.wfuel i_l_late_w0b).s) (prG polD polD) (fun acc : List Vc => [some (.dat (liD A B C)), some (.dat (vsD false vs)), some (.dat (vsD false ds)), some (.dat (.list DL)), some (.own (acc.map polD)), none, none, none, none, none, none, none, none])
      (fun acc y => acc ++ [ltV y.1 y.2]) (fun r acc => (∀ y ∈ r, y ∈ O.zip P) ∧ acc.length + r.length ≤ 100) (O.zip P) [] ⟨fun y hy => hy, by rw [List.length_zip]; simp; omega⟩ fun y r acc ⟨h1, h2⟩ => by
      simp only [List.length_cons] at h2
      obtain ⟨k1, k2⟩ := key y (h1 y List.mem_cons_self)
      have c := c0 y.1 y.2 (some (.own (acc.map polD))) k1 k2
      have hz : (acc.map polD).length < 16777216 := by rw [List.length_map]; omega
      have tt : bltD "tuple" [.list ((ltV y.1 y.2).map optD)] = some (.dat (polD (ltV y.1 y.2))) := rfl
      refine ⟨⟨fun q hq => h1 q (List.mem_cons_of_mem _ hq), by simp; omega⟩, [some (.dat (liD A B C)), some (.dat (vsD false vs)), some (.dat (vsD false ds)), some (.dat (.list DL)), some (.own (acc.map polD)), some (.dat (polD y.1)), some (.dat (polD y.2)), none, none, none, none, none, none], by simp [sm, ownsAt, outs, argG, isAbs, arsD, arD, refs, slsOf, slOf, putBack, pubD, getD, getO, setS, wipeE, backE, partD, parG, Out.fg, borG, borE, -List.getD_eq_getElem?_getD, prG], .inl ?_⟩
      rw [List.map_append, List.map_cons, List.map_nil]
      generalize acc.map polD = L at *
      generalize (ltV y.1 y.2).map optD = T at *
      generalize polD (ltV y.1 y.2) = TT at *
      generalize liD A B C = D at *
      generalize vsD false vs = V at *
      generalize vsD false ds = W at *
      unfold i_l_late_w0b
      simp [sm, ownsAt, outs, argG, isAbs, arsD, arD, refs, slsOf, slOf, putBack, pubD, getD, getO, setS, wipeE, backE, partD, parG, Out.fg, borG, borE, -List.getD_eq_getElem?_getD, szE, c, tt, hz]
    have fe : (O.zip P).foldl (fun acc y => acc ++ [ltV y.1 y.2]) [] = ltL O P := by
      have := fold_app (fun y : Vc × Vc => [ltV y.1 y.2]) (O.zip P) []
      rw [this]
      unfold ltL
      rw [List.nil_append, ← List.map_eq_flatMap]
      exact zip_fn ltV O P
    rw [fe] at this
    exact this
  rw [← hO, ← hP]
  unfold f_l_late fnS i_l_late
  generalize (ltL O P).map polD = L at *
  generalize liD A B C = D at *
  generalize vsD false vs = V at *
  generalize vsD false ds = W at *
  simp [sm, ownsAt, outs, argG, isAbs, arsD, arD, refs, slsOf, slOf, putBack, pubD, getD, getO, setS, wipeE, backE, partD, parG, Out.fg, borG, borE, -List.getD_eq_getElem?_getD, szE, d0, w0, outs]
/-! ### bounds of lateness -/
/-- the greatest delay of all -/
def most (ds : List Vc) : Int := maxL (ds.map fun d => maxL (d.filterMap id))
theorem mat_mem {A B C : Lz.Tb} {vs : List Vc} {k i n p : Nat} : (n, p) ∈ matL A B C vs k i ↔ ∃ x, g (oAt A B C vs k) i = some x ∧ n ≤ k ∧ p < (vs.getD n []).length ∧ pl (Lz.G (an A B C (k - n)) i p) (g (vs.getD n []) p) = some x := by
  unfold matL
  split
  · rename_i e
    constructor
    · intro z; cases z
    · rintro ⟨x, e2, _⟩; rw [e] at e2; cases e2
  · rename_i e
    obtain ⟨x, hx⟩ : ∃ x, g (oAt A B C vs k) i = some x := by
      cases q : g (oAt A B C vs k) i with
      | none => exact absurd q e
      | some x => exact ⟨x, rfl⟩
    rw [hx, List.mem_flatMap]
    constructor
    · rintro ⟨m, hm, h⟩
      obtain ⟨q, hq, e2⟩ := List.mem_map.mp h
      obtain ⟨h1, h2⟩ := List.mem_filter.mp hq
      cases e2
      exact ⟨x, rfl, by have := List.mem_range.mp hm; omega, List.mem_range.mp h1, of_decide_eq_true h2⟩
    · rintro ⟨y, hy, h1, h2, h3⟩
      cases hy
      exact ⟨n, List.mem_range.mpr (by omega), List.mem_map.mpr ⟨p, List.mem_filter.mpr ⟨List.mem_range.mpr h2, decide_eq_true h3⟩, rfl⟩⟩
theorem le_most {ds vs : List Vc} {w n p : Nat} {y : Int} (hd : DelOk ds vs w) (hn : n < vs.length) (hp : p < w) (hy : g (ds.getD n []) p = some y) : y ≤ most ds := by
  have hn2 : n < ds.length := by rw [hd.len]; exact hn
  have hm := getD_mem hn2
  have hl := (hd.rows _ hm).1
  have m1 : some y ∈ ds.getD n [] := hy ▸ List.mem_of_getElem? (g_get (by omega))
  have m2 : y ∈ (ds.getD n []).filterMap id := List.mem_filterMap.mpr ⟨_, m1, rfl⟩
  have a1 := (maxL_ok (List.ne_nil_of_mem m2)).2 y m2
  have m3 : maxL ((ds.getD n []).filterMap id) ∈ ds.map fun d => maxL (d.filterMap id) := List.mem_map.mpr ⟨_, hm, rfl⟩
  have a2 := (maxL_ok (List.ne_nil_of_mem m3)).2 _ m3
  unfold most
  omega
/-- the delays of what matters: some, none greater than the lateness, which is at most the greatest -/
theorem late_bound {A B C : Lz.Tb} {w : Nat} (h : LiOk A B C w) {vs ds : List Vc} (hv : ∀ v ∈ vs, v.length = w) (hd : DelOk ds vs w) {k i : Nat} {x : Int} (hk : k < vs.length) (e : g (oAt A B C vs k) i = some x) :
    ∃ y, g (oAt A B C (dly vs ds) k) i = some y ∧ y - x ≤ most ds ∧ matL A B C vs k i ≠ [] ∧ ∀ q ∈ matL A B C vs k i, q.1 < vs.length ∧ q.2 < w ∧ ∃ z, g (ds.getD q.1 []) q.2 = some z ∧ z ≤ y - x := by
  obtain ⟨y, hy, hxy⟩ := late_some h hv hd hk e
  refine ⟨y, hy, ?_, ?_, ?_⟩
  · have L := o_lub (A := A) (B := B) (C := C) h.a.ne h.b.rect h.l.symm (dly vs ds) k i
    rw [hy] at L
    obtain ⟨⟨n, p⟩, hq⟩ := L.at
    dsimp only at hq
    split at hq
    · rename_i hn
      have hvl := hv _ (getD_mem (i := n) (by omega))
      have hdl := (hd.rows _ (getD_mem (i := n) (by rw [hd.len]; omega))).1
      rw [dly_at hd.len (by omega), dlV_g (by omega), ← pl_assoc] at hq
      by_cases hp : p < w
      · obtain ⟨z, hz, _⟩ := hd.at (n := n) (p := p) (by omega) hp
        have zm := le_most hd (by omega) hp hz
        rw [hz] at hq
        cases q : pl (Lz.G (an A B C (k - n)) i p) (g (vs.getD n []) p) with
        | none => rw [q] at hq; cases hq
        | some u =>
          rw [q] at hq
          have L2 := (o_lub (A := A) (B := B) (C := C) h.a.ne h.b.rect h.l.symm vs k i).ge (n, p)
          dsimp only at L2
          rw [if_pos hn, q, e, le_some] at L2
          have := Option.some.inj hq
          omega
      · rw [g_out (v := vs.getD n []) (by omega), pl_none, none_pl] at hq; cases hq
    · cases hq
  · have L := o_lub (A := A) (B := B) (C := C) h.a.ne h.b.rect h.l.symm vs k i
    rw [e] at L
    obtain ⟨⟨n, p⟩, hq⟩ := L.at
    dsimp only at hq
    split at hq
    · rename_i hn
      refine List.ne_nil_of_mem (mat_mem.mpr ⟨x, e, hn, ?_, hq⟩ : (n, p) ∈ _)
      by_cases hp : p < (vs.getD n []).length
      · exact hp
      · rw [g_out (v := vs.getD n []) (by omega), pl_none] at hq; cases hq
    · cases hq
  · rintro ⟨n, p⟩ hq
    obtain ⟨u, hu, hn, hp, hq⟩ := mat_mem.mp hq
    rw [e] at hu; cases hu
    have hvl := hv _ (getD_mem (i := n) (by omega))
    obtain ⟨z, hz, _⟩ := hd.at (n := n) (p := p) (by omega) (by omega)
    have := late_ge h hv hd hk hn hq hz
    rw [hy, le_some] at this
    exact ⟨by omega, by omega, z, hz, by omega⟩
/-- who matters makes later -/
theorem moved_ge {A B C : Lz.Tb} {w : Nat} (h : LiOk A B C w) {vs : List Vc} {k i n p : Nat} {x : Int} (hk : k < vs.length) (e : g (oAt A B C vs k) i = some x) (hm : (n, p) ∈ matL A B C vs k i) (m : Int) : ∃ y, g (oAt A B C (mvV vs n p m) k) i = some y ∧ x + m ≤ y := by
  obtain ⟨u, hu, hn, hp, hq⟩ := mat_mem.mp hm
  rw [e] at hu; cases hu
  have L := (o_lub (A := A) (B := B) (C := C) h.a.ne h.b.rect h.l.symm (mvV vs n p m) k i).ge (n, p)
  dsimp only at L
  have e1 : (mvV vs n p m).getD n [] = (vs.getD n []).set p (pl (g (vs.getD n []) p) (some m)) := by
    unfold mvV
    rw [List.getD_eq_getElem?_getD, List.getElem?_set, if_pos rfl, if_pos (by omega)]; rfl
  have e2 : g ((vs.getD n []).set p (pl (g (vs.getD n []) p) (some m))) p = pl (g (vs.getD n []) p) (some m) := g_of (by rw [List.getElem?_set, if_pos rfl, if_pos hp])
  rw [if_pos hn, e1, e2, ← pl_assoc, hq] at L
  obtain ⟨y, hy, h2⟩ := some_le L
  exact ⟨y, hy, h2⟩
theorem mv_w {vs : List Vc} {w n p : Nat} {m : Int} (hv : ∀ v ∈ vs, v.length = w) (hn : n < vs.length) : ∀ v ∈ mvV vs n p m, v.length = w := fun v hvm => by
  unfold mvV at hvm
  rcases List.mem_or_eq_of_mem_set hvm with h | h
  · exact hv v h
  · rw [h, List.length_set]; exact hv _ (getD_mem hn)
theorem mv_len {vs : List Vc} {n p : Nat} {m : Int} : (mvV vs n p m).length = vs.length := by unfold mvV; rw [List.length_set]
end k94

namespace Lz
open PySem PySem.Spec PyProof.Rows L2 Dx Pz
/-! ### what repr takes -/
/-- entries of fewer than n bits -/
def VB (n : Nat) (v : Vc) : Prop := v.length ≤ 8 ∧ ∀ c, some c ∈ v → c.natAbs < 2 ^ n
theorem nice_pol {v : Vc} (h : VB 40 v) : Nice 1 400 (polD v) := by
  have := Nice.polD (p := v) (n := 40) (fun o ho c e => h.2 c (e ▸ ho)) (by omega) (by omega)
  exact this.mono (by omega) (by have := h.1; omega)
theorem nice_ls {vs : List Vc} (hl : vs.length ≤ 60) (h : ∀ v ∈ vs, VB 40 v) : Nice 2 25000 (.list (vs.map polD)) := by
  have := Nice.list (k := 1) (m := 400) (xs := vs.map polD) fun x hx => by
    obtain ⟨v, hv, rfl⟩ := List.mem_map.mp hx
    exact nice_pol (h v hv)
  rw [List.length_map] at this
  exact this.mono (by omega) (by omega)
theorem nice_tb {vs : List Vc} (hl : vs.length ≤ 60) (h : ∀ v ∈ vs, VB 40 v) : Nice 2 25000 (tbD vs) := by
  have := Nice.tup (k := 1) (m := 400) (xs := vs.map polD) fun x hx => by
    obtain ⟨v, hv, rfl⟩ := List.mem_map.mp hx
    exact nice_pol (h v hv)
  rw [List.length_map] at this
  exact this.mono (by omega) (by omega)
theorem TbOk.vb {t : Tb} {m : Nat} (h : TbOk t m) : ∀ v ∈ t, VB 40 v := fun v hv => ⟨by rw [h.rows v hv]; exact h.m8, fun c hc => by have := h.ent v hv c hc; omega⟩
theorem nice_word : Nice 0 10 (.str (Str.ofString "line")) := Nice.str (by decide +kernel)
theorem nice_li {A B C : Tb} {w : Nat} (h : LiOk A B C w) : Nice 3 120000 (liD A B C) := by
  have := Nice.tup (k := 2) (m := 25000) (xs := [.str (Str.ofString "line"), tbD A, tbD B, tbD C]) fun x hx => by
    simp only [List.mem_cons, List.not_mem_nil, or_false] at hx
    have a8 := h.a.len
    have b8 := h.b.len
    have c8 := h.c.len
    rcases hx with rfl | rfl | rfl | rfl
    · exact nice_word.mono (by omega) (by omega)
    · exact nice_tb (by omega) h.a.vb
    · exact nice_tb (by omega) h.b.vb
    · exact nice_tb (by omega) h.c.vb
  exact this.mono (by omega) (by simp)
theorem VcOk.vb {v : Vc} {m : Nat} (h : VcOk v m) (hm : m ≤ 8) : VB 40 v := ⟨by rw [h.1]; exact hm, fun c hc => by have := h.2 c hc; omega⟩
theorem InOk.vb {vs : List Vc} {w : Nat} (h : InOk vs w) (hw : w ≤ 8) : ∀ v ∈ vs, VB 40 v := fun v hv => (h.vec v hv).vb hw
theorem DelOk.vb {ds vs : List Vc} {w : Nat} (h : DelOk ds vs w) (hw : w ≤ 8) : ∀ v ∈ ds, VB 40 v := fun v hv => ⟨by rw [(h.rows v hv).1]; exact hw, fun c hc => by
  obtain ⟨x, e, h1, h2⟩ := (h.rows v hv).2 _ hc
  cases e; omega⟩
/-- repr of two, of one -/
theorem repr2 {k m : Nat} {a b : PyData} (ha : Nice k m a) (hb : Nice k m b) (hk : k < 60) (hm : m ≤ 1000000) : bltD "repr" [.list [a, b]] = some (.dat (.str (PyData.list [a, b]).shown)) :=
  bl_repr ((Nice.two ha hb).repr (by omega) (by rw [szE]; omega))
theorem repr1 {k m : Nat} {a : PyData} (ha : Nice k m a) (hk : k < 60) (hm : m ≤ 1000000) : bltD "repr" [a] = some (.dat (.str a.shown)) :=
  bl_repr (ha.repr (by omega) (by rw [szE]; omega))
theorem pair_eq (a b c d : Nat) : cmpD .Eq (.tuple [.int a, .int b]) (.tuple [.int c, .int d]) = some (decide (a = c ∧ b = d)) := by
  rw [cmp_eq ((Sh.tup (k := 0) fun x hx => by
    simp at hx; rcases hx with rfl | rfl <;> exact Sh.int _).ok (by omega)) ((Sh.tup (k := 0) fun x hx => by
    simp at hx; rcases hx with rfl | rfl <;> exact Sh.int _).ok (by omega))]
  simp only [PyData.eqv, PyData.eqvAll, eqv_int, Bool.and_true]
  congr 1
  by_cases h1 : a = c
  · by_cases h2 : b = d
    · simp [h1, h2]
    · simp [h1, h2]; omega
  · simp [h1]; omega
theorem allInt_ints (l : List Int) : allInt (l.map PyData.int) = some l := by
  induction l with
  | nil => rfl
  | cons a l ih => simp [allInt, ih]
theorem allInt_opt {v : Vc} (h : ∀ o ∈ v, ∃ x : Int, o = some x) : allInt (v.map optD) = some (v.filterMap id) := by
  induction v with
  | nil => rfl
  | cons a l ih =>
    obtain ⟨x, rfl⟩ := h a List.mem_cons_self
    have := ih fun o ho => h o (List.mem_cons_of_mem _ ho)
    simp [optD, allInt, this]
theorem nice_pr {l : List (Nat × Nat)} (hl : l.length ≤ 1000) (h : ∀ q ∈ l, q.1 < 1000 ∧ q.2 < 1000) : Nice 2 40000 (.list (l.map prN)) := by
  have := Nice.list (k := 1) (m := 31) (xs := l.map prN) fun x hx => by
    obtain ⟨q, hq, rfl⟩ := List.mem_map.mp hx
    obtain ⟨h1, h2⟩ := h q hq
    exact Nice.tup (k := 0) (m := 12) (xs := [.int q.1, .int q.2]) fun x hx => by
      simp at hx
      rcases hx with rfl | rfl <;> exact Nice.int (n := 11) (by simp; omega) (by omega) (by omega)
  rw [List.length_map] at this
  exact this.mono (by omega) (by omega)
end Lz

namespace k94
open PySem PySem.Spec PyProof.Rows L2 Dx Pz Lz
theorem lt_entries {A B C : Lz.Tb} {w : Nat} (h : LiOk A B C w) {vs ds : List Vc} (hv : InOk vs w) (hd : DelOk ds vs w) : (ltL (out A B C vs) (out A B C (dly vs ds))).length = vs.length ∧ ∀ k, k < vs.length → (ltL (out A B C vs) (out A B C (dly vs ds))).getD k [] = ltV (oAt A B C vs k) (oAt A B C (dly vs ds) k) := by
  have dl := dly_len hd.len
  constructor
  · unfold ltL; rw [List.length_zipWith, out_len, out_len, dl, Nat.min_self]
  · intro k hk
    unfold ltL
    rw [List.getD_eq_getElem?_getD, List.getElem?_zipWith, out_get hk, out_get (by omega)]; rfl
theorem ltV_g {a b : Vc} (hl : a.length = b.length) (i : Nat) : g (ltV a b) i = ltO (g a i) (g b i) := by
  unfold ltV
  by_cases h : i < a.length
  · exact g_of (by rw [List.getElem?_zipWith, g_get h, g_get (by omega)])
  · rw [g_out (by rw [List.length_zipWith]; omega), g_out (v := a) (by omega)]; rfl
theorem most_le {ds vs : List Vc} {w : Nat} (hd : DelOk ds vs w) (hn : vs ≠ []) (hw : 1 ≤ w) : 0 ≤ most ds ∧ most ds ≤ 999999999 := by
  have hl := List.length_pos_iff.mpr hn
  obtain ⟨x, hx, x0, _⟩ := hd.at (n := 0) (p := 0) hl hw
  have h1 := le_most hd hl hw hx
  refine ⟨by omega, ?_⟩
  have hne : (ds.map fun d => maxL (d.filterMap id)) ≠ [] := fun z => by
    have := List.map_eq_nil_iff.mp z
    have := hd.len
    rw [List.map_eq_nil_iff.mp z] at this
    simp at this; omega
  obtain ⟨h2, _⟩ := maxL_ok hne
  obtain ⟨d, hdm, e⟩ := List.mem_map.mp h2
  have hne2 : d.filterMap id ≠ [] := fun z => by
    obtain ⟨r1, r2⟩ := hd.rows d hdm
    obtain ⟨y, hy, _⟩ := r2 (g d 0) (List.mem_of_getElem? (g_get (by omega)))
    have : y ∈ d.filterMap id := List.mem_filterMap.mpr ⟨some y, hy ▸ List.mem_of_getElem? (g_get (v := d) (i := 0) (by omega)), rfl⟩
    rw [z] at this; cases this
  obtain ⟨h3, _⟩ := maxL_ok hne2
  obtain ⟨o, ho, e2⟩ := List.mem_filterMap.mp h3
  obtain ⟨y, rfl, _, y1⟩ := (hd.rows d hdm).2 o ho
  have e2 : some y = some _ := e2
  cases e2
  unfold most
  rw [← e]; exact y1
theorem lt_vb {A B C : Lz.Tb} {w : Nat} (h : LiOk A B C w) {vs ds : List Vc} (hv : InOk vs w) (hd : DelOk ds vs w) : ∀ v ∈ ltL (out A B C vs) (out A B C (dly vs ds)), VB 40 v := fun v hvm => by
  obtain ⟨l1, l2⟩ := lt_entries h hv hd
  have vw : ∀ v ∈ vs, v.length = w := fun v hm => (hv.vec v hm).1
  obtain ⟨k, hk⟩ := List.mem_iff_getElem?.mp hvm
  have kl := (List.getElem?_eq_some_iff.mp hk).1
  rw [l1] at kl
  have e := l2 k kl
  rw [List.getD_eq_getElem?_getD, hk] at e
  have e : v = _ := e
  have ol : (oAt A B C vs k).length = (oAt A B C (dly vs ds) k).length := by rw [oAt_len, oAt_len]
  have c8 := h.c.len
  refine ⟨by rw [e]; unfold ltV; rw [List.length_zipWith, oAt_len]; omega, fun c hc => ?_⟩
  obtain ⟨i, hi⟩ := List.mem_iff_getElem?.mp hc
  have hi := g_of hi
  rw [e, ltV_g ol] at hi
  cases q : g (oAt A B C vs k) i with
  | none => rw [q] at hi; cases hi
  | some x =>
    obtain ⟨y, hy, b1, b2, _⟩ := late_bound h vw hd kl q
    obtain ⟨y', hy', b3⟩ := late_some h vw hd kl q
    rw [hy] at hy'; cases hy'
    rw [q, hy] at hi
    have hi : some (y - x) = some c := hi
    cases hi
    have := most_le hd hv.ne h.b.m1
    omega
abbrev S_delays_right (f : Fn) : Prop := ∀ (A B C : Lz.Tb) (w : Nat) (vs ds : List Vc), LiOk A B C w → InOk vs w → DelOk ds vs w → f [.dat (liD A B C), .dat (vsD false vs), .dat (vsD false ds)] = some (.dat (.bool true), [.dat (liD A B C), .dat (vsD false vs), .dat (vsD false ds)])
theorem e_l_delays_right : S_delays_right f_l_delays_right := fun A B C w vs ds h hv hd => by
  have hl := hv.len
  have w8 := h.b.m8
  have vw : ∀ v ∈ vs, v.length = w := fun v hm => (hv.vec v hm).1
  have d12 : ds.length ≤ 60 := by rw [hd.len]; omega
  have w1 := e_l_late A B C w vs ds h hv hd
  have w2 := e_late_outputs A B C w false vs ds h hv hd
  have w3 := e_late_outputs A B C w true vs ds h hv hd
  obtain ⟨l1, l2⟩ := lt_entries h hv hd
  obtain ⟨T, hT⟩ : ∃ T, T = ltL (out A B C vs) (out A B C (dly vs ds)) := ⟨_, rfl⟩
  have nT := nice_ls (vs := T) (by rw [hT, l1]; omega) (hT ▸ lt_vb h hv hd)
  have nD := nice_ls (vs := ds) d12 (hd.vb w8)
  have rT2 := repr2 nT nT (by omega) (by omega)
  have rT := repr1 nT (by omega) (by omega)
  have rD := repr1 nD (by omega) (by omega)
  rw [← hT] at w1 w2 w3 l1 l2
  have tv : bltD "tuple" [vsD false vs] = some (.dat (vsD true vs)) := rfl
  have td : bltD "tuple" [vsD false ds] = some (.dat (vsD true ds)) := rfl
  have eD : PyData.list (ds.map polD) = vsD false ds := rfl
  rw [eD] at rD
  have c0 : ∀ S Q R : Option Sl, (sm g45 [] Lz.wfuel i_l_delays_right_c0).e [some (.dat (liD A B C)), some (.dat (vsD false vs)), some (.dat (vsD false ds)), S, none, Q, R, none, none, none, none, none, none, none] = some (.frs ((ds.map fun d => maxL (d.filterMap id)).map .int), [some (.dat (liD A B C)), some (.dat (vsD false vs)), some (.dat (vsD false ds)), S, none, Q, R, none, none, none, none, none, none, none]) := fun S Q R => by
    rw [List.map_map]
    unfold i_l_delays_right_c0
    refine lc_all polD _ ds (by simp [sm, ownsAt, outs, argG, isAbs, arsD, arD, refs, slsOf, slOf, putBack, pubD, getD, getO, setS, wipeE, backE, partD, parG, Out.fg, borG, borE, -List.getD_eq_getElem?_getD, seq_vs]) (by simp) (by rw [szE]; omega) fun d hdm => ⟨[some (.dat (liD A B C)), some (.dat (vsD false vs)), some (.dat (vsD false ds)), S, none, Q, R, none, some (.dat (polD d)), none, none, none, none, none], by simp [sm, ownsAt, outs, argG, isAbs, arsD, arD, refs, slsOf, slOf, putBack, pubD, getD, getO, setS, wipeE, backE, partD, parG, Out.fg, borG, borE, -List.getD_eq_getElem?_getD], ?_, by simp [sm, ownsAt, outs, argG, isAbs, arsD, arD, refs, slsOf, slOf, putBack, pubD, getD, getO, setS, wipeE, backE, partD, parG, Out.fg, borG, borE, -List.getD_eq_getElem?_getD]⟩
    obtain ⟨r1, r2⟩ := hd.rows d hdm
    have ai := allInt_opt (v := d) fun o ho => by
      obtain ⟨x, e, _⟩ := r2 o ho
      exact ⟨x, e⟩
    have hne : d.filterMap id ≠ [] := fun z => by
      have m1 := h.b.m1
      have := List.mem_of_getElem? (g_get (v := d) (i := 0) (by omega))
      obtain ⟨y, hy, _⟩ := r2 _ this
      rw [hy] at this
      have : y ∈ d.filterMap id := List.mem_filterMap.mpr ⟨some y, this, rfl⟩
      rw [z] at this; cases this
    have hb : (d.filterMap id).isEmpty = false := by rw [List.isEmpty_eq_false_iff]; exact hne
    have mx : bltD "max" [polD d] = some (.dat (.int (maxL (d.filterMap id)))) := by
      unfold polD
      rw [bl_maxT, ai]
      simp only [Option.bind_some, hb, Bool.false_eq_true, if_false]
    unfold i_l_delays_right_c0e
    simp [sm, ownsAt, outs, argG, isAbs, arsD, arD, refs, slsOf, slOf, putBack, pubD, getD, getO, setS, wipeE, backE, partD, parG, Out.fg, borG, borE, -List.getD_eq_getElem?_getD, mx]
  have mne : (ds.map fun d => maxL (d.filterMap id)) ≠ [] := fun z => by
    have := hd.len
    rw [List.map_eq_nil_iff.mp z] at this
    have := List.length_pos_iff.mpr hv.ne
    simp at *; omega
  have mxm : bltD "max" [.list ((ds.map fun d => maxL (d.filterMap id)).map .int)] = some (.dat (.int (most ds))) := by
    rw [bl_maxL, allInt_ints]
    simp only [Option.bind_some]
    rw [if_neg (by simpa using mne)]; rfl
  have inner : ∀ (S R : Option Sl) (k : Nat), k < vs.length → (sm g45 [] Lz.wfuel i_l_delays_right_w1).s [some (.dat (liD A B C)), some (.dat (vsD false vs)), some (.dat (vsD false ds)), S, some (.dat (.int (most ds))), some (.dat (.list (T.map polD))), R, some (.dat (.int k)), some (.dat (polD (T.getD k []))), none, none, none, none, none] = some (.nx ([some (.dat (liD A B C)), some (.dat (vsD false vs)), some (.dat (vsD false ds)), S, some (.dat (.int (most ds))), some (.dat (.list (T.map polD))), R, some (.dat (.int k)), some (.dat (polD (T.getD k []))), none, none, none, none, none])) := fun S R k hk => by
    have sq : seqD (polD (T.getD k [])) = some ((T.getD k []).map optD) := rfl
    unfold i_l_delays_right_w1
    refine for_ev (ρ1 := [some (.dat (liD A B C)), some (.dat (vsD false vs)), some (.dat (vsD false ds)), S, some (.dat (.int (most ds))), some (.dat (.list (T.map polD))), R, some (.dat (.int k)), some (.dat (polD (T.getD k []))), none, none, none, none, none]) (xs := (enV (T.getD k [])).map (enE optD)) (by
      rw [← en_vec]
      generalize liD A B C = D at *
      generalize vsD false vs = V at *
      simp [sm, ownsAt, outs, argG, isAbs, arsD, arD, refs, slsOf, slOf, putBack, pubD, getD, getO, setS, wipeE, backE, partD, parG, Out.fg, borG, borE, -List.getD_eq_getElem?_getD, sq]) ?_
    refine for_same _ fun x hx => ?_
    obtain ⟨y, hy, rfl⟩ := List.mem_map.mp hx
    unfold enV at hy
    obtain ⟨i, hi, rfl⟩ := List.mem_map.mp hy
    have hi := List.mem_range.mp hi
    have tl := l2 k hk
    have ol : (oAt A B C vs k).length = (oAt A B C (dly vs ds) k).length := by rw [oAt_len, oAt_len]
    rw [tl] at hi
    unfold ltV at hi
    rw [List.length_zipWith, oAt_len] at hi
    have hi : i < C.length := by omega
    rw [tl, ltV_g ol]
    have wm := e_mattering_inputs A B C w false vs k i h hv hk hi
    refine ⟨[some (.dat (liD A B C)), some (.dat (vsD false vs)), some (.dat (vsD false ds)), S, some (.dat (.int (most ds))), some (.dat (.list (T.map polD))), R, some (.dat (.int k)), some (.dat (polD (ltV (oAt A B C vs k) (oAt A B C (dly vs ds) k)))), some (.dat (.int i)), some (.dat (optD (ltO (g (oAt A B C vs k) i) (g (oAt A B C (dly vs ds) k) i)))), none, none, none], by simp [sm, ownsAt, outs, argG, isAbs, arsD, arD, refs, slsOf, slOf, putBack, pubD, getD, getO, setS, wipeE, backE, partD, parG, Out.fg, borG, borE, -List.getD_eq_getElem?_getD, enE], ?_⟩
    generalize polD (ltV (oAt A B C vs k) (oAt A B C (dly vs ds) k)) = ROW at *
    have ml : (matL A B C vs k i).length ≤ 1000 := by
      unfold matL
      split
      · simp
      · have : ∀ n, (((List.range (vs.getD n []).length).filter fun p => cnd A B C vs k i (g (oAt A B C vs k) i) n p).map fun p => (n, p)).length ≤ 8 := fun n => by
          rw [List.length_map]
          refine Nat.le_trans (List.length_filter_le _ _) ?_
          rw [List.length_range]
          by_cases hn : n < vs.length
          · rw [vw _ (getD_mem hn)]; exact w8
          · rw [List.getD_eq_getElem?_getD, List.getElem?_eq_none (by omega)]; simp
        rw [List.length_flatMap]
        have key : ∀ l : List Nat, (l.map fun n => (((List.range (vs.getD n []).length).filter fun p => cnd A B C vs k i (g (oAt A B C vs k) i) n p).map fun p => (n, p)).length).sum ≤ l.length * 8 := by
          intro l
          induction l with
          | nil => simp
          | cons x l ih => simp only [List.map_cons, List.sum_cons, List.length_cons]; have := this x; omega
        have := key (List.range (k + 1))
        rw [List.length_range] at this
        omega
    cases q : g (oAt A B C vs k) i with
    | none =>
      have me : matL A B C vs k i = [] := by unfold matL; rw [if_pos q]
      rw [me] at wm
      have c1 : (sm g45 [] Lz.wfuel i_l_delays_right_c1).e [some (.dat (liD A B C)), some (.dat (vsD false vs)), some (.dat (vsD false ds)), S, some (.dat (.int (most ds))), some (.dat (.list (T.map polD))), R, some (.dat (.int k)), some (.dat (ROW)), some (.dat (.int i)), some (.dat (.none)), none, none, none] = some (.frs (([] : List (Nat × Nat)).map fun _ => PyData.none), [some (.dat (liD A B C)), some (.dat (vsD false vs)), some (.dat (vsD false ds)), S, some (.dat (.int (most ds))), some (.dat (.list (T.map polD))), R, some (.dat (.int k)), some (.dat (ROW)), some (.dat (.int i)), some (.dat (.none)), none, none, none]) := by
        unfold i_l_delays_right_c1
        refine lc_all prN _ [] (by
          generalize liD A B C = D at *
          generalize vsD false vs = V at *
          simp at wm
          simp [sm, ownsAt, outs, argG, isAbs, arsD, arD, refs, slsOf, slOf, putBack, pubD, getD, getO, setS, wipeE, backE, partD, parG, Out.fg, borG, borE, -List.getD_eq_getElem?_getD, q45_mattering_inputs, wm]) (by simp) (by simp) fun y hy => by cases hy
      unfold i_l_delays_right_w1b
      generalize liD A B C = D at *
      generalize vsD false vs = V at *
      generalize T.map polD = TL at *
      simp at c1
      simp [sm, ownsAt, outs, argG, isAbs, arsD, arD, refs, slsOf, slOf, putBack, pubD, getD, getO, setS, wipeE, backE, partD, parG, Out.fg, borG, borE, -List.getD_eq_getElem?_getD, ltO, optD, c1]
    | some x =>
      obtain ⟨y, hy, b1, b2, b3⟩ := late_bound h vw hd hk q
      rw [hy]
      have c1 : (sm g45 [] Lz.wfuel i_l_delays_right_c1).e [some (.dat (liD A B C)), some (.dat (vsD false vs)), some (.dat (vsD false ds)), S, some (.dat (.int (most ds))), some (.dat (.list (T.map polD))), R, some (.dat (.int k)), some (.dat (ROW)), some (.dat (.int i)), some (.dat (.int (y - x))), none, none, none] = some (.frs (((matL A B C vs k i).map fun z => (g (ds.getD z.1 []) z.2).getD 0).map .int), [some (.dat (liD A B C)), some (.dat (vsD false vs)), some (.dat (vsD false ds)), S, some (.dat (.int (most ds))), some (.dat (.list (T.map polD))), R, some (.dat (.int k)), some (.dat (ROW)), some (.dat (.int i)), some (.dat (.int (y - x))), none, none, none]) := by
        rw [List.map_map]
        unfold i_l_delays_right_c1
        refine lc_all prN _ (matL A B C vs k i) (by
          generalize (matL A B C vs k i).map prN = ML at *
          generalize liD A B C = D at *
          generalize vsD false vs = V at *
          simp [sm, ownsAt, outs, argG, isAbs, arsD, arD, refs, slsOf, slOf, putBack, pubD, getD, getO, setS, wipeE, backE, partD, parG, Out.fg, borG, borE, -List.getD_eq_getElem?_getD, q45_mattering_inputs, wm]) (by simp) (by rw [szE]; omega) fun z hz => ⟨[some (.dat (liD A B C)), some (.dat (vsD false vs)), some (.dat (vsD false ds)), S, some (.dat (.int (most ds))), some (.dat (.list (T.map polD))), R, some (.dat (.int k)), some (.dat (ROW)), some (.dat (.int i)), some (.dat (.int (y - x))), none, some (.dat (.int z.1)), some (.dat (.int z.2))], by simp [sm, ownsAt, outs, argG, isAbs, arsD, arD, refs, slsOf, slOf, putBack, pubD, getD, getO, setS, wipeE, backE, partD, parG, Out.fg, borG, borE, -List.getD_eq_getElem?_getD, prN], ?_, by simp [sm, ownsAt, outs, argG, isAbs, arsD, arD, refs, slsOf, slOf, putBack, pubD, getD, getO, setS, wipeE, backE, partD, parG, Out.fg, borG, borE, -List.getD_eq_getElem?_getD]⟩
        obtain ⟨z1, z2, u, hu, _⟩ := b3 z hz
        have ia := idx_vsD false (vs := ds) (i := z.1) (by rw [hd.len]; exact z1)
        have ib := idx_pol (v := ds.getD z.1 []) (i := z.2) (by rw [(hd.rows _ (getD_mem (by rw [hd.len]; exact z1))).1]; exact z2)
        rw [hu] at ib
        unfold i_l_delays_right_c1e
        simp only [Function.comp_def, hu, Option.getD_some]
        generalize vsD false ds = W at *
        generalize ds.getD z.1 [] = dv at *
        simp [sm, ownsAt, outs, argG, isAbs, arsD, arD, refs, slsOf, slOf, putBack, pubD, getD, getO, setS, wipeE, backE, partD, parG, Out.fg, borG, borE, -List.getD_eq_getElem?_getD, ia, ib, optD]
      have sne : ((matL A B C vs k i).map fun z => (g (ds.getD z.1 []) z.2).getD 0) ≠ [] := fun z => b2 (List.map_eq_nil_iff.mp z)
      obtain ⟨m1, _⟩ := maxL_ok sne
      have le : maxL ((matL A B C vs k i).map fun z => (g (ds.getD z.1 []) z.2).getD 0) ≤ y - x := by
        obtain ⟨z, hz, e⟩ := List.mem_map.mp m1
        obtain ⟨_, _, u, hu, hle⟩ := b3 z hz
        rw [← e, hu]; exact hle
      generalize (matL A B C vs k i).map (fun z => (g (ds.getD z.1 []) z.2).getD 0) = SL at *
      have ai := allInt_ints SL
      have hb : SL.isEmpty = false := by rw [List.isEmpty_eq_false_iff]; exact sne
      have mxs : bltD "max" [.list (SL.map .int)] = some (.dat (.int (maxL SL))) := by
        rw [bl_maxL, ai]
        simp only [Option.bind_some, hb, Bool.false_eq_true, if_false]
      unfold i_l_delays_right_w1b
      generalize liD A B C = D at *
      generalize vsD false vs = V at *
      generalize T.map polD = TL at *
      generalize SL.map PyData.int = SI at *
      simp [sm, ownsAt, outs, argG, isAbs, arsD, arD, refs, slsOf, slOf, putBack, pubD, getD, getO, setS, wipeE, backE, partD, parG, Out.fg, borG, borE, -List.getD_eq_getElem?_getD, ltO, optD, c1, mxs, le, b1]
  have outer : ∀ (S R : Option Sl), (sm g45 [] Lz.wfuel i_l_delays_right_w0).s [some (.dat (liD A B C)), some (.dat (vsD false vs)), some (.dat (vsD false ds)), S, some (.dat (.int (most ds))), some (.dat (.list (T.map polD))), R, none, none, none, none, none, none, none] = some (.nx ([some (.dat (liD A B C)), some (.dat (vsD false vs)), some (.dat (vsD false ds)), S, some (.dat (.int (most ds))), some (.dat (.list (T.map polD))), R, none, none, none, none, none, none, none])) := fun S R => by
    unfold i_l_delays_right_w0
    refine for_ev (ρ1 := [some (.dat (liD A B C)), some (.dat (vsD false vs)), some (.dat (vsD false ds)), S, some (.dat (.int (most ds))), some (.dat (.list (T.map polD))), R, none, none, none, none, none, none, none]) (xs := (T.map polD).mapIdx fun (i : Nat) x => PyData.tuple [.int (i : Nat), x]) (by
      generalize liD A B C = D at *
      generalize vsD false vs = V at *
      generalize vsD false ds = W at *
      simp [sm, ownsAt, outs, argG, isAbs, arsD, arD, refs, slsOf, slOf, putBack, pubD, getD, getO, setS, wipeE, backE, partD, parG, Out.fg, borG, borE, -List.getD_eq_getElem?_getD]) ?_
    refine for_same _ fun x hx => ?_
    obtain ⟨k, hk⟩ := List.mem_iff_getElem?.mp hx
    rw [List.getElem?_mapIdx, List.getElem?_map] at hk
    have kl : k < T.length := by
      by_cases kl : k < T.length
      · exact kl
      · rw [List.getElem?_eq_none (by omega)] at hk; cases hk
    rw [List.getElem?_eq_getElem kl] at hk
    have hk := Option.some.inj hk
    subst hk
    have tg : T[k] = T.getD k [] := by rw [List.getD_eq_getElem?_getD, List.getElem?_eq_getElem kl]; rfl
    rw [tg]
    have wi := inner S R k (by omega)
    refine ⟨[some (.dat (liD A B C)), some (.dat (vsD false vs)), some (.dat (vsD false ds)), S, some (.dat (.int (most ds))), some (.dat (.list (T.map polD))), R, some (.dat (.int k)), some (.dat (polD (T.getD k []))), none, none, none, none, none], by simp [sm, ownsAt, outs, argG, isAbs, arsD, arD, refs, slsOf, slOf, putBack, pubD, getD, getO, setS, wipeE, backE, partD, parG, Out.fg, borG, borE, -List.getD_eq_getElem?_getD], ?_⟩
    unfold i_l_delays_right_w0b
    generalize liD A B C = D at *
    generalize vsD false vs = V at *
    generalize vsD false ds = W at *
    generalize T.map polD = TL at *
    generalize polD (T.getD k []) = ROW at *
    simp [sm, ownsAt, outs, argG, isAbs, arsD, arD, refs, slsOf, slOf, putBack, pubD, getD, getO, setS, wipeE, backE, partD, parG, Out.fg, borG, borE, -List.getD_eq_getElem?_getD, wi]
  have TLz : T.length < 16777216 := by rw [l1]; omega
  have TLm : (T.map polD).length < 16777216 := by rw [List.length_map]; exact TLz
  have TL1 : ((T.map polD).length : Nat) + 1 ≤ 16777216 := TLm
  unfold f_l_delays_right fnS i_l_delays_right
  generalize liD A B C = D at *
  generalize vsD false vs = V at *
  generalize vsD true vs = V1 at *
  generalize vsD false ds = W at *
  generalize vsD true ds = W1 at *
  generalize (ds.map fun d => maxL (d.filterMap id)).map PyData.int = M at *
  generalize T.map polD = TL at *
  simp [sm, ownsAt, outs, argG, isAbs, arsD, arD, refs, slsOf, slOf, putBack, pubD, getD, getO, setS, wipeE, backE, partD, parG, Out.fg, borG, borE, szE, q45_l_late, w1, rD, q45_late_outputs, w2, w3, tv, td, rT2, Pz.ne_str, c0, mxm, outer, TLm, rT, Pz.eq_str, outs]
end k94

namespace k94
open PySem PySem.Spec PyProof.Rows L2 Dx Pz Lz
/-- one delay -/
def oneD (s w n p : Nat) : List Vc := (List.range s).map fun k => (List.range w).map fun q => some (if k = n ∧ q = p then 3 else 0)
theorem oneD_ok {vs : List Vc} {w n p : Nat} : DelOk (oneD vs.length w n p) vs w := by
  refine ⟨by unfold oneD; rw [List.length_map, List.length_range], fun d hd => ?_⟩
  obtain ⟨k, _, rfl⟩ := List.mem_map.mp hd
  refine ⟨by rw [List.length_map, List.length_range], fun o ho => ?_⟩
  obtain ⟨q, _, rfl⟩ := List.mem_map.mp ho
  exact ⟨_, rfl, by split <;> omega, by split <;> omega⟩
abbrev S_line_right (f : Fn) : Prop := ∀ (a b : Int) (A B C : Lz.Tb) (w : Nat) (vs : List Vc), potB b → LiOk A B C w → InOk vs w → ∃ a' b', f [potS a b, .dat (liD A B C), .dat (vsD false vs)] = some (.dat (.bool true), [potS a' b', .dat (liD A B C), .dat (vsD false vs)])
theorem e_l_line_right : S_line_right f_l_line_right := fun a b A B C w vs hb h hv => by
  have hl := hv.len
  have w8 := h.b.m8
  have w1 := h.b.m1
  have c8 := h.c.len
  have vpos := List.length_pos_iff.mpr hv.ne
  have vw : ∀ v ∈ vs, v.length = w := fun v hm => (hv.vec v hm).1
  have nV := (nice_ls (vs := vs) (by omega) (hv.vb w8)).mono (k' := 3) (m' := 120000) (by omega) (by omega)
  have nL := nice_li h
  have rS := repr2 nL nV (by omega) (by omega)
  have eV : PyData.list (vs.map polD) = vsD false vs := rfl
  rw [eV] at rS
  have li2' := li2 A B C
  have li3' := li3 A B C
  obtain ⟨r0, ix0, rl0⟩ := head_tb h.b
  have ln0 := len_pol r0
  rw [rl0] at ln0
  have ln3 := len_tb C
  have lnV := len_vs false vs
  have tv : bltD "tuple" [vsD false vs] = some (.dat (vsD true vs)) := rfl
  have ow := e_l_outputs A B C w false vs h (by omega) (hv.vl w8)
  obtain ⟨sh, hsh⟩ : ∃ sh, sh = (PyData.list [liD A B C, vsD false vs]).shown := ⟨_, rfl⟩
  rw [← hsh] at rS
  -- who matters makes later
  have w2 : ∀ (k i : Nat), k < vs.length → i < C.length → ∀ T : Option Sl, (sm g46 [0] Lz.wfuel i_l_line_right_w2).s [some (potS a b), some (.dat (liD A B C)), some (.dat (vsD false vs)), some (.dat (.int k)), none, none, some (.dat (.str sh)), some (.dat (.int w)), some (.dat (.int vs.length)), some (.dat (.int i)), none, none, some (.dat (.list ((matL A B C vs k i).map prN))), T, some (.dat (optD (g (oAt A B C vs k) i))), none, none] = some (.nx ([some (potS a b), some (.dat (liD A B C)), some (.dat (vsD false vs)), some (.dat (.int k)), none, none, some (.dat (.str sh)), some (.dat (.int w)), some (.dat (.int vs.length)), some (.dat (.int i)), none, none, some (.dat (.list ((matL A B C vs k i).map prN))), T, some (.dat (optD (g (oAt A B C vs k) i))), none, none])) := fun k i hk hi T => by
    unfold i_l_line_right_w2
    refine for_ev (ρ1 := [some (potS a b), some (.dat (liD A B C)), some (.dat (vsD false vs)), some (.dat (.int k)), none, none, some (.dat (.str sh)), some (.dat (.int w)), some (.dat (.int vs.length)), some (.dat (.int i)), none, none, some (.dat (.list ((matL A B C vs k i).map prN))), T, some (.dat (optD (g (oAt A B C vs k) i))), none, none]) (xs := (matL A B C vs k i).map prN) (by simp [sm, ownsAt, outs, argG, isAbs, arsD, arD, refs, slsOf, slOf, putBack, pubD, getD, getO, setS, wipeE, backE, partD, parG, Out.fg, borG, borE, -List.getD_eq_getElem?_getD]) ?_
    refine for_same _ fun x hx => ?_
    obtain ⟨⟨n, p⟩, hq, rfl⟩ := List.mem_map.mp hx
    obtain ⟨t, ht, hn, hp, _⟩ := mat_mem.mp hq
    obtain ⟨y, hy, hle⟩ := moved_ge h hk ht hq 3
    have vl := vw _ (getD_mem (i := n) (by omega))
    have wm := e_l_moved vs n p 3 (by omega) hp (by omega)
    have wm : f_l_moved [.dat (vsD false vs), .dat (.int n), .dat (.int p), .dat (.int 3)] = _ := wm
    have wo := e_l_outputs A B C w false (mvV vs n p 3) h (by rw [mv_len]; omega) (fun v hm => by rw [mv_w vw (by omega) v hm]; omega)
    have wo : f_l_outputs [.dat (liD A B C), .dat (.list ((mvV vs n p 3).map polD))] = _ := wo
    have i1 := idx_ls (vs := out A B C (mvV vs n p 3)) (i := k) (by rw [out_len, mv_len]; exact hk)
    rw [out_getD (by rw [mv_len]; exact hk)] at i1
    have i2 := idx_pol (v := oAt A B C (mvV vs n p 3) k) (i := i) (by rw [oAt_len]; exact hi)
    rw [hy] at i2
    rw [ht]
    have nlt : ¬ y < t + 3 := by omega
    refine ⟨[some (potS a b), some (.dat (liD A B C)), some (.dat (vsD false vs)), some (.dat (.int k)), none, none, some (.dat (.str sh)), some (.dat (.int w)), some (.dat (.int vs.length)), some (.dat (.int i)), none, some (.dat (.int p)), some (.dat (.list ((matL A B C vs k i).map prN))), T, some (.dat (optD (some t))), some (.dat (.int n)), none], by simp [sm, ownsAt, outs, argG, isAbs, arsD, arD, refs, slsOf, slOf, putBack, pubD, getD, getO, setS, wipeE, backE, partD, parG, Out.fg, borG, borE, -List.getD_eq_getElem?_getD, prN], ?_⟩
    generalize (matL A B C vs k i).map prN = ML at *
    generalize (out A B C (mvV vs n p 3)).map polD = OM at *
    generalize (mvV vs n p 3).map polD = MV at *
    generalize liD A B C = D at *
    generalize hV : vsD false vs = V at *
    unfold i_l_line_right_w2b
    unfold potS at *
    simp [sm, ownsAt, outs, argG, isAbs, arsD, arD, refs, slsOf, slOf, putBack, pubD, getD, getO, setS, wipeE, backE, partD, parG, Out.fg, borG, borE, -List.getD_eq_getElem?_getD, q46_l_moved, wm, q46_l_outputs, wo, i1, i2, optD, nlt]
  have w1' : ∀ k : Nat, k < vs.length → (sm g46 [0] Lz.wfuel i_l_line_right_w1).s [some (potS a b), some (.dat (liD A B C)), some (.dat (vsD false vs)), some (.dat (.int k)), none, none, some (.dat (.str sh)), some (.dat (.int w)), some (.dat (.int vs.length)), none, none, none, none, none, none, none, none] = some (.nx ([some (potS a b), some (.dat (liD A B C)), some (.dat (vsD false vs)), some (.dat (.int k)), none, none, some (.dat (.str sh)), some (.dat (.int w)), some (.dat (.int vs.length)), none, none, none, none, none, none, none, none])) := fun k hk => by
    have rg := rng_n C.length (by omega)
    unfold i_l_line_right_w1
    refine for_ev (ρ1 := [some (potS a b), some (.dat (liD A B C)), some (.dat (vsD false vs)), some (.dat (.int k)), none, none, some (.dat (.str sh)), some (.dat (.int w)), some (.dat (.int vs.length)), none, none, none, none, none, none, none, none]) (xs := (List.range C.length).map fun (i : Nat) => .int i) (by
      generalize liD A B C = D at *
      generalize vsD false vs = V at *
      generalize tbD C = dC at *
      unfold potS at *
      simp [sm, ownsAt, outs, argG, isAbs, arsD, arD, refs, slsOf, slOf, putBack, pubD, getD, getO, setS, wipeE, backE, partD, parG, Out.fg, borG, borE, -List.getD_eq_getElem?_getD, li3', ln3, rg]) ?_
    refine for_same _ fun x hx => ?_
    obtain ⟨i, hi, rfl⟩ := List.mem_map.mp hx
    have hi := List.mem_range.mp hi
    have wd := e_l_matters A B C w vs k i h hv hk hi
    rw [eV] at wd
    have wt := e_mattering_inputs A B C w false vs k i h hv hk hi
    have wt2 := e_mattering_inputs A B C w true vs k i h hv hk hi
    have i1 := idx_ls (vs := out A B C vs) (i := k) (by rw [out_len]; exact hk)
    rw [out_getD hk] at i1
    have i2 := idx_pol (v := oAt A B C vs k) (i := i) (by rw [oAt_len]; exact hi)
    have mb : ∀ q ∈ matL A B C vs k i, q.1 < 1000 ∧ q.2 < 1000 := fun ⟨n, p⟩ hq => by
      obtain ⟨t, ht, hn, hp, _⟩ := mat_mem.mp hq
      have vl := vw _ (getD_mem (i := n) (by omega))
      exact ⟨by show n < 1000; omega, by show p < 1000; omega⟩
    have ml : (matL A B C vs k i).length ≤ 1000 := by
      unfold matL
      split
      · simp
      · have : ∀ n, (((List.range (vs.getD n []).length).filter fun p => cnd A B C vs k i (g (oAt A B C vs k) i) n p).map fun p => (n, p)).length ≤ 8 := fun n => by
          rw [List.length_map]
          refine Nat.le_trans (List.length_filter_le _ _) ?_
          rw [List.length_range]
          by_cases hn : n < vs.length
          · rw [vw _ (getD_mem hn)]; exact w8
          · rw [List.getD_eq_getElem?_getD, List.getElem?_eq_none (by omega)]; simp
        rw [List.length_flatMap]
        have key : ∀ l : List Nat, (l.map fun n => (((List.range (vs.getD n []).length).filter fun p => cnd A B C vs k i (g (oAt A B C vs k) i) n p).map fun p => (n, p)).length).sum ≤ l.length * 8 := by
          intro l
          induction l with
          | nil => simp
          | cons x l ih => simp only [List.map_cons, List.sum_cons, List.length_cons]; have := this x; omega
        have := key (List.range (k + 1))
        rw [List.length_range] at this
        omega
    have nM := nice_pr ml mb
    have rM := repr2 nM nM (by omega) (by omega)
    have hz : ((matL A B C vs k i).map prN).length < 16777216 := by rw [List.length_map]; omega
    have wi := w2 k i hk hi (some (.own ((matL A B C vs k i).map prN ++ [.none])))
    refine ⟨[some (potS a b), some (.dat (liD A B C)), some (.dat (vsD false vs)), some (.dat (.int k)), none, none, some (.dat (.str sh)), some (.dat (.int w)), some (.dat (.int vs.length)), some (.dat (.int i)), none, none, none, none, none, none, none], by simp [sm, ownsAt, outs, argG, isAbs, arsD, arD, refs, slsOf, slOf, putBack, pubD, getD, getO, setS, wipeE, backE, partD, parG, Out.fg, borG, borE, -List.getD_eq_getElem?_getD], ?_⟩
    generalize (matL A B C vs k i).map prN = ML at *
    generalize (out A B C vs).map polD = O at *
    generalize liD A B C = D at *
    generalize vsD false vs = V at *
    generalize vsD true vs = V1 at *
    unfold i_l_line_right_w1b
    unfold potS at *
    simp [sm, ownsAt, outs, argG, isAbs, arsD, arD, refs, slsOf, slOf, putBack, pubD, getD, getO, setS, wipeE, backE, partD, parG, Out.fg, borG, borE, szE, q46_l_matters, wd, q46_mattering_inputs, wt, wt2, tv, rM, Pz.ne_str, hz, q46_l_outputs, ow, i1, i2, wi]
  have w0' : (sm g46 [0] Lz.wfuel i_l_line_right_w0).s [some (potS a b), some (.dat (liD A B C)), some (.dat (vsD false vs)), none, none, none, some (.dat (.str sh)), some (.dat (.int w)), some (.dat (.int vs.length)), none, none, none, none, none, none, none, none] = some (.nx ([some (potS a b), some (.dat (liD A B C)), some (.dat (vsD false vs)), none, none, none, some (.dat (.str sh)), some (.dat (.int w)), some (.dat (.int vs.length)), none, none, none, none, none, none, none, none])) := by
    have rg := rng_n vs.length (by omega)
    unfold i_l_line_right_w0
    refine for_ev (ρ1 := [some (potS a b), some (.dat (liD A B C)), some (.dat (vsD false vs)), none, none, none, some (.dat (.str sh)), some (.dat (.int w)), some (.dat (.int vs.length)), none, none, none, none, none, none, none, none]) (xs := (List.range vs.length).map fun (i : Nat) => .int i) (by
      generalize liD A B C = D at *
      generalize vsD false vs = V at *
      unfold potS at *
      simp [sm, ownsAt, outs, argG, isAbs, arsD, arD, refs, slsOf, slOf, putBack, pubD, getD, getO, setS, wipeE, backE, partD, parG, Out.fg, borG, borE, -List.getD_eq_getElem?_getD, rg]) ?_
    refine for_same _ fun x hx => ?_
    obtain ⟨k, hk, rfl⟩ := List.mem_map.mp hx
    have hk := List.mem_range.mp hk
    have wi := w1' k hk
    refine ⟨[some (potS a b), some (.dat (liD A B C)), some (.dat (vsD false vs)), some (.dat (.int k)), none, none, some (.dat (.str sh)), some (.dat (.int w)), some (.dat (.int vs.length)), none, none, none, none, none, none, none, none], by simp [sm, ownsAt, outs, argG, isAbs, arsD, arD, refs, slsOf, slOf, putBack, pubD, getD, getO, setS, wipeE, backE, partD, parG, Out.fg, borG, borE, -List.getD_eq_getElem?_getD], ?_⟩
    generalize liD A B C = D at *
    generalize vsD false vs = V at *
    unfold i_l_line_right_w0b
    unfold potS at *
    simp [sm, ownsAt, outs, argG, isAbs, arsD, arD, refs, slsOf, slOf, putBack, pubD, getD, getO, setS, wipeE, backE, partD, parG, Out.fg, borG, borE, -List.getD_eq_getElem?_getD, wi]
  -- delays
  obtain ⟨s1, a1, b1, d1, s10, s11, hb1⟩ := e_l_draw a b vs.length hb (by omega) (by omega)
  obtain ⟨s2, a2, b2, d2, s20, s21, hb2⟩ := e_l_draw a1 b1 w hb1 (by omega) (by omega)
  obtain ⟨n, rfl⟩ : ∃ n : Nat, s1 = n := ⟨s1.toNat, by omega⟩
  obtain ⟨p, rfl⟩ : ∃ n : Nat, s2 = n := ⟨s2.toNat, by omega⟩
  have rgw := rng_n w (by omega)
  have rgs := rng_n vs.length (by omega)
  have c0 : (sm g46 [0] Lz.wfuel i_l_line_right_c0).e [some (potS a2 b2), some (.dat (liD A B C)), some (.dat (vsD false vs)), none, none, none, some (.dat (.str sh)), some (.dat (.int w)), some (.dat (.int vs.length)), none, some (.dat (.int n)), some (.dat (.int p)), none, none, none, none, none] = some (.frs ((oneD vs.length w n p).map polD), [some (potS a2 b2), some (.dat (liD A B C)), some (.dat (vsD false vs)), none, none, none, some (.dat (.str sh)), some (.dat (.int w)), some (.dat (.int vs.length)), none, some (.dat (.int n)), some (.dat (.int p)), none, none, none, none, none]) := by
    unfold i_l_line_right_c0 oneD
    rw [List.map_map]
    refine lc_all (fun (i : Nat) => PyData.int i) _ (List.range vs.length) (by
      generalize liD A B C = D at *
      generalize vsD false vs = V at *
      simp [sm, ownsAt, outs, argG, isAbs, arsD, arD, refs, slsOf, slOf, putBack, pubD, getD, getO, setS, wipeE, backE, partD, parG, Out.fg, borG, borE, -List.getD_eq_getElem?_getD, rgs]) (by simp) (by rw [szE, List.length_range]; omega) fun k hk => ⟨[some (potS a2 b2), some (.dat (liD A B C)), some (.dat (vsD false vs)), some (.dat (.int k)), none, none, some (.dat (.str sh)), some (.dat (.int w)), some (.dat (.int vs.length)), none, some (.dat (.int n)), some (.dat (.int p)), none, none, none, none, none], by simp [sm, ownsAt, outs, argG, isAbs, arsD, arD, refs, slsOf, slOf, putBack, pubD, getD, getO, setS, wipeE, backE, partD, parG, Out.fg, borG, borE, -List.getD_eq_getElem?_getD], ?_, by simp [sm, ownsAt, outs, argG, isAbs, arsD, arD, refs, slsOf, slOf, putBack, pubD, getD, getO, setS, wipeE, backE, partD, parG, Out.fg, borG, borE, -List.getD_eq_getElem?_getD]⟩
    have c1 : (sm g46 [0] Lz.wfuel i_l_line_right_c1).e [some (potS a2 b2), some (.dat (liD A B C)), some (.dat (vsD false vs)), some (.dat (.int k)), none, none, some (.dat (.str sh)), some (.dat (.int w)), some (.dat (.int vs.length)), none, some (.dat (.int n)), some (.dat (.int p)), none, none, none, none, none] = some (.frs (((List.range w).map fun q => some (if k = n ∧ q = p then (3 : Int) else 0)).map optD), [some (potS a2 b2), some (.dat (liD A B C)), some (.dat (vsD false vs)), some (.dat (.int k)), none, none, some (.dat (.str sh)), some (.dat (.int w)), some (.dat (.int vs.length)), none, some (.dat (.int n)), some (.dat (.int p)), none, none, none, none, none]) := by
      unfold i_l_line_right_c1
      rw [List.map_map]
      refine lc_all (fun (i : Nat) => PyData.int i) _ (List.range w) (by
        generalize liD A B C = D at *
        generalize vsD false vs = V at *
        simp [sm, ownsAt, outs, argG, isAbs, arsD, arD, refs, slsOf, slOf, putBack, pubD, getD, getO, setS, wipeE, backE, partD, parG, Out.fg, borG, borE, -List.getD_eq_getElem?_getD, rgw]) (by simp) (by rw [szE, List.length_range]; omega) fun q hq => ⟨[some (potS a2 b2), some (.dat (liD A B C)), some (.dat (vsD false vs)), some (.dat (.int k)), none, none, some (.dat (.str sh)), some (.dat (.int w)), some (.dat (.int vs.length)), none, some (.dat (.int n)), some (.dat (.int p)), none, none, none, none, some (.dat (.int q))], by simp [sm, ownsAt, outs, argG, isAbs, arsD, arD, refs, slsOf, slOf, putBack, pubD, getD, getO, setS, wipeE, backE, partD, parG, Out.fg, borG, borE, -List.getD_eq_getElem?_getD], ?_, by simp [sm, ownsAt, outs, argG, isAbs, arsD, arD, refs, slsOf, slOf, putBack, pubD, getD, getO, setS, wipeE, backE, partD, parG, Out.fg, borG, borE, -List.getD_eq_getElem?_getD]⟩
      have pe := pair_eq k q n p
      unfold i_l_line_right_c1e
      by_cases hc : k = n ∧ q = p
      · rw [decide_eq_true hc] at pe
        obtain ⟨rfl, rfl⟩ := hc
        simp [sm, ownsAt, outs, argG, isAbs, arsD, arD, refs, slsOf, slOf, putBack, pubD, getD, getO, setS, wipeE, backE, partD, parG, Out.fg, borG, borE, -List.getD_eq_getElem?_getD, szE, pe, optD]
      · rw [decide_eq_false hc] at pe
        simp [sm, ownsAt, outs, argG, isAbs, arsD, arD, refs, slsOf, slOf, putBack, pubD, getD, getO, setS, wipeE, backE, partD, parG, Out.fg, borG, borE, -List.getD_eq_getElem?_getD, szE, pe, hc, optD]
    have tt : bltD "tuple" [.list (((List.range w).map fun q => some (if k = n ∧ q = p then (3 : Int) else 0)).map optD)] = some (.dat (polD ((List.range w).map fun q => some (if k = n ∧ q = p then (3 : Int) else 0)))) := rfl
    generalize ((List.range w).map fun q => some (if k = n ∧ q = p then (3 : Int) else 0)).map optD = L at c1 tt
    unfold i_l_line_right_c0e
    simp [sm, ownsAt, outs, argG, isAbs, arsD, arD, refs, slsOf, slOf, putBack, pubD, getD, getO, setS, wipeE, backE, partD, parG, Out.fg, borG, borE, -List.getD_eq_getElem?_getD, c1, tt]
  obtain ⟨ms, a3, b3, c2, ml, mq, hb3⟩ := lc_pot (G := g46) (wf := Lz.wfuel) (elt := i_l_line_right_c2e) (it := .irg (.var 8)) (i := 3) (a := a2) (b := b2) (ρ0 := [some (potS a2 b2), some (.dat (liD A B C)), some (.dat (vsD false vs)), none, some (.dat (.list ((oneD vs.length w n p).map polD))), none, some (.dat (.str sh)), some (.dat (.int w)), some (.dat (.int vs.length)), none, some (.dat (.int n)), some (.dat (.int p)), none, none, none, none, none]) (fun a b s => [some (potS a b), some (.dat (liD A B C)), some (.dat (vsD false vs)), s, some (.dat (.list ((oneD vs.length w n p).map polD))), none, some (.dat (.str sh)), some (.dat (.int w)), some (.dat (.int vs.length)), none, some (.dat (.int n)), some (.dat (.int p)), none, none, none, none, none]) ((List.range vs.length).map fun (i : Nat) => .int i) polD (fun d => d.length = w ∧ ∀ o ∈ d, ∃ x : Int, o = some x ∧ 0 ≤ x ∧ x ≤ 999999999) hb2 (by simp [sm, ownsAt, outs, argG, isAbs, arsD, arD, refs, slsOf, slOf, putBack, pubD, getD, getO, setS, wipeE, backE, partD, parG, Out.fg, borG, borE, -List.getD_eq_getElem?_getD, rgs]) (by rw [szE]; simp; omega) (by simp) (fun a b x => by simp [sm, ownsAt, outs, argG, isAbs, arsD, arD, refs, slsOf, slOf, putBack, pubD, getD, getO, setS, wipeE, backE, partD, parG, Out.fg, borG, borE, -List.getD_eq_getElem?_getD]) (fun a' b' x => by simp [sm, ownsAt, outs, argG, isAbs, arsD, arD, refs, slsOf, slOf, putBack, pubD, getD, getO, setS, wipeE, backE, partD, parG, Out.fg, borG, borE, -List.getD_eq_getElem?_getD]) fun y hy a b hb => by
    obtain ⟨os, a', b', h1, h2, h3, h4⟩ := lc_pot (G := g46) (wf := Lz.wfuel) (elt := i_l_line_right_c3e) (it := .irg (.var 7)) (i := 16) (a := a) (b := b) (ρ0 := [some (potS a b), some (.dat (liD A B C)), some (.dat (vsD false vs)), some (.dat (y)), some (.dat (.list ((oneD vs.length w n p).map polD))), none, some (.dat (.str sh)), some (.dat (.int w)), some (.dat (.int vs.length)), none, some (.dat (.int n)), some (.dat (.int p)), none, none, none, none, none]) (fun a b s => [some (potS a b), some (.dat (liD A B C)), some (.dat (vsD false vs)), some (.dat (y)), some (.dat (.list ((oneD vs.length w n p).map polD))), none, some (.dat (.str sh)), some (.dat (.int w)), some (.dat (.int vs.length)), none, some (.dat (.int n)), some (.dat (.int p)), none, none, none, none, s]) ((List.range w).map fun (i : Nat) => .int i) optD (fun o => ∃ x : Int, o = some x ∧ 0 ≤ x ∧ x ≤ 999999999) hb (by simp [sm, ownsAt, outs, argG, isAbs, arsD, arD, refs, slsOf, slOf, putBack, pubD, getD, getO, setS, wipeE, backE, partD, parG, Out.fg, borG, borE, -List.getD_eq_getElem?_getD, rgw]) (by rw [szE]; simp; omega) (by simp) (fun a b x => by simp [sm, ownsAt, outs, argG, isAbs, arsD, arD, refs, slsOf, slOf, putBack, pubD, getD, getO, setS, wipeE, backE, partD, parG, Out.fg, borG, borE, -List.getD_eq_getElem?_getD]) (fun a' b' x => by simp [sm, ownsAt, outs, argG, isAbs, arsD, arD, refs, slsOf, slOf, putBack, pubD, getD, getO, setS, wipeE, backE, partD, parG, Out.fg, borG, borE, -List.getD_eq_getElem?_getD]) fun z hz a b hb => by
      obtain ⟨r, a1, b1, w1, hr, hb1⟩ := e_l_pick a b [.int 0, .int 0, .int 1, .int 5, .int 999999999] hb (by simp) (by simp)
      have : ∃ x : Int, r = optD (some x) ∧ 0 ≤ x ∧ x ≤ 999999999 := by
        simp at hr
        rcases hr with rfl | rfl | rfl | rfl <;> exact ⟨_, rfl, by omega, by omega⟩
      obtain ⟨x, rfl, hx⟩ := this
      refine ⟨some x, a1, b1, .dat (optD (some x)), ?_, rfl, ⟨x, rfl, hx⟩, hb1⟩
      unfold i_l_line_right_c3e
      generalize liD A B C = D at *
      generalize vsD false vs = V at *
      unfold potS at *
      simp [sm, ownsAt, outs, argG, isAbs, arsD, arD, refs, slsOf, slOf, putBack, pubD, getD, getO, setS, wipeE, backE, partD, parG, Out.fg, borG, borE, -List.getD_eq_getElem?_getD, szE, q46_l_pick, w1]
    have h1 : (sm g46 [0] Lz.wfuel i_l_line_right_c3).e _ = _ := h1
    refine ⟨os, a', b', .dat (polD os), ?_, rfl, ⟨by simpa using h2, h3⟩, h4⟩
    have tt : bltD "tuple" [.list (os.map optD)] = some (.dat (polD os)) := rfl
    generalize os.map optD = L at *
    generalize liD A B C = D at *
    generalize vsD false vs = V at *
    unfold i_l_line_right_c2e
    unfold potS at *
    simp [sm, ownsAt, outs, argG, isAbs, arsD, arD, refs, slsOf, slOf, putBack, pubD, getD, getO, setS, wipeE, backE, partD, parG, Out.fg, borG, borE, -List.getD_eq_getElem?_getD, h1, tt]
  have c2 : (sm g46 [0] Lz.wfuel i_l_line_right_c2).e _ = _ := c2
  have dk : DelOk ms vs w := ⟨by simpa using ml, mq⟩
  have r1 := e_l_delays_right A B C w vs _ h hv (oneD_ok (n := n) (p := p))
  have r2 := e_l_delays_right A B C w vs _ h hv dk
  have r1 : f_l_delays_right [.dat (liD A B C), .dat (vsD false vs), .dat (.list ((oneD vs.length w n p).map polD))] = some (.dat (.bool true), [.dat (liD A B C), .dat (vsD false vs), .dat (.list ((oneD vs.length w n p).map polD))]) := r1
  have r2 : f_l_delays_right [.dat (liD A B C), .dat (vsD false vs), .dat (.list (ms.map polD))] = some (.dat (.bool true), [.dat (liD A B C), .dat (vsD false vs), .dat (.list (ms.map polD))]) := r2
  refine ⟨a3, b3, ?_⟩
  unfold f_l_line_right fnS i_l_line_right
  generalize (oneD vs.length w n p).map polD = L1 at *
  generalize ms.map polD = L2 at *
  generalize tbD B = dB at *
  generalize liD A B C = D at *
  generalize vsD false vs = V at *
  unfold potS at *
  simp [sm, ownsAt, outs, argG, isAbs, arsD, arD, refs, slsOf, slOf, putBack, pubD, getD, getO, setS, wipeE, backE, partD, parG, Out.fg, borG, borE, -List.getD_eq_getElem?_getD, szE, rS, li2', ix0, ln0, lnV, w0', q46_l_draw, d1, d2, c0, c2, q46_l_delays_right, r1, r2, Pz.eq_str, outs]
end k94

namespace k94
open PySem PySem.Spec PyProof.Rows L2 Dx Pz Lz
theorem in_of {vs : List Vc} {w n : Nat} (hl : vs.length = n) (h1 : 1 ≤ n) (h2 : n ≤ 12) (h : ∀ v ∈ vs, vecB w v) : InOk vs w := ⟨fun z => by rw [z] at hl; simp at hl; omega, by omega, fun v hv => (h v hv).ok⟩
abbrev S_right (f : Fn) : Prop := ∀ a b : Int, potB b → ∃ a' b', f [potS a b] = some (.dat (.bool true), [potS a' b'])
theorem e_l_right : S_right f_l_right := fun a b hb => by
  obtain ⟨A, B, C, w, a1, b1, w1, h, _, hw, _, hb1⟩ := e_l_line a b 4 hb (by omega) (by omega)
  have w1 : f_l_line [potS a b, .dat (.int 4)] = some (.dat (liD A B C), [potS a1 b1, .dat (.int 4)]) := w1
  obtain ⟨v1, a2, b2, w2, l2, q2, hb2⟩ := e_l_even_vectors a1 b1 4 w hb1 (by omega) (by omega)
  obtain ⟨v2, a3, b3, w3, l3, q3, hb3⟩ := e_l_vectors a2 b2 3 w hb2 (by omega) (by omega)
  obtain ⟨v3, a4, b4, w4, l4, q4, hb4⟩ := e_l_even_vectors a3 b3 6 w hb3 (by omega) (by omega)
  have w2 : f_l_even_vectors [potS a1 b1, .dat (.int 4), .dat (.int w)] = some (.frs (v1.map polD), [potS a2 b2, .dat (.int 4), .dat (.int w)]) := w2
  have w3 : f_l_vectors [potS a2 b2, .dat (.int 3), .dat (.int w)] = some (.frs (v2.map polD), [potS a3 b3, .dat (.int 3), .dat (.int w)]) := w3
  have w4 : f_l_even_vectors [potS a3 b3, .dat (.int 6), .dat (.int w)] = some (.frs (v3.map polD), [potS a4 b4, .dat (.int 6), .dat (.int w)]) := w4
  obtain ⟨x, a5, b5, w5, hx, hb5⟩ := e_l_pick a4 b4 [vsD false v1, vsD false v2, vsD false v3] hb4 (by simp) (by simp)
  have : ∃ vs, x = vsD false vs ∧ InOk vs w := by
    simp only [List.mem_cons, List.not_mem_nil, or_false] at hx
    rcases hx with rfl | rfl | rfl
    · exact ⟨v1, rfl, in_of l2 (by omega) (by omega) q2⟩
    · exact ⟨v2, rfl, in_of l3 (by omega) (by omega) q3⟩
    · exact ⟨v3, rfl, in_of l4 (by omega) (by omega) q4⟩
  obtain ⟨vs, rfl, hv⟩ := this
  obtain ⟨a6, b6, w6⟩ := e_l_line_right a5 b5 A B C w vs hb5 h hv
  have li2' := li2 A B C
  obtain ⟨r0, ix0, rl0⟩ := head_tb h.b
  have ln0 := len_pol r0
  rw [rl0] at ln0
  have f1 : PyData.list (v1.map polD) = vsD false v1 := rfl
  have f2 : PyData.list (v2.map polD) = vsD false v2 := rfl
  have f3 : PyData.list (v3.map polD) = vsD false v3 := rfl
  refine ⟨a6, b6, ?_⟩
  unfold f_l_right fnS i_l_right
  generalize tbD B = dB at *
  generalize liD A B C = D at *
  unfold potS at *
  simp [sm, ownsAt, outs, argG, isAbs, arsD, arD, refs, slsOf, slOf, putBack, pubD, getD, getO, setS, wipeE, backE, partD, parG, Out.fg, borG, borE, -List.getD_eq_getElem?_getD, szE, q47_l_line, w1, li2', ix0, ln0, q47_l_even_vectors, w2, q47_l_vectors, w3, w4, f1, f2, f3, q47_l_pick, w5, q47_l_line_right, w6, outs]
/-! ### one place with its turn -/
def Sg (gs : List Int) (k : Nat) : Int := (gs.take k).sum
theorem Sg_succ (gs : List Int) (k : Nat) : Sg gs (k + 1) = Sg gs k + gs.getD k 0 := by
  unfold Sg
  rw [List.take_succ, List.sum_append, List.getD_eq_getElem?_getD]
  cases gs[k]? <;> simp
def Tg (tu : Int) (gs : List Int) (k : Nat) : Int := k * tu + Sg gs k
theorem Tg_succ (tu : Int) (gs : List Int) (k : Nat) : Tg tu gs (k + 1) = Tg tu gs k + tu + gs.getD k 0 := by
  unfold Tg
  rw [Sg_succ]
  push_cast
  rw [Int.add_mul]
  omega
/-- what is left of the delay -/
def Lf (gs : List Int) (n : Nat) (y : Int) (k : Nat) : Int := y - (Sg gs k - Sg gs n)
def Dg (gs : List Int) (n : Nat) (y : Int) (k : Nat) : Int := if k < n then 0 else if Lf gs n y k > 0 then Lf gs n y k else 0
theorem mx1 (a : Int) : mx [some a] = some a := yon fun c => by rw [mx_le]; simp
theorem mx2 (a b : Int) : mx [some a, some b] = some (if a < b then b else a) := yon fun c => by
  rw [mx_le]
  cases c with
  | none => simp [Le]
  | some c =>
    simp only [List.mem_cons, List.not_mem_nil, or_false, forall_eq_or_imp, forall_eq, le_some]
    split <;> omega
theorem ap1 (t x : Int) : ap [[some t]] [some x] = [some (t + x)] := by
  unfold ap
  simp [mx1]
theorem jn1 (a b : Int) : jn [some a] [some b] = [some (if a < b then b else a)] := by
  unfold jn
  simp [mx2]
theorem at_vs {f : Nat → Int} {n k : Nat} (h : k < n) : ((List.range n).map fun k => [some (f k)]).getD k [] = [some (f k)] := by
  rw [List.getD_eq_getElem?_getD, List.getElem?_map, List.getElem?_range h]; rfl
theorem s_on (tu : Int) (gs : List Int) (hg : ∀ x ∈ gs, 0 ≤ x) : ∀ k, k < 12 → sAt [[some tu]] [[some 0]] ((List.range 12).map fun k => [some (Tg tu gs k)]) k = [some (Tg tu gs k)]
  | 0, h => by
    rw [sAt, at_vs h, ap1, Int.zero_add]
  | k + 1, h => by
    rw [sAt, s_on tu gs hg k (by omega), at_vs h, ap1, ap1, jn1]
    have := Tg_succ tu gs k
    have g0 : 0 ≤ gs.getD k 0 := by
      rw [List.getD_eq_getElem?_getD]
      cases e : gs[k]? with
      | none => simp
      | some x => exact hg x (List.mem_of_getElem? e)
    congr 2
    split <;> omega
theorem dl_at {tu : Int} {gs : List Int} {n : Nat} {y : Int} {k : Nat} (h : k < 12) : (dly ((List.range 12).map fun k => [some (Tg tu gs k)]) ((List.range 12).map fun k => [some (if k = n then y else 0)])).getD k [] = [some (Tg tu gs k + if k = n then y else 0)] := by
  rw [dly_at (by simp) (by simpa using h), at_vs h, at_vs h]
  rfl
theorem s_late (tu : Int) (gs : List Int) (hg : ∀ x ∈ gs, 0 ≤ x) (n : Nat) (y : Int) (hy : 0 ≤ y) : ∀ k, k < 12 → sAt [[some tu]] [[some 0]] (dly ((List.range 12).map fun k => [some (Tg tu gs k)]) ((List.range 12).map fun k => [some (if k = n then y else 0)])) k = [some (Tg tu gs k + Dg gs n y k)]
  | 0, h => by
    rw [sAt, dl_at h, ap1, Int.zero_add]
    congr 3
    unfold Dg Lf
    by_cases e : 0 = n
    · subst e
      rw [if_pos rfl, if_neg (by omega)]
      split <;> omega
    · rw [if_neg e, if_pos (by omega)]
  | k + 1, h => by
    rw [sAt, s_late tu gs hg n y hy k (by omega), dl_at h, ap1, ap1, jn1]
    have h1 := Tg_succ tu gs k
    have h2 := Sg_succ gs k
    have g0 : 0 ≤ gs.getD k 0 := by
      rw [List.getD_eq_getElem?_getD]
      cases e : gs[k]? with
      | none => simp
      | some x => exact hg x (List.mem_of_getElem? e)
    congr 2
    unfold Dg Lf
    by_cases e : k + 1 = n
    · subst e
      rw [if_pos rfl, if_pos (show k < k + 1 by omega), if_neg (show ¬ k + 1 < k + 1 by omega)]
      split <;> split <;> omega
    · rw [if_neg e]
      by_cases e2 : k + 1 < n
      · rw [if_pos (show k < n by omega), if_pos e2]
        split <;> omega
      · rw [if_neg (show ¬ k < n by omega), if_neg e2]
        split <;> split <;> split <;> omega
theorem lt_gaps (tu : Int) (gs : List Int) (hg : ∀ x ∈ gs, 0 ≤ x) (n : Nat) (y : Int) (hy : 0 ≤ y) : ltL (out [[some tu]] [[some 0]] [[some 0]] ((List.range 12).map fun k => [some (Tg tu gs k)])) (out [[some tu]] [[some 0]] [[some 0]] (dly ((List.range 12).map fun k => [some (Tg tu gs k)]) ((List.range 12).map fun k => [some (if k = n then y else 0)]))) = (List.range 12).map fun k => [some (Dg gs n y k)] := by
  have dl : (dly ((List.range 12).map fun k => [some (Tg tu gs k)]) ((List.range 12).map fun k => [some (if k = n then y else 0)])).length = 12 := by rw [dly_len (by simp)]; simp
  refine List.ext_getElem? fun k => ?_
  by_cases hk : k < 12
  · unfold ltL
    rw [List.getElem?_zipWith, out_get (by simpa using hk), out_get (by rw [dl]; exact hk), List.getElem?_map, List.getElem?_range hk]
    unfold oAt
    rw [s_on tu gs hg k hk, s_late tu gs hg n y hy k hk, ap1, ap1]
    simp [ltV, ltO]
    omega
  · rw [List.getElem?_eq_none (by unfold ltL; rw [List.length_zipWith, out_len]; simp; omega), List.getElem?_eq_none (by simp; omega)]
theorem tb1 (x : Int) (h : -99 ≤ x ∧ x ≤ 99) : TbOk [[some x]] 1 := ⟨by simp, by simp, by omega, by omega, fun r hr => by simp at hr; subst hr; rfl, fun r hr y hy => by simp at hr; subst hr; simp at hy; omega⟩
abbrev S_gaps_right (f : Fn) : Prop := S_right f
theorem Sg_bd {gs : List Int} (hg : ∀ x ∈ gs, 0 ≤ x ∧ x < 4) : ∀ k, 0 ≤ Sg gs k ∧ Sg gs k ≤ 4 * k
  | 0 => by simp [Sg]
  | k + 1 => by
    have := Sg_bd hg k
    rw [Sg_succ]
    have g0 : 0 ≤ gs.getD k 0 ∧ gs.getD k 0 < 4 := by
      rw [List.getD_eq_getElem?_getD]
      cases e : gs[k]? with
      | none => simp
      | some x => exact hg x (List.mem_of_getElem? e)
    push_cast
    omega
theorem e_l_gaps_right : S_gaps_right f_l_gaps_right := fun a b hb => by
  obtain ⟨r1, a1, b1, w1, r10, r11, hb1⟩ := e_l_draw a b 5 hb (by omega) (by omega)
  obtain ⟨tu, htu⟩ : ∃ tu, tu = 1 + r1 := ⟨_, rfl⟩
  have rg11 := rng_n 11 (by omega)
  have rg12 := rng_n 12 (by omega)
  obtain ⟨gs, a2, b2, c0, gl, gq, hb2⟩ := lc_pot (G := g48) (wf := Lz.wfuel) (elt := i_l_gaps_right_c0e) (it := .irg (.int 11)) (i := 2) (a := a1) (b := b1) (ρ0 := [some (potS a1 b1), none, none, none, none, none, none, none, none, none, none, none, none]) (fun a b s => [some (potS a b), none, s, none, none, none, none, none, none, none, none, none, none]) ((List.range 11).map fun (i : Nat) => .int i) PyData.int (fun x => 0 ≤ x ∧ x < 4) hb1 (by
      have : rngD [.int 11] = _ := rg11
      simp [sm, ownsAt, outs, argG, isAbs, arsD, arD, refs, slsOf, slOf, putBack, pubD, getD, getO, setS, wipeE, backE, partD, parG, Out.fg, borG, borE, -List.getD_eq_getElem?_getD, this]) (by rw [szE]; simp) (by simp) (fun a b x => by simp [sm, ownsAt, outs, argG, isAbs, arsD, arD, refs, slsOf, slOf, putBack, pubD, getD, getO, setS, wipeE, backE, partD, parG, Out.fg, borG, borE, -List.getD_eq_getElem?_getD]) (fun a' b' x => by simp [sm, ownsAt, outs, argG, isAbs, arsD, arD, refs, slsOf, slOf, putBack, pubD, getD, getO, setS, wipeE, backE, partD, parG, Out.fg, borG, borE, -List.getD_eq_getElem?_getD]) fun y hy a b hb => by
    obtain ⟨r, a', b', w, r0, r4, hb'⟩ := e_l_draw a b 4 hb (by omega) (by omega)
    refine ⟨r, a', b', .dat (.int r), ?_, rfl, ⟨r0, r4⟩, hb'⟩
    unfold i_l_gaps_right_c0e
    unfold potS at *
    simp [sm, ownsAt, outs, argG, isAbs, arsD, arD, refs, slsOf, slOf, putBack, pubD, getD, getO, setS, wipeE, backE, partD, parG, Out.fg, borG, borE, -List.getD_eq_getElem?_getD, q48_l_draw, w]
  have c0 : (sm g48 [0] Lz.wfuel i_l_gaps_right_c0).e _ = _ := c0
  have gl : gs.length = 11 := by simpa using gl
  -- times
  have w0 : (sm g48 [0] Lz.wfuel i_l_gaps_right_w0).s [some (potS a2 b2), none, none, none, some (.dat (.int tu)), some (.dat (.list (gs.map .int))), some (.dat (liD [[some tu]] [[some 0]] [[some 0]])), some (.own ([.int 0])), none, none, none, none, none] = some (.nx ([some (potS a2 b2), none, none, none, some (.dat (.int tu)), some (.dat (.list (gs.map .int))), some (.dat (liD [[some tu]] [[some 0]] [[some 0]])), some (.own ((List.range 12).map fun k => PyData.int (Tg tu gs k))), none, none, none, none, none])) := by
    unfold i_l_gaps_right_w0
    refine for_ev (ρ1 := [some (potS a2 b2), none, none, none, some (.dat (.int tu)), some (.dat (.list (gs.map .int))), some (.dat (liD [[some tu]] [[some 0]] [[some 0]])), some (.own ([.int 0])), none, none, none, none, none]) (xs := gs.map .int) (by simp [sm, ownsAt, outs, argG, isAbs, arsD, arD, refs, slsOf, slOf, putBack, pubD, getD, getO, setS, wipeE, backE, partD, parG, Out.fg, borG, borE, -List.getD_eq_getElem?_getD]) ?_
    obtain ⟨ρ', h1, j, hj, hr, rfl⟩ := forG_inv (t := (sm g48 [0] Lz.wfuel (.tnm 1)).t) (b := (sm g48 [0] Lz.wfuel i_l_gaps_right_w0b).s) (fun r ρ => ∃ j, j ≤ 11 ∧ r = (gs.drop j).map PyData.int ∧ ρ = [some (potS a2 b2), none, none, none, some (.dat (.int tu)), some (.dat (.list (gs.map .int))), some (.dat (liD [[some tu]] [[some 0]] [[some 0]])), some (.own ((List.range (j + 1)).map fun k => PyData.int (Tg tu gs k))), none, none, none, none, none]) (gs.map .int) ([some (potS a2 b2), none, none, none, some (.dat (.int tu)), some (.dat (.list (gs.map .int))), some (.dat (liD [[some tu]] [[some 0]] [[some 0]])), some (.own ([.int 0])), none, none, none, none, none]) ⟨0, by omega, by simp, by simp [Tg, Sg, List.range_succ]⟩ fun x r ρ ⟨j, hj, hr, e⟩ => by
      subst e
      have hjl : j < gs.length := by
        by_cases q : j < gs.length
        · exact q
        · rw [List.drop_eq_nil_of_le (by omega)] at hr; cases hr
      rw [List.drop_eq_getElem_cons hjl, List.map_cons] at hr
      injection hr with hx hr
      subst hx
      have ts := Tg_succ tu gs j
      rw [List.getD_eq_getElem?_getD, List.getElem?_eq_getElem hjl] at ts
      have ts : Tg tu gs (j + 1) = Tg tu gs j + tu + gs[j] := ts
      have la : atI ((List.range (j + 1)).map fun k => PyData.int (Tg tu gs k)) (-1) = some (.int (Tg tu gs j)) := at_last (fun k => PyData.int (Tg tu gs k)) (by rw [List.range_succ]; simp)
      have sc : (List.range (j + 1 + 1)).map (fun k => PyData.int (Tg tu gs k)) = (List.range (j + 1)).map (fun k => PyData.int (Tg tu gs k)) ++ [.int (Tg tu gs (j + 1))] := by rw [List.range_succ (n := j + 1), List.map_append]; rfl
      have hz : ((List.range (j + 1)).map fun k => PyData.int (Tg tu gs k)).length < 16777216 := by simp; omega
      refine ⟨[some (potS a2 b2), some (.dat (.int gs[j])), none, none, some (.dat (.int tu)), some (.dat (.list (gs.map .int))), some (.dat (liD [[some tu]] [[some 0]] [[some 0]])), some (.own ((List.range (j + 1)).map fun k => PyData.int (Tg tu gs k))), none, none, none, none, none], [some (potS a2 b2), none, none, none, some (.dat (.int tu)), some (.dat (.list (gs.map .int))), some (.dat (liD [[some tu]] [[some 0]] [[some 0]])), some (.own ((List.range (j + 1 + 1)).map fun k => PyData.int (Tg tu gs k))), none, none, none, none, none], by simp [sm, ownsAt, outs, argG, isAbs, arsD, arD, refs, slsOf, slOf, putBack, pubD, getD, getO, setS, wipeE, backE, partD, parG, Out.fg, borG, borE, -List.getD_eq_getElem?_getD, potS], .inl ?_, j + 1, by omega, hr, rfl⟩
      rw [sc]
      generalize (List.range (j + 1)).map (fun k => PyData.int (Tg tu gs k)) = L at *
      generalize liD [[some tu]] [[some 0]] [[some 0]] = D at *
      generalize gs[j] = gj at *
      unfold i_l_gaps_right_w0b
      unfold potS at *
      simp [sm, ownsAt, outs, argG, isAbs, arsD, arD, refs, slsOf, slOf, putBack, pubD, getD, getO, setS, wipeE, backE, partD, parG, Out.fg, borG, borE, -List.getD_eq_getElem?_getD, szE, la, hz, ts]
    have : j = 11 := by
      have := congrArg List.length hr
      simp at this
      omega
    subst this
    exact h1
  obtain ⟨s1, a3, b3, d1, s10, s11, hb3⟩ := e_l_draw a2 b2 12 hb2 (by omega) (by omega)
  obtain ⟨y, a4, b4, d2, y0, y11, hb4⟩ := e_l_draw a3 b3 12 hb3 (by omega) (by omega)
  obtain ⟨n, rfl⟩ : ∃ n : Nat, s1 = n := ⟨s1.toNat, by omega⟩
  have hn : n < 12 := by omega
  have rep : binD .Mult (.list [.tuple [.int 0]]) (.int n) = some (.frs ((List.range n).map fun k => polD [some (Dg gs n y k)])) := by
    rw [bin_repL (by omega) (by omega) (by simp)]
    congr 2
    rw [show ((n : Int)).toNat = n by omega, flat_one]
    refine List.ext_getElem? fun k => ?_
    rw [List.getElem?_replicate, List.getElem?_map]
    by_cases hk : k < n
    · rw [if_pos hk, List.getElem?_range hk]
      simp [Dg, hk, polD, optD]
    · rw [if_neg hk, List.getElem?_eq_none (by simpa using hk)]; rfl
  -- due
  have w2 : ∀ TS : Option Sl, (sm g48 [0] Lz.wfuel i_l_gaps_right_w1).s [some (potS a4 b4), none, none, none, some (.dat (.int tu)), some (.dat (.list (gs.map .int))), some (.dat (liD [[some tu]] [[some 0]] [[some 0]])), TS, some (.dat (.int n)), some (.dat (.int y)), some (.dat (.list ((List.range n).map fun k => polD [some (Dg gs n y k)]))), some (.dat (.int y)), none] = some (.nx ([some (potS a4 b4), none, none, none, some (.dat (.int tu)), some (.dat (.list (gs.map .int))), some (.dat (liD [[some tu]] [[some 0]] [[some 0]])), TS, some (.dat (.int n)), some (.dat (.int y)), some (.dat (.list ((List.range 12).map fun k => polD [some (Dg gs n y k)]))), some (.dat (.int (Lf gs n y 12))), none])) := fun TS => by
    unfold i_l_gaps_right_w1
    have rg : rngD [.int (n : Int), .int 12] = some ((List.range (12 - n)).map fun (i : Nat) => .int ((n : Int) + i)) := by
      show (if _ then _ else _) = _
      rw [if_pos ⟨by omega, by omega⟩, show ((12 : Int) - n).toNat = 12 - n by omega]
    refine for_ev (ρ1 := [some (potS a4 b4), none, none, none, some (.dat (.int tu)), some (.dat (.list (gs.map .int))), some (.dat (liD [[some tu]] [[some 0]] [[some 0]])), TS, some (.dat (.int n)), some (.dat (.int y)), some (.dat (.list ((List.range n).map fun k => polD [some (Dg gs n y k)]))), some (.dat (.int y)), none]) (xs := (List.range (12 - n)).map fun (i : Nat) => .int ((n : Int) + i)) (by simp [sm, ownsAt, outs, argG, isAbs, arsD, arD, refs, slsOf, slOf, putBack, pubD, getD, getO, setS, wipeE, backE, partD, parG, Out.fg, borG, borE, -List.getD_eq_getElem?_getD, rg]) ?_
    obtain ⟨ρ', h1, j, hj, hr, rfl⟩ := forG_inv (t := (sm g48 [0] Lz.wfuel (.tnm 2)).t) (b := (sm g48 [0] Lz.wfuel i_l_gaps_right_w1b).s) (fun r ρ => ∃ j, j ≤ 12 - n ∧ r = ((List.range (12 - n)).drop j).map (fun (i : Nat) => PyData.int ((n : Int) + i)) ∧ ρ = [some (potS a4 b4), none, none, none, some (.dat (.int tu)), some (.dat (.list (gs.map .int))), some (.dat (liD [[some tu]] [[some 0]] [[some 0]])), TS, some (.dat (.int n)), some (.dat (.int y)), some (.dat (.list ((List.range (n + j)).map fun k => polD [some (Dg gs n y k)]))), some (.dat (.int (Lf gs n y (n + j)))), none]) ((List.range (12 - n)).map fun (i : Nat) => PyData.int ((n : Int) + i)) ([some (potS a4 b4), none, none, none, some (.dat (.int tu)), some (.dat (.list (gs.map .int))), some (.dat (liD [[some tu]] [[some 0]] [[some 0]])), TS, some (.dat (.int n)), some (.dat (.int y)), some (.dat (.list ((List.range n).map fun k => polD [some (Dg gs n y k)]))), some (.dat (.int y)), none]) ⟨0, by omega, by simp, by simp [Lf]⟩ fun x r ρ ⟨j, hj, hr, e⟩ => by
      subst e
      have hjl : j < 12 - n := by
        by_cases q : j < 12 - n
        · exact q
        · rw [List.drop_eq_nil_of_le (by simp; omega)] at hr; cases hr
      rw [List.drop_eq_getElem_cons (by simpa using hjl), List.map_cons, List.getElem_range] at hr
      injection hr with hx hr
      subst hx
      have dg : Dg gs n y (n + j) = if Lf gs n y (n + j) > 0 then Lf gs n y (n + j) else 0 := by unfold Dg; rw [if_neg (by omega)]
      have lf : Lf gs n y (n + j + 1) = Lf gs n y (n + j) - gs.getD (n + j) 0 := by
        have := Sg_succ gs (n + j)
        unfold Lf
        omega
      have sc : (List.range (n + (j + 1))).map (fun k => polD [some (Dg gs n y k)]) = (List.range (n + j)).map (fun k => polD [some (Dg gs n y k)]) ++ [polD [some (Dg gs n y (n + j))]] := by rw [← Nat.add_assoc, List.range_succ, List.map_append]; rfl
      have cat := bin_cat (xs := (List.range (n + j)).map (fun k => polD [some (Dg gs n y k)])) (ys := [polD [some (Dg gs n y (n + j))]]) (by rw [szE]; simp; omega)
      have pd : polD [some (Dg gs n y (n + j))] = .tuple [.int (if Lf gs n y (n + j) > 0 then Lf gs n y (n + j) else 0)] := by rw [dg]; rfl
      refine ⟨[some (potS a4 b4), none, some (.dat (.int ((n : Int) + j))), none, some (.dat (.int tu)), some (.dat (.list (gs.map .int))), some (.dat (liD [[some tu]] [[some 0]] [[some 0]])), TS, some (.dat (.int n)), some (.dat (.int y)), some (.dat (.list ((List.range (n + j)).map fun k => polD [some (Dg gs n y k)]))), some (.dat (.int (Lf gs n y (n + j)))), none], [some (potS a4 b4), none, none, none, some (.dat (.int tu)), some (.dat (.list (gs.map .int))), some (.dat (liD [[some tu]] [[some 0]] [[some 0]])), TS, some (.dat (.int n)), some (.dat (.int y)), some (.dat (.list ((List.range (n + (j + 1))).map fun k => polD [some (Dg gs n y k)]))), some (.dat (.int (Lf gs n y (n + (j + 1))))), none], by simp [sm, ownsAt, outs, argG, isAbs, arsD, arD, refs, slsOf, slOf, putBack, pubD, getD, getO, setS, wipeE, backE, partD, parG, Out.fg, borG, borE, -List.getD_eq_getElem?_getD, potS], .inl ?_, j + 1, by omega, hr, rfl⟩
      rw [sc, ← Nat.add_assoc, lf]
      rw [pd] at cat ⊢
      generalize (List.range (n + j)).map (fun k => polD [some (Dg gs n y k)]) = L at *
      generalize liD [[some tu]] [[some 0]] [[some 0]] = D at *
      by_cases h11 : n + j < 11
      · have gx : atI (gs.map PyData.int) ((n : Int) + j) = some (.int (gs.getD (n + j) 0)) := by
          rw [show ((n : Int) + j) = ((n + j : Nat) : Int) by push_cast; rfl]
          refine at_nat ?_
          rw [List.getElem?_map, List.getD_eq_getElem?_getD, List.getElem?_eq_getElem (by omega)]; rfl
        have i11 : (n : Int) + j < 11 := by omega
        generalize gs.getD (n + j) 0 = gj at *
        generalize gs.map PyData.int = GS at *
        unfold i_l_gaps_right_w1b
        unfold potS at *
        simp [sm, ownsAt, outs, argG, isAbs, arsD, arD, refs, slsOf, slOf, putBack, pubD, getD, getO, setS, wipeE, backE, partD, parG, Out.fg, borG, borE, -List.getD_eq_getElem?_getD, szE, cat, i11, gx]
      · have g0 : gs.getD (n + j) 0 = 0 := by rw [List.getD_eq_getElem?_getD, List.getElem?_eq_none (by omega)]; rfl
        have i11 : ¬ (n : Int) + j < 11 := by omega
        rw [g0]
        generalize gs.map PyData.int = GS at *
        unfold i_l_gaps_right_w1b
        unfold potS at *
        simp [sm, ownsAt, outs, argG, isAbs, arsD, arD, refs, slsOf, slOf, putBack, pubD, getD, getO, setS, wipeE, backE, partD, parG, Out.fg, borG, borE, -List.getD_eq_getElem?_getD, szE, cat, i11]
    have : j = 12 - n := by
      have := congrArg List.length hr
      simp at this
      omega
    subst this
    rw [show n + (12 - n) = 12 by omega] at h1
    exact h1
  -- delays, inputs
  have c1 : ∀ (TS : Option Sl) (du : PyData) (l : Int), (sm g48 [0] Lz.wfuel i_l_gaps_right_c1).e [some (potS a4 b4), none, none, none, some (.dat (.int tu)), some (.dat (.list (gs.map .int))), some (.dat (liD [[some tu]] [[some 0]] [[some 0]])), TS, some (.dat (.int n)), some (.dat (.int y)), some (.dat (du)), some (.dat (.int l)), none] = some (.frs (((List.range 12).map fun k => [some (if k = n then y else 0)]).map polD), [some (potS a4 b4), none, none, none, some (.dat (.int tu)), some (.dat (.list (gs.map .int))), some (.dat (liD [[some tu]] [[some 0]] [[some 0]])), TS, some (.dat (.int n)), some (.dat (.int y)), some (.dat (du)), some (.dat (.int l)), none]) := fun TS du l => by
    rw [List.map_map]
    unfold i_l_gaps_right_c1
    have rg12 : rngD [.int 12] = _ := rg12
    refine lc_all (fun (i : Nat) => PyData.int i) _ (List.range 12) (by simp [sm, ownsAt, outs, argG, isAbs, arsD, arD, refs, slsOf, slOf, putBack, pubD, getD, getO, setS, wipeE, backE, partD, parG, Out.fg, borG, borE, -List.getD_eq_getElem?_getD, rg12]) (by simp) (by rw [szE, List.length_range]; omega) fun k hk => ⟨[some (potS a4 b4), none, some (.dat (.int k)), none, some (.dat (.int tu)), some (.dat (.list (gs.map .int))), some (.dat (liD [[some tu]] [[some 0]] [[some 0]])), TS, some (.dat (.int n)), some (.dat (.int y)), some (.dat (du)), some (.dat (.int l)), none], by simp [sm, ownsAt, outs, argG, isAbs, arsD, arD, refs, slsOf, slOf, putBack, pubD, getD, getO, setS, wipeE, backE, partD, parG, Out.fg, borG, borE, -List.getD_eq_getElem?_getD], ?_, by simp [sm, ownsAt, outs, argG, isAbs, arsD, arD, refs, slsOf, slOf, putBack, pubD, getD, getO, setS, wipeE, backE, partD, parG, Out.fg, borG, borE, -List.getD_eq_getElem?_getD]⟩
    unfold i_l_gaps_right_c1e
    by_cases hc : k = n
    · subst hc
      simp [sm, ownsAt, outs, argG, isAbs, arsD, arD, refs, slsOf, slOf, putBack, pubD, getD, getO, setS, wipeE, backE, partD, parG, Out.fg, borG, borE, -List.getD_eq_getElem?_getD, szE, polD, optD]
    · have : ¬ (k : Int) = n := by omega
      simp [sm, ownsAt, outs, argG, isAbs, arsD, arD, refs, slsOf, slOf, putBack, pubD, getD, getO, setS, wipeE, backE, partD, parG, Out.fg, borG, borE, -List.getD_eq_getElem?_getD, szE, hc, this, polD, optD]
  have c2 : ∀ (ds : Option Sl) (du : PyData) (l : Int), (sm g48 [0] Lz.wfuel i_l_gaps_right_c2).e [some (potS a4 b4), none, none, ds, some (.dat (.int tu)), some (.dat (.list (gs.map .int))), some (.dat (liD [[some tu]] [[some 0]] [[some 0]])), some (.own ((List.range 12).map (fun k => PyData.int (Tg tu gs k)))), some (.dat (.int n)), some (.dat (.int y)), some (.dat (du)), some (.dat (.int l)), none] = some (.frs (((List.range 12).map fun k => [some (Tg tu gs k)]).map polD), [some (potS a4 b4), none, none, ds, some (.dat (.int tu)), some (.dat (.list (gs.map .int))), some (.dat (liD [[some tu]] [[some 0]] [[some 0]])), some (.dat (.list ((List.range 12).map (fun k => PyData.int (Tg tu gs k))))), some (.dat (.int n)), some (.dat (.int y)), some (.dat (du)), some (.dat (.int l)), none]) := fun ds du l => by
    rw [List.map_map]
    unfold i_l_gaps_right_c2
    refine lc_all1 (ρ1 := [some (potS a4 b4), none, none, ds, some (.dat (.int tu)), some (.dat (.list (gs.map .int))), some (.dat (liD [[some tu]] [[some 0]] [[some 0]])), some (.dat (.list ((List.range 12).map (fun k => PyData.int (Tg tu gs k))))), some (.dat (.int n)), some (.dat (.int y)), some (.dat (du)), some (.dat (.int l)), none]) (fun (k : Nat) => PyData.int (Tg tu gs k)) _ (List.range 12) (by simp [sm, ownsAt, outs, argG, isAbs, arsD, arD, refs, slsOf, slOf, putBack, pubD, getD, getO, setS, wipeE, backE, partD, parG, Out.fg, borG, borE, -List.getD_eq_getElem?_getD]) (by simp) (by rw [szE, List.length_range]; omega) fun k hk => ⟨[some (potS a4 b4), none, none, ds, some (.dat (.int tu)), some (.dat (.list (gs.map .int))), some (.dat (liD [[some tu]] [[some 0]] [[some 0]])), some (.dat (.list ((List.range 12).map (fun k => PyData.int (Tg tu gs k))))), some (.dat (.int n)), some (.dat (.int y)), some (.dat (du)), some (.dat (.int l)), some (.dat (.int (Tg tu gs k)))], by simp [sm, ownsAt, outs, argG, isAbs, arsD, arD, refs, slsOf, slOf, putBack, pubD, getD, getO, setS, wipeE, backE, partD, parG, Out.fg, borG, borE, -List.getD_eq_getElem?_getD], ?_, by simp [sm, ownsAt, outs, argG, isAbs, arsD, arD, refs, slsOf, slOf, putBack, pubD, getD, getO, setS, wipeE, backE, partD, parG, Out.fg, borG, borE, -List.getD_eq_getElem?_getD]⟩
    unfold i_l_gaps_right_c2e
    generalize (List.range 12).map (fun k => PyData.int (Tg tu gs k)) = L at *
    simp [sm, ownsAt, outs, argG, isAbs, arsD, arD, refs, slsOf, slOf, putBack, pubD, getD, getO, setS, wipeE, backE, partD, parG, Out.fg, borG, borE, -List.getD_eq_getElem?_getD, szE, polD, optD]
  have hg0 : ∀ x ∈ gs, 0 ≤ x := fun x hx => (gq x hx).1
  have hli : LiOk [[some tu]] [[some 0]] [[some 0]] 1 := ⟨tb1 tu (by omega), tb1 0 (by omega), tb1 0 (by omega), rfl⟩
  have hin : InOk ((List.range 12).map fun k => [some (Tg tu gs k)]) 1 := ⟨by simp, by simp, fun v hv => by
    obtain ⟨k, hk, rfl⟩ := List.mem_map.mp hv
    have hk := List.mem_range.mp hk
    have := Sg_bd gq k
    have m1 : 0 ≤ (k : Int) * tu := Int.mul_nonneg (by omega) (by omega)
    have m2 : (k : Int) * tu ≤ 12 * 5 := Int.mul_le_mul (by omega) (by omega) (by omega) (by omega)
    refine ⟨rfl, fun x hx => ?_⟩
    simp at hx
    unfold Tg at hx
    omega⟩
  have hdel : DelOk ((List.range 12).map fun k => [some (if k = n then y else 0)]) ((List.range 12).map fun k => [some (Tg tu gs k)]) 1 := ⟨by simp, fun d hd => by
    obtain ⟨k, hk, rfl⟩ := List.mem_map.mp hd
    refine ⟨rfl, fun o ho => ?_⟩
    simp at ho
    exact ⟨_, ho, by split <;> omega, by split <;> omega⟩⟩
  have wl := e_late_outputs _ _ _ 1 false _ _ hli hin hdel
  rw [lt_gaps tu gs hg0 n y y0] at wl
  have wl : f_late_outputs [.dat (liD [[some tu]] [[some 0]] [[some 0]]), .dat (.list (((List.range 12).map fun k => [some (Tg tu gs k)]).map polD)), .dat (.list (((List.range 12).map fun k => [some (if k = n then y else 0)]).map polD))] = some (.frs (((List.range 12).map fun k => [some (Dg gs n y k)]).map polD), [.dat (liD [[some tu]] [[some 0]] [[some 0]]), .dat (.list (((List.range 12).map fun k => [some (Tg tu gs k)]).map polD)), .dat (.list (((List.range 12).map fun k => [some (if k = n then y else 0)]).map polD))]) := wl
  have ee := cmp_eqE (EqE.list EqE.polD) (k := 2) (fun a => Sh.list (Sh.map _ Sh.polD a)) (by omega) ((List.range 12).map fun k => [some (Dg gs n y k)]) ((List.range 12).map fun k => [some (Dg gs n y k)])
  rw [decide_eq_true rfl] at ee
  rw [show (List.range 12).map (fun k => polD [some (Dg gs n y k)]) = ((List.range 12).map fun k => [some (Dg gs n y k)]).map polD from (List.map_map ..).symm] at w2
  have c1 := c1 (some (.own ((List.range 12).map fun k => PyData.int (Tg tu gs k)))) (.list (((List.range 12).map fun k => [some (Dg gs n y k)]).map polD)) (Lf gs n y 12)
  have c2 := c2 (some (.dat (.list (((List.range 12).map fun k => [some (if k = n then y else 0)]).map polD)))) (.list (((List.range 12).map fun k => [some (Dg gs n y k)]).map polD)) (Lf gs n y 12)
  have w2 := w2 (some (.own ((List.range 12).map fun k => PyData.int (Tg tu gs k))))
  have un : liD [[some tu]] [[some 0]] [[some 0]] = .tuple [.str (Str.ofString "line"), .tuple [.tuple [.int tu]], .tuple [.tuple [.int 0]], .tuple [.tuple [.int 0]]] := rfl
  refine ⟨a4, b4, ?_⟩
  unfold f_l_gaps_right fnS i_l_gaps_right
  generalize ((List.range 12).map fun k => [some (Dg gs n y k)]).map polD = DU at *
  generalize ((List.range 12).map fun k => [some (Tg tu gs k)]).map polD = IN at *
  generalize ((List.range 12).map fun k => [some (if k = n then y else 0)]).map polD = DE at *
  generalize (List.range n).map (fun k => polD [some (Dg gs n y k)]) = DN at *
  generalize (List.range 12).map (fun k => PyData.int (Tg tu gs k)) = TT at *
  generalize hD : liD [[some tu]] [[some 0]] [[some 0]] = D at *
  generalize gs.map PyData.int = GS at *
  unfold potS at *
  simp [sm, ownsAt, outs, argG, isAbs, arsD, arD, refs, slsOf, slOf, putBack, pubD, getD, getO, setS, wipeE, backE, partD, parG, Out.fg, borG, borE, -List.getD_eq_getElem?_getD, szE, q48_l_draw, w1, ← htu, c0, ← un, w0, d1, d2, rep, w2, c1, c2, q48_late_outputs, wl, ee, outs]
/-! ### the law -/
theorem law_ok : ∀ ns : List Int, ns.length ≤ 63 → f_law [.dat (.list (ns.map PyData.int))] = some (.dat (.bool true), [.dat (.list (ns.map PyData.int))]) := fun ns hl => by
  obtain ⟨p0, p1, wp, hp⟩ := e_l_pot ns 2 (by omega)
  obtain ⟨a', b', wg⟩ := e_l_gaps_right p0 p1 hp
  have wp : f_l_pot [.dat (.list (ns.map .int)), .dat (.int 2)] = some (.frs [.int p0, .int p1], [.dat (.list (ns.map .int)), .dat (.int 2)]) := wp
  have w0 : ∀ n : Nat, n ≤ 2 → forG (sm g49 [] Lz.wfuel (.tnm 1)).t (sm g49 [] Lz.wfuel i_law_w0b).s ((List.range n).map fun (i : Nat) => PyData.int i) [some (.dat (.list (ns.map .int))), none] = some (.nx ([some (.dat (.list (ns.map .int))), none])) := fun n hn => by
    refine for_same _ fun x hx => ?_
    obtain ⟨i, hi, rfl⟩ := List.mem_map.mp hx
    have hi := List.mem_range.mp hi
    obtain ⟨q0, q1, wq, hq⟩ := e_l_pot ns i (by omega)
    obtain ⟨a2, b2, wr⟩ := e_l_right q0 q1 hq
    refine ⟨[some (.dat (.list (ns.map .int))), some (.dat (.int i))], by simp [sm, ownsAt, outs, argG, isAbs, arsD, arD, refs, slsOf, slOf, putBack, pubD, getD, getO, setS, wipeE, backE, partD, parG, Out.fg, borG, borE, -List.getD_eq_getElem?_getD], ?_⟩
    generalize ns.map PyData.int = N at *
    unfold i_law_w0b
    unfold potS at *
    simp [sm, ownsAt, outs, argG, isAbs, arsD, arD, refs, slsOf, slOf, putBack, pubD, getD, getO, setS, wipeE, backE, partD, parG, Out.fg, borG, borE, -List.getD_eq_getElem?_getD, q49_l_pot, wq, q49_l_right, wr]
  have rg1 := rng_n 1 (by omega)
  have rg2 := rng_n 2 (by omega)
  have rg1 : rngD [.int 1] = _ := rg1
  have rg2 : rngD [.int 2] = _ := rg2
  have w1 : (sm g49 [] Lz.wfuel i_law_w0).s [some (.dat (.list (ns.map .int))), none] = some (.nx ([some (.dat (.list (ns.map .int))), none])) := by
    unfold i_law_w0
    have lenN : (ns.map PyData.int).length = ns.length := List.length_map _
    by_cases h2 : ns.length < 2
    · refine for_ev (ρ1 := [some (.dat (.list (ns.map .int))), none]) (xs := (List.range 1).map fun (i : Nat) => PyData.int i) ?_ (w0 1 (by omega))
      have i1 : ¬ (ns.length : Int) > 1 := by omega
      have i2 : (ns.length : Int) < 2 := by omega
      generalize hN : ns.map PyData.int = N at *
      simp [sm, ownsAt, outs, argG, isAbs, arsD, arD, refs, slsOf, slOf, putBack, pubD, getD, getO, setS, wipeE, backE, partD, parG, Out.fg, borG, borE, -List.getD_eq_getElem?_getD, lenN, i1, i2, rg1]
    · refine for_ev (ρ1 := [some (.dat (.list (ns.map .int))), none]) (xs := (List.range 2).map fun (i : Nat) => PyData.int i) ?_ (w0 2 (by omega))
      have i2 : ¬ (ns.length : Int) < 2 := by omega
      generalize hN : ns.map PyData.int = N at *
      simp [sm, ownsAt, outs, argG, isAbs, arsD, arD, refs, slsOf, slOf, putBack, pubD, getD, getO, setS, wipeE, backE, partD, parG, Out.fg, borG, borE, -List.getD_eq_getElem?_getD, lenN, i2, rg2]
  unfold f_law fnS i_law
  generalize ns.map PyData.int = N at *
  unfold potS at *
  simp [sm, ownsAt, outs, argG, isAbs, arsD, arD, refs, slsOf, slOf, putBack, pubD, getD, getO, setS, wipeE, backE, partD, parG, Out.fg, borG, borE, -List.getD_eq_getElem?_getD, w1, q49_l_pot, wp, q49_l_gaps_right, wg, outs]
end k94

namespace k94
open PySem PySem.Spec PyProof.Rows L2 Dx
theorem all_mk {l : PySem.W.OpenLaw} {w : World} {K : PySem.W.Frag} {h : Heap} {mg : Str → Option Value} {fa f0 f1 f2 f3 f4 f5 f6 f7 f8 f9 f10 f11 f12 f13 f14 f15 f16 f17 f18 f19 f20 f21 f22 f23 f24 f25 f26 f27 f28 f29 f30 f31 f32 f33 f34 f35 f36 f37 f38 f39 f40 f41 f42 f43 f44 f45 f46 f47 f48 f49 : Addr} (X : K.In h) (G : h.Ns mainGlobals mg) (hfa : mg "law" = some (.ref fa))
    {od0 od1 od2 od3 od4 od5 od6 od7 od8 od9 od10 od11 od12 od13 od14 od15 od16 od17 od18 od19 od20 od21 od22 od23 od24 od25 od26 od27 od28 od29 od30 od31 od32 od33 od34 od35 od36 od37 od38 od39 od40 od41 od42 od43 od44 od45 od46 od47 od48 od49 an0 an1 an2 an3 an4 an5 an6 an7 an8 an9 an10 an11 an12 an13 an14 an15 an16 an17 an18 an19 an20 an21 an22 an23 an24 an25 an26 an27 an28 an29 an30 an31 an32 an33 an34 an35 an36 an37 an38 an39 an40 an41 an42 an43 an44 an45 an46 an47 an48 an49 : Option Addr} {sl0 sl1 sl2 sl3 sl4 sl5 sl6 sl7 sl8 sl9 sl10 sl11 sl12 sl13 sl14 sl15 sl16 sl17 sl18 sl19 sl20 sl21 sl22 sl23 sl24 sl25 sl26 sl27 sl28 sl29 sl30 sl31 sl32 sl33 sl34 sl35 sl36 sl37 sl38 sl39 sl40 sl41 sl42 sl43 sl44 sl45 sl46 sl47 sl48 sl49 : Array (Option Value)} {oc0 oc1 oc2 oc3 oc4 oc5 oc6 oc7 oc8 oc9 oc10 oc11 oc12 oc13 oc14 oc15 oc16 oc17 oc18 oc19 oc20 oc21 oc22 oc23 oc24 oc25 oc26 oc27 oc28 oc29 oc30 oc31 oc32 oc33 oc34 oc35 oc36 oc37 oc38 oc39 oc40 oc41 oc42 oc43 oc44 oc45 oc46 oc47 oc48 oc49 kV0 kV1 kV2 kV3 kV4 kV5 kV6 kV7 kV8 kV9 kV10 kV11 kV12 kV13 kV14 kV15 kV16 kV17 kV18 kV19 kV20 kV21 kV22 kV23 kV24 kV25 kV26 kV27 kV28 kV29 kV30 kV31 kV32 kV33 kV34 kV35 kV36 kV37 kV38 kV39 kV40 kV41 kV42 kV43 kV44 kV45 kV46 kV47 kV48 kV49 dc0 dc1 dc2 dc3 dc4 dc5 dc6 dc7 dc8 dc9 dc10 dc11 dc12 dc13 dc14 dc15 dc16 dc17 dc18 dc19 dc20 dc21 dc22 dc23 dc24 dc25 dc26 dc27 dc28 dc29 dc30 dc31 dc32 dc33 dc34 dc35 dc36 dc37 dc38 dc39 dc40 dc41 dc42 dc43 dc44 dc45 dc46 dc47 dc48 dc49 pm0 pm1 pm2 pm3 pm4 pm5 pm6 pm7 pm8 pm9 pm10 pm11 pm12 pm13 pm14 pm15 pm16 pm17 pm18 pm19 pm20 pm21 pm22 pm23 pm24 pm25 pm26 pm27 pm28 pm29 pm30 pm31 pm32 pm33 pm34 pm35 pm36 pm37 pm38 pm39 pm40 pm41 pm42 pm43 pm44 pm45 pm46 pm47 pm48 pm49 cd0 cd1 cd2 cd3 cd4 cd5 cd6 cd7 cd8 cd9 cd10 cd11 cd12 cd13 cd14 cd15 cd16 cd17 cd18 cd19 cd20 cd21 cd22 cd23 cd24 cd25 cd26 cd27 cd28 cd29 cd30 cd31 cd32 cd33 cd34 cd35 cd36 cd37 cd38 cd39 cd40 cd41 cd42 cd43 cd44 cd45 cd46 cd47 cd48 cd49 ct0 ct1 ct2 ct3 ct4 ct5 ct6 ct7 ct8 ct9 ct10 ct11 ct12 ct13 ct14 ct15 ct16 ct17 ct18 ct19 ct20 ct21 ct22 ct23 ct24 ct25 ct26 ct27 ct28 ct29 ct30 ct31 ct32 ct33 ct34 ct35 ct36 ct37 ct38 ct39 ct40 ct41 ct42 ct43 ct44 ct45 ct46 ct47 ct48 ct49 : Value} {tk0 tk1 tk2 tk3 tk4 : Tok}
    (a0 : PySem.W.nsIn K mainGlobals "is_integer" = some (some (.ref f0))) (l0 : K.lookup f0 = some ⟨oc0, od0, .func (PySem.W.fnOf "is_integer" "is_integer" (defArgs (tp 1)) (defBody (tp 1)) (defScope (tp 1)) .none kV0 dc0 pm0 an0 cd0 ct0), sl0⟩) (c0 : PySem.W.codeIn K cd0 "is_integer" = true) (k0 : PySem.W.keepIn K (.ref f0) = true)
    (a1 : PySem.W.nsIn K mainGlobals "is_within" = some (some (.ref f1))) (l1 : K.lookup f1 = some ⟨oc1, od1, .func (PySem.W.fnOf "is_within" "is_within" (defArgs (tp 2)) (defBody (tp 2)) (defScope (tp 2)) .none kV1 dc1 pm1 an1 cd1 ct1), sl1⟩) (c1 : PySem.W.codeIn K cd1 "is_within" = true) (k1 : PySem.W.keepIn K (.ref f1) = true)
    (a2 : PySem.W.nsIn K mainGlobals "is_list" = some (some (.ref f2))) (l2 : K.lookup f2 = some ⟨oc2, od2, .func (PySem.W.fnOf "is_list" "is_list" (defArgs (tp 3)) (defBody (tp 3)) (defScope (tp 3)) .none kV2 dc2 pm2 an2 cd2 ct2), sl2⟩) (c2 : PySem.W.codeIn K cd2 "is_list" = true) (k2 : PySem.W.keepIn K (.ref f2) = true)
    (a3 : PySem.W.nsIn K mainGlobals "is_tuple" = some (some (.ref f3))) (l3 : K.lookup f3 = some ⟨oc3, od3, .func (PySem.W.fnOf "is_tuple" "is_tuple" (defArgs (tp 4)) (defBody (tp 4)) (defScope (tp 4)) .none kV3 dc3 pm3 an3 cd3 ct3), sl3⟩) (c3 : PySem.W.codeIn K cd3 "is_tuple" = true) (k3 : PySem.W.keepIn K (.ref f3) = true)
    (a4 : PySem.W.nsIn K mainGlobals "latest" = some (some (.ref f4))) (l4 : K.lookup f4 = some ⟨oc4, od4, .func (PySem.W.fnOf "latest" "latest" (defArgs (tp 15)) (defBody (tp 15)) (defScope (tp 15)) .none kV4 dc4 pm4 an4 cd4 ct4), sl4⟩) (c4 : PySem.W.codeIn K cd4 "latest" = true) (k4 : PySem.W.keepIn K (.ref f4) = true)
    (a5 : PySem.W.nsIn K mainGlobals "then" = some (some (.ref f5))) (l5 : K.lookup f5 = some ⟨oc5, od5, .func (PySem.W.fnOf "then" "then" (defArgs (tp 16)) (defBody (tp 16)) (defScope (tp 16)) .none kV5 dc5 pm5 an5 cd5 ct5), sl5⟩) (c5 : PySem.W.codeIn K cd5 "then" = true) (k5 : PySem.W.keepIn K (.ref f5) = true)
    (a6 : PySem.W.nsIn K mainGlobals "is_entry" = some (some (.ref f6))) (l6 : K.lookup f6 = some ⟨oc6, od6, .func (PySem.W.fnOf "is_entry" "is_entry" (defArgs (tp 19)) (defBody (tp 19)) (defScope (tp 19)) .none kV6 dc6 pm6 an6 cd6 ct6), sl6⟩) (c6 : PySem.W.codeIn K cd6 "is_entry" = true) (k6 : PySem.W.keepIn K (.ref f6) = true)
    (a7 : PySem.W.nsIn K mainGlobals "is_table_any" = some (some (.ref f7))) (l7 : K.lookup f7 = some ⟨oc7, od7, .func (PySem.W.fnOf "is_table_any" "is_table_any" (defArgs (tp 20)) (defBody (tp 20)) (defScope (tp 20)) .none kV7 dc7 pm7 an7 cd7 ct7), sl7⟩) (c7 : PySem.W.codeIn K cd7 "is_table_any" = true) (k7 : PySem.W.keepIn K (.ref f7) = true)
    (a8 : PySem.W.nsIn K mainGlobals "is_square_any" = some (some (.ref f8))) (l8 : K.lookup f8 = some ⟨oc8, od8, .func (PySem.W.fnOf "is_square_any" "is_square_any" (defArgs (tp 21)) (defBody (tp 21)) (defScope (tp 21)) .none kV8 dc8 pm8 an8 cd8 ct8), sl8⟩) (c8 : PySem.W.codeIn K cd8 "is_square_any" = true) (k8 : PySem.W.keepIn K (.ref f8) = true)
    (a9 : PySem.W.nsIn K mainGlobals "is_vector_of" = some (some (.ref f9))) (l9 : K.lookup f9 = some ⟨oc9, od9, .func (PySem.W.fnOf "is_vector_of" "is_vector_of" (defArgs (tp 22)) (defBody (tp 22)) (defScope (tp 22)) .none kV9 dc9 pm9 an9 cd9 ct9), sl9⟩) (c9 : PySem.W.codeIn K cd9 "is_vector_of" = true) (k9 : PySem.W.keepIn K (.ref f9) = true)
    (a10 : PySem.W.nsIn K mainGlobals "applied" = some (some (.ref f10))) (l10 : K.lookup f10 = some ⟨oc10, od10, .func (PySem.W.fnOf "applied" "applied" (defArgs (tp 23)) (defBody (tp 23)) (defScope (tp 23)) .none kV10 dc10 pm10 an10 cd10 ct10), sl10⟩) (c10 : PySem.W.codeIn K cd10 "applied" = true) (k10 : PySem.W.keepIn K (.ref f10) = true)
    (a11 : PySem.W.nsIn K mainGlobals "columns_of" = some (some (.ref f11))) (l11 : K.lookup f11 = some ⟨oc11, od11, .func (PySem.W.fnOf "columns_of" "columns_of" (defArgs (tp 24)) (defBody (tp 24)) (defScope (tp 24)) .none kV11 dc11 pm11 an11 cd11 ct11), sl11⟩) (c11 : PySem.W.codeIn K cd11 "columns_of" = true) (k11 : PySem.W.keepIn K (.ref f11) = true)
    (a12 : PySem.W.nsIn K mainGlobals "product" = some (some (.ref f12))) (l12 : K.lookup f12 = some ⟨oc12, od12, .func (PySem.W.fnOf "product" "product" (defArgs (tp 25)) (defBody (tp 25)) (defScope (tp 25)) .none kV12 dc12 pm12 an12 cd12 ct12), sl12⟩) (c12 : PySem.W.codeIn K cd12 "product" = true) (k12 : PySem.W.keepIn K (.ref f12) = true)
    (a13 : PySem.W.nsIn K mainGlobals "joined" = some (some (.ref f13))) (l13 : K.lookup f13 = some ⟨oc13, od13, .func (PySem.W.fnOf "joined" "joined" (defArgs (tp 26)) (defBody (tp 26)) (defScope (tp 26)) .none kV13 dc13 pm13 an13 cd13 ct13), sl13⟩) (c13 : PySem.W.codeIn K cd13 "joined" = true) (k13 : PySem.W.keepIn K (.ref f13) = true)
    (a14 : PySem.W.nsIn K mainGlobals "is_line_any" = some (some (.ref f14))) (l14 : K.lookup f14 = some ⟨oc14, od14, .func (PySem.W.fnOf "is_line_any" "is_line_any" (defArgs (tp 30)) (defBody (tp 30)) (defScope (tp 30)) .none kV14 dc14 pm14 an14 cd14 ct14), sl14⟩) (c14 : PySem.W.codeIn K cd14 "is_line_any" = true) (k14 : PySem.W.keepIn K (.ref f14) = true)
    (a15 : PySem.W.nsIn K mainGlobals "want_line" = some (some (.ref f15))) (l15 : K.lookup f15 = some ⟨oc15, od15, .func (PySem.W.fnOf "want_line" "want_line" (defArgs (tp 31)) (defBody (tp 31)) (defScope (tp 31)) .none kV15 dc15 pm15 an15 cd15 ct15), sl15⟩) (c15 : PySem.W.codeIn K cd15 "want_line" = true) (k15 : PySem.W.keepIn K (.ref f15) = true)
    (a16 : PySem.W.nsIn K mainGlobals "inputs_of" = some (some (.ref f16))) (l16 : K.lookup f16 = some ⟨oc16, od16, .func (PySem.W.fnOf "inputs_of" "inputs_of" (defArgs (tp 32)) (defBody (tp 32)) (defScope (tp 32)) .none kV16 dc16 pm16 an16 cd16 ct16), sl16⟩) (c16 : PySem.W.codeIn K cd16 "inputs_of" = true) (k16 : PySem.W.keepIn K (.ref f16) = true)
    (a17 : PySem.W.nsIn K mainGlobals "outputs_of" = some (some (.ref f17))) (l17 : K.lookup f17 = some ⟨oc17, od17, .func (PySem.W.fnOf "outputs_of" "outputs_of" (defArgs (tp 33)) (defBody (tp 33)) (defScope (tp 33)) .none kV17 dc17 pm17 an17 cd17 ct17), sl17⟩) (c17 : PySem.W.codeIn K cd17 "outputs_of" = true) (k17 : PySem.W.keepIn K (.ref f17) = true)
    (a18 : PySem.W.nsIn K mainGlobals "are_steps" = some (some (.ref f18))) (l18 : K.lookup f18 = some ⟨oc18, od18, .func (PySem.W.fnOf "are_steps" "are_steps" (defArgs (tp 34)) (defBody (tp 34)) (defScope (tp 34)) .none kV18 dc18 pm18 an18 cd18 ct18), sl18⟩) (c18 : PySem.W.codeIn K cd18 "are_steps" = true) (k18 : PySem.W.keepIn K (.ref f18) = true)
    (a19 : PySem.W.nsIn K mainGlobals "want_inputs" = some (some (.ref f19))) (l19 : K.lookup f19 = some ⟨oc19, od19, .func (PySem.W.fnOf "want_inputs" "want_inputs" (defArgs (tp 35)) (defBody (tp 35)) (defScope (tp 35)) .none kV19 dc19 pm19 an19 cd19 ct19), sl19⟩) (c19 : PySem.W.codeIn K cd19 "want_inputs" = true) (k19 : PySem.W.keepIn K (.ref f19) = true)
    (a20 : PySem.W.nsIn K mainGlobals "states_by" = some (some (.ref f20))) (l20 : K.lookup f20 = some ⟨oc20, od20, .func (PySem.W.fnOf "states_by" "states_by" (defArgs (tp 36)) (defBody (tp 36)) (defScope (tp 36)) .none kV20 dc20 pm20 an20 cd20 ct20), sl20⟩) (c20 : PySem.W.codeIn K cd20 "states_by" = true) (k20 : PySem.W.keepIn K (.ref f20) = true)
    (a21 : PySem.W.nsIn K mainGlobals "outputs_by" = some (some (.ref f21))) (l21 : K.lookup f21 = some ⟨oc21, od21, .func (PySem.W.fnOf "outputs_by" "outputs_by" (defArgs (tp 37)) (defBody (tp 37)) (defScope (tp 37)) .none kV21 dc21 pm21 an21 cd21 ct21), sl21⟩) (c21 : PySem.W.codeIn K cd21 "outputs_by" = true) (k21 : PySem.W.keepIn K (.ref f21) = true)
    (a22 : PySem.W.nsIn K mainGlobals "answers_by" = some (some (.ref f22))) (l22 : K.lookup f22 = some ⟨oc22, od22, .func (PySem.W.fnOf "answers_by" "answers_by" (defArgs (tp 38)) (defBody (tp 38)) (defScope (tp 38)) .none kV22 dc22 pm22 an22 cd22 ct22), sl22⟩) (c22 : PySem.W.codeIn K cd22 "answers_by" = true) (k22 : PySem.W.keepIn K (.ref f22) = true)
    (a23 : PySem.W.nsIn K mainGlobals "are_delays" = some (some (.ref f23))) (l23 : K.lookup f23 = some ⟨oc23, od23, .func (PySem.W.fnOf "are_delays" "are_delays" (defArgs (tp 40)) (defBody (tp 40)) (defScope (tp 40)) .none kV23 dc23 pm23 an23 cd23 ct23), sl23⟩) (c23 : PySem.W.codeIn K cd23 "are_delays" = true) (k23 : PySem.W.keepIn K (.ref f23) = true)
    (a24 : PySem.W.nsIn K mainGlobals "delayed" = some (some (.ref f24))) (l24 : K.lookup f24 = some ⟨oc24, od24, .func (PySem.W.fnOf "delayed" "delayed" (defArgs (tp 41)) (defBody (tp 41)) (defScope (tp 41)) .none kV24 dc24 pm24 an24 cd24 ct24), sl24⟩) (c24 : PySem.W.codeIn K cd24 "delayed" = true) (k24 : PySem.W.keepIn K (.ref f24) = true)
    (a25 : PySem.W.nsIn K mainGlobals "mattering_of" = some (some (.ref f25))) (l25 : K.lookup f25 = some ⟨oc25, od25, .func (PySem.W.fnOf "mattering_of" "mattering_of" (defArgs (tp 42)) (defBody (tp 42)) (defScope (tp 42)) .none kV25 dc25 pm25 an25 cd25 ct25), sl25⟩) (c25 : PySem.W.codeIn K cd25 "mattering_of" = true) (k25 : PySem.W.keepIn K (.ref f25) = true)
    (a26 : PySem.W.nsIn K mainGlobals "want_asked" = some (some (.ref f26))) (l26 : K.lookup f26 = some ⟨oc26, od26, .func (PySem.W.fnOf "want_asked" "want_asked" (defArgs (tp 43)) (defBody (tp 43)) (defScope (tp 43)) .none kV26 dc26 pm26 an26 cd26 ct26), sl26⟩) (c26 : PySem.W.codeIn K cd26 "want_asked" = true) (k26 : PySem.W.keepIn K (.ref f26) = true)
    (a27 : PySem.W.nsIn K mainGlobals "late_outputs" = some (some (.ref f27))) (l27 : K.lookup f27 = some ⟨oc27, od27, .func (PySem.W.fnOf "late_outputs" "late_outputs" (defArgs (tp 44)) (defBody (tp 44)) (defScope (tp 44)) .none kV27 dc27 pm27 an27 cd27 ct27), sl27⟩) (c27 : PySem.W.codeIn K cd27 "late_outputs" = true) (k27 : PySem.W.keepIn K (.ref f27) = true)
    (a28 : PySem.W.nsIn K mainGlobals "mattering_inputs" = some (some (.ref f28))) (l28 : K.lookup f28 = some ⟨oc28, od28, .func (PySem.W.fnOf "mattering_inputs" "mattering_inputs" (defArgs (tp 45)) (defBody (tp 45)) (defScope (tp 45)) .none kV28 dc28 pm28 an28 cd28 ct28), sl28⟩) (c28 : PySem.W.codeIn K cd28 "mattering_inputs" = true) (k28 : PySem.W.keepIn K (.ref f28) = true)
    (a29 : PySem.W.nsIn K mainGlobals "_law_pot" = some (some (.ref f29))) (l29 : K.lookup f29 = some ⟨oc29, od29, .func (PySem.W.fnOf "_law_pot" "_law_pot" (defArgs (tp 47)) (defBody (tp 47)) (defScope (tp 47)) .none kV29 dc29 pm29 an29 cd29 ct29), sl29⟩) (c29 : PySem.W.codeIn K cd29 "_law_pot" = true) (k29 : PySem.W.keepIn K (.ref f29) = true)
    (a30 : PySem.W.nsIn K mainGlobals "_law_draw" = some (some (.ref f30))) (l30 : K.lookup f30 = some ⟨oc30, od30, .func (PySem.W.fnOf "_law_draw" "_law_draw" (defArgs (tp 48)) (defBody (tp 48)) (defScope (tp 48)) .none kV30 dc30 pm30 an30 cd30 ct30), sl30⟩) (c30 : PySem.W.codeIn K cd30 "_law_draw" = true) (k30 : PySem.W.keepIn K (.ref f30) = true)
    (a31 : PySem.W.nsIn K mainGlobals "_law_pick" = some (some (.ref f31))) (l31 : K.lookup f31 = some ⟨oc31, od31, .func (PySem.W.fnOf "_law_pick" "_law_pick" (defArgs (tp 49)) (defBody (tp 49)) (defScope (tp 49)) .none kV31 dc31 pm31 an31 cd31 ct31), sl31⟩) (c31 : PySem.W.codeIn K cd31 "_law_pick" = true) (k31 : PySem.W.keepIn K (.ref f31) = true)
    (a32 : PySem.W.nsIn K mainGlobals "_law_entry" = some (some (.ref f32))) (l32 : K.lookup f32 = some ⟨oc32, od32, .func (PySem.W.fnOf "_law_entry" "_law_entry" (defArgs (tp 50)) (defBody (tp 50)) (defScope (tp 50)) .none kV32 dc32 pm32 an32 cd32 ct32), sl32⟩) (c32 : PySem.W.codeIn K cd32 "_law_entry" = true) (k32 : PySem.W.keepIn K (.ref f32) = true)
    (a33 : PySem.W.nsIn K mainGlobals "_law_table" = some (some (.ref f33))) (l33 : K.lookup f33 = some ⟨oc33, od33, .func (PySem.W.fnOf "_law_table" "_law_table" (defArgs (tp 51)) (defBody (tp 51)) (defScope (tp 51)) .none kV33 dc33 pm33 an33 cd33 ct33), sl33⟩) (c33 : PySem.W.codeIn K cd33 "_law_table" = true) (k33 : PySem.W.keepIn K (.ref f33) = true)
    (a34 : PySem.W.nsIn K mainGlobals "_law_line" = some (some (.ref f34))) (l34 : K.lookup f34 = some ⟨oc34, od34, .func (PySem.W.fnOf "_law_line" "_law_line" (defArgs (tp 52)) (defBody (tp 52)) (defScope (tp 52)) .none kV34 dc34 pm34 an34 cd34 ct34), sl34⟩) (c34 : PySem.W.codeIn K cd34 "_law_line" = true) (k34 : PySem.W.keepIn K (.ref f34) = true)
    (a35 : PySem.W.nsIn K mainGlobals "_law_vectors" = some (some (.ref f35))) (l35 : K.lookup f35 = some ⟨oc35, od35, .func (PySem.W.fnOf "_law_vectors" "_law_vectors" (defArgs (tp 53)) (defBody (tp 53)) (defScope (tp 53)) .none kV35 dc35 pm35 an35 cd35 ct35), sl35⟩) (c35 : PySem.W.codeIn K cd35 "_law_vectors" = true) (k35 : PySem.W.keepIn K (.ref f35) = true)
    (a36 : PySem.W.nsIn K mainGlobals "_law_latest" = some (some (.ref f36))) (l36 : K.lookup f36 = some ⟨oc36, od36, .func (PySem.W.fnOf "_law_latest" "_law_latest" (defArgs (tp 54)) (defBody (tp 54)) (defScope (tp 54)) .none kV36 dc36 pm36 an36 cd36 ct36), sl36⟩) (c36 : PySem.W.codeIn K cd36 "_law_latest" = true) (k36 : PySem.W.keepIn K (.ref f36) = true)
    (a37 : PySem.W.nsIn K mainGlobals "_law_plus" = some (some (.ref f37))) (l37 : K.lookup f37 = some ⟨oc37, od37, .func (PySem.W.fnOf "_law_plus" "_law_plus" (defArgs (tp 55)) (defBody (tp 55)) (defScope (tp 55)) .none kV37 dc37 pm37 an37 cd37 ct37), sl37⟩) (c37 : PySem.W.codeIn K cd37 "_law_plus" = true) (k37 : PySem.W.keepIn K (.ref f37) = true)
    (a38 : PySem.W.nsIn K mainGlobals "_law_rows" = some (some (.ref f38))) (l38 : K.lookup f38 = some ⟨oc38, od38, .func (PySem.W.fnOf "_law_rows" "_law_rows" (defArgs (tp 56)) (defBody (tp 56)) (defScope (tp 56)) .none kV38 dc38 pm38 an38 cd38 ct38), sl38⟩) (c38 : PySem.W.codeIn K cd38 "_law_rows" = true) (k38 : PySem.W.keepIn K (.ref f38) = true)
    (a39 : PySem.W.nsIn K mainGlobals "_law_states" = some (some (.ref f39))) (l39 : K.lookup f39 = some ⟨oc39, od39, .func (PySem.W.fnOf "_law_states" "_law_states" (defArgs (tp 57)) (defBody (tp 57)) (defScope (tp 57)) .none kV39 dc39 pm39 an39 cd39 ct39), sl39⟩) (c39 : PySem.W.codeIn K cd39 "_law_states" = true) (k39 : PySem.W.keepIn K (.ref f39) = true)
    (a40 : PySem.W.nsIn K mainGlobals "_law_outputs" = some (some (.ref f40))) (l40 : K.lookup f40 = some ⟨oc40, od40, .func (PySem.W.fnOf "_law_outputs" "_law_outputs" (defArgs (tp 58)) (defBody (tp 58)) (defScope (tp 58)) .none kV40 dc40 pm40 an40 cd40 ct40), sl40⟩) (c40 : PySem.W.codeIn K cd40 "_law_outputs" = true) (k40 : PySem.W.keepIn K (.ref f40) = true)
    (a41 : PySem.W.nsIn K mainGlobals "_law_even_vectors" = some (some (.ref f41))) (l41 : K.lookup f41 = some ⟨oc41, od41, .func (PySem.W.fnOf "_law_even_vectors" "_law_even_vectors" (defArgs (tp 60)) (defBody (tp 60)) (defScope (tp 60)) .none kV41 dc41 pm41 an41 cd41 ct41), sl41⟩) (c41 : PySem.W.codeIn K cd41 "_law_even_vectors" = true) (k41 : PySem.W.keepIn K (.ref f41) = true)
    (a42 : PySem.W.nsIn K mainGlobals "_law_moved" = some (some (.ref f42))) (l42 : K.lookup f42 = some ⟨oc42, od42, .func (PySem.W.fnOf "_law_moved" "_law_moved" (defArgs (tp 61)) (defBody (tp 61)) (defScope (tp 61)) .none kV42 dc42 pm42 an42 cd42 ct42), sl42⟩) (c42 : PySem.W.codeIn K cd42 "_law_moved" = true) (k42 : PySem.W.keepIn K (.ref f42) = true)
    (a43 : PySem.W.nsIn K mainGlobals "_law_matters" = some (some (.ref f43))) (l43 : K.lookup f43 = some ⟨oc43, od43, .func (PySem.W.fnOf "_law_matters" "_law_matters" (defArgs (tp 62)) (defBody (tp 62)) (defScope (tp 62)) .none kV43 dc43 pm43 an43 cd43 ct43), sl43⟩) (c43 : PySem.W.codeIn K cd43 "_law_matters" = true) (k43 : PySem.W.keepIn K (.ref f43) = true)
    (a44 : PySem.W.nsIn K mainGlobals "_law_late" = some (some (.ref f44))) (l44 : K.lookup f44 = some ⟨oc44, od44, .func (PySem.W.fnOf "_law_late" "_law_late" (defArgs (tp 63)) (defBody (tp 63)) (defScope (tp 63)) .none kV44 dc44 pm44 an44 cd44 ct44), sl44⟩) (c44 : PySem.W.codeIn K cd44 "_law_late" = true) (k44 : PySem.W.keepIn K (.ref f44) = true)
    (a45 : PySem.W.nsIn K mainGlobals "_law_delays_right" = some (some (.ref f45))) (l45 : K.lookup f45 = some ⟨oc45, od45, .func (PySem.W.fnOf "_law_delays_right" "_law_delays_right" (defArgs (tp 64)) (defBody (tp 64)) (defScope (tp 64)) .none kV45 dc45 pm45 an45 cd45 ct45), sl45⟩) (c45 : PySem.W.codeIn K cd45 "_law_delays_right" = true) (k45 : PySem.W.keepIn K (.ref f45) = true)
    (a46 : PySem.W.nsIn K mainGlobals "_law_line_right" = some (some (.ref f46))) (l46 : K.lookup f46 = some ⟨oc46, od46, .func (PySem.W.fnOf "_law_line_right" "_law_line_right" (defArgs (tp 65)) (defBody (tp 65)) (defScope (tp 65)) .none kV46 dc46 pm46 an46 cd46 ct46), sl46⟩) (c46 : PySem.W.codeIn K cd46 "_law_line_right" = true) (k46 : PySem.W.keepIn K (.ref f46) = true)
    (a47 : PySem.W.nsIn K mainGlobals "_law_right" = some (some (.ref f47))) (l47 : K.lookup f47 = some ⟨oc47, od47, .func (PySem.W.fnOf "_law_right" "_law_right" (defArgs (tp 66)) (defBody (tp 66)) (defScope (tp 66)) .none kV47 dc47 pm47 an47 cd47 ct47), sl47⟩) (c47 : PySem.W.codeIn K cd47 "_law_right" = true) (k47 : PySem.W.keepIn K (.ref f47) = true)
    (a48 : PySem.W.nsIn K mainGlobals "_law_gaps_right" = some (some (.ref f48))) (l48 : K.lookup f48 = some ⟨oc48, od48, .func (PySem.W.fnOf "_law_gaps_right" "_law_gaps_right" (defArgs (tp 67)) (defBody (tp 67)) (defScope (tp 67)) .none kV48 dc48 pm48 an48 cd48 ct48), sl48⟩) (c48 : PySem.W.codeIn K cd48 "_law_gaps_right" = true) (k48 : PySem.W.keepIn K (.ref f48) = true)
    (a49 : PySem.W.nsIn K mainGlobals "law" = some (some (.ref f49))) (l49 : K.lookup f49 = some ⟨oc49, od49, .func (PySem.W.fnOf "law" "law" (defArgs (tp 68)) (defBody (tp 68)) (defScope (tp 68)) .none kV49 dc49 pm49 an49 cd49 ct49), sl49⟩) (c49 : PySem.W.codeIn K cd49 "law" = true) (k49 : PySem.W.keepIn K (.ref f49) = true)
    (m0 : PySem.W.nsIn K mainGlobals "LINE" = some (some (.str (Str.ofString "line") tk0)))
    (m1 : PySem.W.nsIn K mainGlobals "MOST_ENTRY" = some (some (.int (99) tk1)))
    (m2 : PySem.W.nsIn K mainGlobals "MOST_SIDE" = some (some (.int (8) tk2)))
    (m3 : PySem.W.nsIn K mainGlobals "MOST_STEPS" = some (some (.int (12) tk3)))
    (m4 : PySem.W.nsIn K mainGlobals "MOST_TIME" = some (some (.int (1000000000) tk4)))
    (z0 : PySem.W.nsIn K mainGlobals "len" = some none)
    (z1 : PySem.W.nsIn K mainGlobals "abs" = some none)
    (z2 : PySem.W.nsIn K mainGlobals "int" = some none)
    (z3 : PySem.W.nsIn K mainGlobals "max" = some none)
    (z4 : PySem.W.nsIn K mainGlobals "min" = some none)
    (z5 : PySem.W.nsIn K mainGlobals "all" = some none)
    (z6 : PySem.W.nsIn K mainGlobals "any" = some none)
    (z7 : PySem.W.nsIn K mainGlobals "sum" = some none)
    (z8 : PySem.W.nsIn K mainGlobals "list" = some none)
    (z9 : PySem.W.nsIn K mainGlobals "tuple" = some none)
    (z10 : PySem.W.nsIn K mainGlobals "range" = some none)
    (z11 : PySem.W.nsIn K mainGlobals "enumerate" = some none)
    (z12 : PySem.W.nsIn K mainGlobals "zip" = some none)
    (z13 : PySem.W.nsIn K mainGlobals "isinstance" = some none)
    (z14 : PySem.W.nsIn K mainGlobals "bool" = some none)
    (z15 : PySem.W.nsIn K mainGlobals "str" = some none)
    (z16 : PySem.W.nsIn K mainGlobals "repr" = some none)
    (z17 : PySem.W.nsIn K mainGlobals "divmod" = some none)
    (z18 : PySem.W.nsIn K mainGlobals "sorted" = some none)
    (z19 : PySem.W.nsIn K mainGlobals "dict" = some none)
    : ∃ fd : FuncData, (∀ (s : Shared) (u : Value), BindsTo s fd ⟨[u], []⟩ [("script", u)]) ∧ ∀ base : Heap, K.In base → base.Ns mainGlobals mg → Ct l.prog w K mg base 50 fa fd ["script"] (spR K ⟨[false], f_law⟩) := by
  have e := hfa.symm.trans (PySem.W.mg_of X G a49)
  cases e
  refine ⟨PySem.W.fnOf "law" "law" (defArgs (tp 68)) (defBody (tp 68)) (defScope (tp 68)) .none kV49 dc49 pm49 an49 cd49 ct49, fun s u => .of_eq rfl, fun base _ _ => ?_⟩
  have T0 : Tb l.prog w K mg base g0 0 := ⟨fun f g e => (by cases e), fun x d e => ?_, ?_⟩
  · have T1 := t_is_integer T0 (fun_mk l0 c0 k0) (PySem.W.mg_of X G a0)
    have T2 := t_is_within T1 (fun_mk l1 c1 k1) (PySem.W.mg_of X G a1)
    have T3 := t_is_list T2 (fun_mk l2 c2 k2) (PySem.W.mg_of X G a2)
    have T4 := t_is_tuple T3 (fun_mk l3 c3 k3) (PySem.W.mg_of X G a3)
    have T5 := t_latest T4 (fun_mk l4 c4 k4) (PySem.W.mg_of X G a4)
    have T6 := t_then T5 (fun_mk l5 c5 k5) (PySem.W.mg_of X G a5)
    have T7 := t_is_entry T6 (fun_mk l6 c6 k6) (PySem.W.mg_of X G a6)
    have T8 := t_is_table_any T7 (fun_mk l7 c7 k7) (PySem.W.mg_of X G a7)
    have T9 := t_is_square_any T8 (fun_mk l8 c8 k8) (PySem.W.mg_of X G a8)
    have T10 := t_is_vector_of T9 (fun_mk l9 c9 k9) (PySem.W.mg_of X G a9)
    have T11 := t_applied T10 (fun_mk l10 c10 k10) (PySem.W.mg_of X G a10)
    have T12 := t_columns_of T11 (fun_mk l11 c11 k11) (PySem.W.mg_of X G a11)
    have T13 := t_product T12 (fun_mk l12 c12 k12) (PySem.W.mg_of X G a12)
    have T14 := t_joined T13 (fun_mk l13 c13 k13) (PySem.W.mg_of X G a13)
    have T15 := t_is_line_any T14 (fun_mk l14 c14 k14) (PySem.W.mg_of X G a14)
    have T16 := t_want_line T15 (fun_mk l15 c15 k15) (PySem.W.mg_of X G a15)
    have T17 := t_inputs_of T16 (fun_mk l16 c16 k16) (PySem.W.mg_of X G a16)
    have T18 := t_outputs_of T17 (fun_mk l17 c17 k17) (PySem.W.mg_of X G a17)
    have T19 := t_are_steps T18 (fun_mk l18 c18 k18) (PySem.W.mg_of X G a18)
    have T20 := t_want_inputs T19 (fun_mk l19 c19 k19) (PySem.W.mg_of X G a19)
    have T21 := t_states_by T20 (fun_mk l20 c20 k20) (PySem.W.mg_of X G a20)
    have T22 := t_outputs_by T21 (fun_mk l21 c21 k21) (PySem.W.mg_of X G a21)
    have T23 := t_answers_by T22 (fun_mk l22 c22 k22) (PySem.W.mg_of X G a22)
    have T24 := t_are_delays T23 (fun_mk l23 c23 k23) (PySem.W.mg_of X G a23)
    have T25 := t_delayed T24 (fun_mk l24 c24 k24) (PySem.W.mg_of X G a24)
    have T26 := t_mattering_of T25 (fun_mk l25 c25 k25) (PySem.W.mg_of X G a25)
    have T27 := t_want_asked T26 (fun_mk l26 c26 k26) (PySem.W.mg_of X G a26)
    have T28 := t_late_outputs T27 (fun_mk l27 c27 k27) (PySem.W.mg_of X G a27)
    have T29 := t_mattering_inputs T28 (fun_mk l28 c28 k28) (PySem.W.mg_of X G a28)
    have T30 := t_l_pot T29 (fun_mk l29 c29 k29) (PySem.W.mg_of X G a29)
    have T31 := t_l_draw T30 (fun_mk l30 c30 k30) (PySem.W.mg_of X G a30)
    have T32 := t_l_pick T31 (fun_mk l31 c31 k31) (PySem.W.mg_of X G a31)
    have T33 := t_l_entry T32 (fun_mk l32 c32 k32) (PySem.W.mg_of X G a32)
    have T34 := t_l_table T33 (fun_mk l33 c33 k33) (PySem.W.mg_of X G a33)
    have T35 := t_l_line T34 (fun_mk l34 c34 k34) (PySem.W.mg_of X G a34)
    have T36 := t_l_vectors T35 (fun_mk l35 c35 k35) (PySem.W.mg_of X G a35)
    have T37 := t_l_latest T36 (fun_mk l36 c36 k36) (PySem.W.mg_of X G a36)
    have T38 := t_l_plus T37 (fun_mk l37 c37 k37) (PySem.W.mg_of X G a37)
    have T39 := t_l_rows T38 (fun_mk l38 c38 k38) (PySem.W.mg_of X G a38)
    have T40 := t_l_states T39 (fun_mk l39 c39 k39) (PySem.W.mg_of X G a39)
    have T41 := t_l_outputs T40 (fun_mk l40 c40 k40) (PySem.W.mg_of X G a40)
    have T42 := t_l_even_vectors T41 (fun_mk l41 c41 k41) (PySem.W.mg_of X G a41)
    have T43 := t_l_moved T42 (fun_mk l42 c42 k42) (PySem.W.mg_of X G a42)
    have T44 := t_l_matters T43 (fun_mk l43 c43 k43) (PySem.W.mg_of X G a43)
    have T45 := t_l_late T44 (fun_mk l44 c44 k44) (PySem.W.mg_of X G a44)
    have T46 := t_l_delays_right T45 (fun_mk l45 c45 k45) (PySem.W.mg_of X G a45)
    have T47 := t_l_line_right T46 (fun_mk l46 c46 k46) (PySem.W.mg_of X G a46)
    have T48 := t_l_right T47 (fun_mk l47 c47 k47) (PySem.W.mg_of X G a47)
    have T49 := t_l_gaps_right T48 (fun_mk l48 c48 k48) (PySem.W.mg_of X G a48)
    exact ct_of (c := cc ["script", "k"] [] [(254, [1])] [] 49) (ks := [false]) (fun_mk l49 c49 k49) s_law T49 (fun z => by cases z) rfl rfl c_law
  · have e : consF x = some d := e
    unfold consF at e
    split at e
    · rename_i hx; subst hx; cases e; exact ⟨.str (Str.ofString "line"), .str (Str.ofString "line") tk0, PySem.W.mg_of X G m0, ⟨tk0, rfl⟩, fun Z => .str _⟩
    split at e
    · rename_i hx; subst hx; cases e; exact ⟨.int (99), .int (99) tk1, PySem.W.mg_of X G m1, ⟨tk1, rfl⟩, fun Z => .int _⟩
    split at e
    · rename_i hx; subst hx; cases e; exact ⟨.int (8), .int (8) tk2, PySem.W.mg_of X G m2, ⟨tk2, rfl⟩, fun Z => .int _⟩
    split at e
    · rename_i hx; subst hx; cases e; exact ⟨.int (12), .int (12) tk3, PySem.W.mg_of X G m3, ⟨tk3, rfl⟩, fun Z => .int _⟩
    split at e
    · rename_i hx; subst hx; cases e; exact ⟨.int (1000000000), .int (1000000000) tk4, PySem.W.mg_of X G m4, ⟨tk4, rfl⟩, fun Z => .int _⟩
    cases e
  · exact List.forall_mem_cons.mpr ⟨PySem.W.mg_none_of X G z0, List.forall_mem_cons.mpr ⟨PySem.W.mg_none_of X G z1, List.forall_mem_cons.mpr ⟨PySem.W.mg_none_of X G z2, List.forall_mem_cons.mpr ⟨PySem.W.mg_none_of X G z3, List.forall_mem_cons.mpr ⟨PySem.W.mg_none_of X G z4, List.forall_mem_cons.mpr ⟨PySem.W.mg_none_of X G z5, List.forall_mem_cons.mpr ⟨PySem.W.mg_none_of X G z6, List.forall_mem_cons.mpr ⟨PySem.W.mg_none_of X G z7, List.forall_mem_cons.mpr ⟨PySem.W.mg_none_of X G z8, List.forall_mem_cons.mpr ⟨PySem.W.mg_none_of X G z9, List.forall_mem_cons.mpr ⟨PySem.W.mg_none_of X G z10, List.forall_mem_cons.mpr ⟨PySem.W.mg_none_of X G z11, List.forall_mem_cons.mpr ⟨PySem.W.mg_none_of X G z12, List.forall_mem_cons.mpr ⟨PySem.W.mg_none_of X G z13, List.forall_mem_cons.mpr ⟨PySem.W.mg_none_of X G z14, List.forall_mem_cons.mpr ⟨PySem.W.mg_none_of X G z15, List.forall_mem_cons.mpr ⟨PySem.W.mg_none_of X G z16, List.forall_mem_cons.mpr ⟨PySem.W.mg_none_of X G z17, List.forall_mem_cons.mpr ⟨PySem.W.mg_none_of X G z18, List.forall_mem_cons.mpr ⟨PySem.W.mg_none_of X G z19, fun x z => nomatch z⟩⟩⟩⟩⟩⟩⟩⟩⟩⟩⟩⟩⟩⟩⟩⟩⟩⟩⟩⟩
theorem law_true (ns : List Int) (h1 : ns.length ≤ 63) (h2 : ∀ z ∈ ns, Builtin.Int.intBits z ≤ 1048576) : ∃ out, f_law [.dat (.list (ns.map PyData.int))] = some (.dat (.bool true), out) := ⟨_, law_ok ns h1⟩
end k94
open PySem PySem.W PyProof.Rows
set_option maxHeartbeats 0 in
theorem PySem.Challenge.cw_laterthen_k94_whole_late_outputs_and_wha_holds : PySem.Challenge.rw_laterthen_k94_whole_late_outputs_and_wha.Holds := by
  w_on; o_law; k_head; (case hw => w_witness2)
  k_fill
  refine Dx.walk_ct (l := PySem.Challenge.rw_laterthen_k94_whole_late_outputs_and_wha) (n := 63) (k := 50) (x := "script") (f := k94.f_law) rfl (by decide) rfl ⟨⟨rfl, by decide, by decide⟩, rfl⟩ (fun w h Y => PySem.W.kIn_of Y) ?F k94.law_true
  case F =>
    intro w mg fa h KX G hmg
    refine' k94.all_mk KX G hmg ?a0 ?l0 ?c0 ?k0 ?a1 ?l1 ?c1 ?k1 ?a2 ?l2 ?c2 ?k2 ?a3 ?l3 ?c3 ?k3 ?a4 ?l4 ?c4 ?k4 ?a5 ?l5 ?c5 ?k5 ?a6 ?l6 ?c6 ?k6 ?a7 ?l7 ?c7 ?k7 ?a8 ?l8 ?c8 ?k8 ?a9 ?l9 ?c9 ?k9 ?a10 ?l10 ?c10 ?k10 ?a11 ?l11 ?c11 ?k11 ?a12 ?l12 ?c12 ?k12 ?a13 ?l13 ?c13 ?k13 ?a14 ?l14 ?c14 ?k14 ?a15 ?l15 ?c15 ?k15 ?a16 ?l16 ?c16 ?k16 ?a17 ?l17 ?c17 ?k17 ?a18 ?l18 ?c18 ?k18 ?a19 ?l19 ?c19 ?k19 ?a20 ?l20 ?c20 ?k20 ?a21 ?l21 ?c21 ?k21 ?a22 ?l22 ?c22 ?k22 ?a23 ?l23 ?c23 ?k23 ?a24 ?l24 ?c24 ?k24 ?a25 ?l25 ?c25 ?k25 ?a26 ?l26 ?c26 ?k26 ?a27 ?l27 ?c27 ?k27 ?a28 ?l28 ?c28 ?k28 ?a29 ?l29 ?c29 ?k29 ?a30 ?l30 ?c30 ?k30 ?a31 ?l31 ?c31 ?k31 ?a32 ?l32 ?c32 ?k32 ?a33 ?l33 ?c33 ?k33 ?a34 ?l34 ?c34 ?k34 ?a35 ?l35 ?c35 ?k35 ?a36 ?l36 ?c36 ?k36 ?a37 ?l37 ?c37 ?k37 ?a38 ?l38 ?c38 ?k38 ?a39 ?l39 ?c39 ?k39 ?a40 ?l40 ?c40 ?k40 ?a41 ?l41 ?c41 ?k41 ?a42 ?l42 ?c42 ?k42 ?a43 ?l43 ?c43 ?k43 ?a44 ?l44 ?c44 ?k44 ?a45 ?l45 ?c45 ?k45 ?a46 ?l46 ?c46 ?k46 ?a47 ?l47 ?c47 ?k47 ?a48 ?l48 ?c48 ?k48 ?a49 ?l49 ?c49 ?k49 ?m0 ?m1 ?m2 ?m3 ?m4 ?z0 ?z1 ?z2 ?z3 ?z4 ?z5 ?z6 ?z7 ?z8 ?z9 ?z10 ?z11 ?z12 ?z13 ?z14 ?z15 ?z16 ?z17 ?z18 ?z19
    (case a0 => k_is); (case l0 => k_is); (case c0 => k_is); (case k0 => k_is); (case a1 => k_is); (case l1 => k_is); (case c1 => k_is); (case k1 => k_is)
    (case a2 => k_is); (case l2 => k_is); (case c2 => k_is); (case k2 => k_is); (case a3 => k_is); (case l3 => k_is); (case c3 => k_is); (case k3 => k_is)
    (case a4 => k_is); (case l4 => k_is); (case c4 => k_is); (case k4 => k_is); (case a5 => k_is); (case l5 => k_is); (case c5 => k_is); (case k5 => k_is)
    (case a6 => k_is); (case l6 => k_is); (case c6 => k_is); (case k6 => k_is); (case a7 => k_is); (case l7 => k_is); (case c7 => k_is); (case k7 => k_is)
    (case a8 => k_is); (case l8 => k_is); (case c8 => k_is); (case k8 => k_is); (case a9 => k_is); (case l9 => k_is); (case c9 => k_is); (case k9 => k_is)
    (case a10 => k_is); (case l10 => k_is); (case c10 => k_is); (case k10 => k_is); (case a11 => k_is); (case l11 => k_is); (case c11 => k_is); (case k11 => k_is)
    (case a12 => k_is); (case l12 => k_is); (case c12 => k_is); (case k12 => k_is); (case a13 => k_is); (case l13 => k_is); (case c13 => k_is); (case k13 => k_is)
    (case a14 => k_is); (case l14 => k_is); (case c14 => k_is); (case k14 => k_is); (case a15 => k_is); (case l15 => k_is); (case c15 => k_is); (case k15 => k_is)
    (case a16 => k_is); (case l16 => k_is); (case c16 => k_is); (case k16 => k_is); (case a17 => k_is); (case l17 => k_is); (case c17 => k_is); (case k17 => k_is)
    (case a18 => k_is); (case l18 => k_is); (case c18 => k_is); (case k18 => k_is); (case a19 => k_is); (case l19 => k_is); (case c19 => k_is); (case k19 => k_is)
    (case a20 => k_is); (case l20 => k_is); (case c20 => k_is); (case k20 => k_is); (case a21 => k_is); (case l21 => k_is); (case c21 => k_is); (case k21 => k_is)
    (case a22 => k_is); (case l22 => k_is); (case c22 => k_is); (case k22 => k_is); (case a23 => k_is); (case l23 => k_is); (case c23 => k_is); (case k23 => k_is)
    (case a24 => k_is); (case l24 => k_is); (case c24 => k_is); (case k24 => k_is); (case a25 => k_is); (case l25 => k_is); (case c25 => k_is); (case k25 => k_is)
    (case a26 => k_is); (case l26 => k_is); (case c26 => k_is); (case k26 => k_is); (case a27 => k_is); (case l27 => k_is); (case c27 => k_is); (case k27 => k_is)
    (case a28 => k_is); (case l28 => k_is); (case c28 => k_is); (case k28 => k_is); (case a29 => k_is); (case l29 => k_is); (case c29 => k_is); (case k29 => k_is)
    (case a30 => k_is); (case l30 => k_is); (case c30 => k_is); (case k30 => k_is); (case a31 => k_is); (case l31 => k_is); (case c31 => k_is); (case k31 => k_is)
    (case a32 => k_is); (case l32 => k_is); (case c32 => k_is); (case k32 => k_is); (case a33 => k_is); (case l33 => k_is); (case c33 => k_is); (case k33 => k_is)
    (case a34 => k_is); (case l34 => k_is); (case c34 => k_is); (case k34 => k_is); (case a35 => k_is); (case l35 => k_is); (case c35 => k_is); (case k35 => k_is)
    (case a36 => k_is); (case l36 => k_is); (case c36 => k_is); (case k36 => k_is); (case a37 => k_is); (case l37 => k_is); (case c37 => k_is); (case k37 => k_is)
    (case a38 => k_is); (case l38 => k_is); (case c38 => k_is); (case k38 => k_is); (case a39 => k_is); (case l39 => k_is); (case c39 => k_is); (case k39 => k_is)
    (case a40 => k_is); (case l40 => k_is); (case c40 => k_is); (case k40 => k_is); (case a41 => k_is); (case l41 => k_is); (case c41 => k_is); (case k41 => k_is)
    (case a42 => k_is); (case l42 => k_is); (case c42 => k_is); (case k42 => k_is); (case a43 => k_is); (case l43 => k_is); (case c43 => k_is); (case k43 => k_is)
    (case a44 => k_is); (case l44 => k_is); (case c44 => k_is); (case k44 => k_is); (case a45 => k_is); (case l45 => k_is); (case c45 => k_is); (case k45 => k_is)
    (case a46 => k_is); (case l46 => k_is); (case c46 => k_is); (case k46 => k_is); (case a47 => k_is); (case l47 => k_is); (case c47 => k_is); (case k47 => k_is)
    (case a48 => k_is); (case l48 => k_is); (case c48 => k_is); (case k48 => k_is); (case a49 => k_is); (case l49 => k_is); (case c49 => k_is); (case k49 => k_is)
    (case m0 => k_is); (case m1 => k_is); (case m2 => k_is); (case m3 => k_is); (case m4 => k_is); (case z0 => k_is); (case z1 => k_is); (case z2 => k_is)
    (case z3 => k_is); (case z4 => k_is); (case z5 => k_is); (case z6 => k_is); (case z7 => k_is); (case z8 => k_is); (case z9 => k_is); (case z10 => k_is)
    (case z11 => k_is); (case z12 => k_is); (case z13 => k_is); (case z14 => k_is); (case z15 => k_is); (case z16 => k_is); (case z17 => k_is); (case z18 => k_is)
    (case z19 => k_is)
