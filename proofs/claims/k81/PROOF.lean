import PyProof.Rows.All
import HandS.ForMost
import HandS.Wide
import HandS.IsInst
import HandS.Gcd
import HandS.Style
import HandS.TupAny
import HandS.Deep
import HandS.Zip
import HandS.Walk
import HandS.Conv
import HandS.Flow
import KE.DataEq
import HandS.TupMul
import HandS.EndBits
import PySem.Challenge.RW_laterthen_k81_any_value_as_a_polynomial
set_option Elab.async false
set_option linter.all false
set_option autoImplicit false
set_option maxRecDepth 100000
set_option maxHeartbeats 4000000
set_option exponentiation.threshold 10000
namespace Dx
open PySem PySem.Spec PyProof.Rows L2

/-! ## The data level: values without a heap -/
/-- what a slot holds: data that never changes, or a list that this slot alone holds -/
inductive Sl where
  | dat (d : PyData)
  | own (ds : List PyData)
/-- what an expression gives: data, or a new list that nobody else holds -/
inductive R where
  | dat (d : PyData)
  | frs (ds : List PyData)
def R.d : R → PyData
  | .dat d => d
  | .frs ds => .list ds
abbrev Env1 := List (Option Sl)
abbrev Fn := List Sl → Option (R × List Sl)
structure Gf where
  kinds : List Bool
  f : Fn
structure Gx where
  fns : Str → Option Gf
  cons : Str → Option PyData
  kw : List (Str × List Str × List Nat)

/-- one tree for expressions, arguments, targets, iterables, statements -/
inductive I where
  | var (i : Nat) | int (i : Int) | str (s : Str) | non | bl (b : Bool) | con (x : Str)
  | bin (op : Operator) (a b : I) | inot (a : I) | neg (a : I)
  | and (a b : I) | or (a b : I) | cmp (op : CmpOp) (a b : I) | cmp2 (op op' : CmpOp) (a b c : I) | ite (c a b : I)
  | tup (as : I) | lst (as : I) | nil | cons (a r : I)
  | call (f : Str) (as : I) (pm : List Nat) | blt (f : Str) (as : I) | isi (a : I) (ts : List Str)
  | idx (a b : I) | slc (a lo hi : I) | abs | rev (a : I)
  | lc (elt tgt it cnd : I) (vs : List Nat)
  | tnm (i : Nat) | ttp (ts : I)
  | iv (e : I) | irg (a : I) | irg2 (a b : I) | ien (e : I) | izp (a b : I)
  | sset (i : Nat) (e : I) | sown (i : Nat) (e : I) | stg (t e : I) | spar (is : List (Nat × Bool)) (as : I)
  | sdm (i : Nat) (k : I) (j : Nat) (a b : I) | sidx (i : Nat) (k e : I)
  | sapp (i : Nat) (e : I) | sext (i : Nat) (e : I)
  | sif (c a b : I) | sfor (t it b : I) | swh (c b : I) | sret (e : I) | sretv (i : Nat) | sexp (e : I) | sno
  | scons (s r : I) | snil
  deriving DecidableEq

inductive Out where
  | nx (ρ : Env1) | rt (r : R) (ρ : Env1) | bk (ρ : Env1) | ct (ρ : Env1)

/-- an evaluated argument: data, a new list, or the list that a slot holds -/
inductive Ar where
  | dat (d : PyData) | frs (ds : List PyData) | ref (i : Nat)

structure Sm where
  e : Env1 → Option (R × Env1)
  a : List Bool → Env1 → Option (List Ar × Env1)
  t : PyData → Env1 → Option Env1
  i : Env1 → Option (List PyData × Env1)
  s : Env1 → Option Out

/-! ### operators -/
def small (i : Int) : Bool := decide (i.natAbs < 2 ^ 4000)
def binD (op : Operator) (x y : PyData) : Option R :=
  match op, x, y with
  | .Add, .int i, .int j => some (.dat (.int (i + j)))
  | .Sub, .int i, .int j => some (.dat (.int (i - j)))
  | .Mult, .int i, .int j => if small i && small j then some (.dat (.int (i * j))) else none
  | .FloorDiv, .int i, .int j => if decide (0 < j) && small j then some (.dat (.int (i / j))) else none
  | .Mod, .int i, .int j => if 0 < j then some (.dat (.int (i % j))) else none
  | .Pow, .int i, .int j => if 0 ≤ j ∧ j ≤ 1000 ∧ i.natAbs < 2 ^ 60 then some (.dat (.int (i ^ j.toNat))) else none
  | .Add, .list xs, .list ys => if xs.length + ys.length ≤ sizeLine then some (.frs (xs ++ ys)) else none
  | .Add, .tuple xs, .tuple ys => if xs.length + ys.length ≤ sizeLine then some (.dat (.tuple (xs ++ ys))) else none
  | .Mult, .tuple xs, .int k => if 0 ≤ k ∧ k ≤ 1000 ∧ xs.length ≤ 1000 then some (.dat (.tuple (List.replicate k.toNat xs).flatten)) else none
  | _, _, _ => none
end Dx

namespace Dx
open PySem PySem.Spec PyProof.Rows L2

/-! ### comparisons, truth -/
/-- data that == takes: no dict within, not too deep -/
def okD (d : PyData) : Bool := d.plain && decide (d.depth ≤ 64)
def cmpD (op : CmpOp) (x y : PyData) : Option Bool :=
  match op, x, y with
  | .Eq, x, y => if okD x && okD y then some (PyData.eqv x y) else none
  | .NotEq, x, y => if okD x && okD y then some (!PyData.eqv x y) else none
  | .Lt, .int i, .int j => some (decide (i < j))
  | .LtE, .int i, .int j => some (decide (i ≤ j))
  | .Gt, .int i, .int j => some (decide (j < i))
  | .GtE, .int i, .int j => some (decide (j ≤ i))
  | .In, x, .list ys => if okD x && okD (.list ys) then some (ys.any fun y => PyData.eqv y x) else none
  | .NotIn, x, .list ys => if okD x && okD (.list ys) then some (!ys.any fun y => PyData.eqv y x) else none
  | .In, x, .tuple ys => if okD x && okD (.tuple ys) then some (ys.any fun y => PyData.eqv y x) else none
  | .NotIn, x, .tuple ys => if okD x && okD (.tuple ys) then some (!ys.any fun y => PyData.eqv y x) else none
  | .Is, x, .none => some (match x with | .none => true | _ => false)
  | .IsNot, x, .none => some (match x with | .none => false | _ => true)
  | _, _, _ => none
def truD : PyData → Option Bool
  | .none => some false
  | .bool b => some b
  | .int i => some (i != 0)
  | .str y => if y.length ≤ sizeLine then some ((y.length : Int) != 0) else none
  | .list xs => some (!xs.isEmpty)
  | .tuple xs => some (!xs.isEmpty)
  | .dict _ => none

/-! ### built-ins -/
def allBl : List PyData → Option (List Bool)
  | [] => some []
  | .bool b :: r => (allBl r).map (b :: ·)
  | _ :: _ => none
def allInt : List PyData → Option (List Int)
  | [] => some []
  | .int b :: r => (allInt r).map (b :: ·)
  | _ :: _ => none
/-- what repr takes -/
def reprOk (d : PyData) : Bool := d.plain && decide (d.depth ≤ 64) && d.showable && decide (d.shown.length ≤ sizeLine)
def bltD (f : Str) (as : List PyData) : Option R :=
  if f = "len" then match as with
    | [.list xs] => some (.dat (.int xs.length))
    | [.tuple xs] => some (.dat (.int xs.length))
    | [.str x] => if x.length ≤ sizeLine then some (.dat (.int x.length)) else none
    | _ => none
  else if f = "abs" then match as with
    | [.int i] => some (.dat (.int (if i < 0 then -i else i)))
    | _ => none
  else if f = "int" then match as with
    | [.int i] => some (.dat (.int i))
    | _ => none
  else if f = "max" then match as with
    | [.int i, .int j] => some (.dat (.int (if j > i then j else i)))
    | _ => none
  else if f = "min" then match as with
    | [.int i, .int j] => some (.dat (.int (if j < i then j else i)))
    | _ => none
  else if f = "gcd" then match as with
    | [.int i, .int j] => some (.dat (.int ((Nat.gcd i.natAbs j.natAbs : Nat) : Int)))
    | _ => none
  else if f = "all" then match as with
    | [.list xs] => (allBl xs).map fun bs => .dat (.bool (bs.all id))
    | _ => none
  else if f = "any" then match as with
    | [.list xs] => (allBl xs).map fun bs => .dat (.bool (bs.any id))
    | _ => none
  else if f = "sum" then match as with
    | [.list xs] => (allInt xs).map fun ns => .dat (.int ns.sum)
    | _ => none
  else if f = "list" then match as with
    | [.list xs] => some (.frs xs)
    | [.tuple xs] => some (.frs xs)
    | _ => none
  else if f = "repr" then match as with
    | [d] => if reprOk d then some (.dat (.str d.shown)) else none
    | _ => none
  else if f = "tuple" then match as with
    | [.list xs] => some (.dat (.tuple xs))
    | [.tuple xs] => some (.dat (.tuple xs))
    | _ => none
  else none
/-- the class's name -/
def tyD : PyData → String
  | .none => "NoneType"
  | .bool _ => "bool"
  | .int _ => "int"
  | .str _ => "str"
  | .list _ => "list"
  | .tuple _ => "tuple"
  | .dict _ => "dict"
def isiL (x : PyData) : List Str → Option Bool
  | [] => some false
  | t :: r => match kitB (tyD x) (if t = "int" then "int" else if t = "bool" then "bool" else if t = "tuple" then "tuple" else if t = "list" then "list" else if t = "str" then "str" else "dict") with
    | some true => some true
    | some false => isiL x r
    | none => none
def idxD (x y : PyData) : Option PyData :=
  match x, y with
  | .list xs, .int i => atI xs i
  | .tuple xs, .int i => atI xs i
  | _, _ => none
def cutD (xs : List PyData) (lo hi : Option Int) : List PyData := (xs.drop (HT.sIx xs.length 0 lo)).take (HT.sIx xs.length xs.length hi - HT.sIx xs.length 0 lo)
def slcD (x : PyData) (lo hi : Option Int) : Option R :=
  match x with
  | .list xs => some (.frs (cutD xs lo hi))
  | .tuple xs => some (.dat (.tuple (cutD xs lo hi)))
  | _ => none

/-! ### slots -/
def getD (ρ : Env1) (i : Nat) : Option PyData :=
  match ρ[i]? with
  | some (some (.dat d)) => some d
  | some (some (.own ds)) => some (.list ds)
  | _ => none
def getO (ρ : Env1) (i : Nat) : Option (List PyData) :=
  match ρ[i]? with
  | some (some (.own ds)) => some ds
  | _ => none
/-- a slot's value as data: a list of its own is given out (no more its own), unless it is pinned -/
def pubD (pn : List Nat) (ρ : Env1) (i : Nat) : Option (PyData × Env1) :=
  match ρ[i]? with
  | some (some (.dat d)) => some (d, ρ)
  | some (some (.own ds)) => if pn.contains i then none else some (.list ds, ρ.set i (some (.dat (.list ds))))
  | _ => none
def setS (pn : List Nat) (ρ : Env1) (i : Nat) (s : Sl) : Option Env1 := if pn.contains i then none else if i < ρ.length then some (ρ.set i (some s)) else none
def wipeE (ρ : Env1) : List Nat → Env1
  | [] => ρ
  | v :: vs => (wipeE ρ vs).set v none
/-- behind a comprehension: its own names as ahead, the others as they are -/
def backE (ρ ρ' : Env1) : List Nat → Env1
  | [] => ρ'
  | v :: vs => (backE ρ ρ' vs).set v (ρ[v]?.getD none)

def arD : Ar → Option PyData
  | .dat d => some d
  | .frs _ => none
  | .ref _ => none
def arsD : List Ar → Option (List PyData)
  | [] => some []
  | a :: r => do let d ← arD a; let ds ← arsD r; some (d :: ds)
def slOf (ρ : Env1) : Bool → Ar → Option Sl
  | false, .dat d => some (.dat d)
  | true, .frs ds => some (.own ds)
  | true, .ref i => (getO ρ i).map .own
  | _, _ => none
def slsOf (ρ : Env1) : List Bool → List Ar → Option (List Sl)
  | [], [] => some []
  | k :: ks, a :: r => do let s ← slOf ρ k a; let t ← slsOf ρ ks r; some (s :: t)
  | _, _ => none
/-- the slots behind a call: a list that was handed over holds what the callee left -/
def putBack : Env1 → List Ar → List Sl → Option Env1
  | ρ, [], [] => some ρ
  | ρ, .ref i :: r, .own ds :: t => putBack (ρ.set i (some (.own ds))) r t
  | ρ, .ref _ :: _, .dat _ :: _ => none
  | ρ, .dat _ :: r, _ :: t => putBack ρ r t
  | ρ, .frs _ :: r, _ :: t => putBack ρ r t
  | _, _, _ => none
def refs : List Ar → List Nat
  | [] => []
  | .ref i :: r => i :: refs r
  | _ :: r => refs r
def permG {α : Type} (pm : List Nat) (xs : List α) : Option (List α) := if pm.isEmpty then some xs else pm.mapM fun i => xs[i]?

def rngD : List PyData → Option (List PyData)
  | [.int n] => if -1000000 ≤ n ∧ n ≤ 1000000 then some ((List.range n.toNat).map fun (i : Nat) => .int i) else none
  | [.int a, .int b] => if -1000000 ≤ a ∧ a ≤ 1000000 ∧ -1000000 ≤ b ∧ b ≤ 1000000 then some ((List.range (b - a).toNat).map fun (i : Nat) => .int (a + i)) else none
  | _ => none
def zipD : PyData → PyData → Option (List PyData)
  | .list xs, .list ys => some (List.zipWith (fun x y => .tuple [x, y]) xs ys)
  | .tuple xs, .tuple ys => some (List.zipWith (fun x y => .tuple [x, y]) xs ys)
  | _, _ => none
def seqD : PyData → Option (List PyData)
  | .list xs => some xs
  | .tuple xs => some xs
  | _ => none

/-! ### loops -/
def forG (t : PyData → Env1 → Option Env1) (b : Env1 → Option Out) : List PyData → Env1 → Option Out
  | [], ρ => some (.nx ρ)
  | x :: r, ρ => do
    let ρ1 ← t x ρ
    match ← b ρ1 with
    | .nx ρ2 => forG t b r ρ2
    | .ct ρ2 => forG t b r ρ2
    | .bk ρ2 => some (.nx ρ2)
    | .rt v ρ2 => some (.rt v ρ2)
def whileG (c : Env1 → Option (R × Env1)) (b : Env1 → Option Out) : Nat → Env1 → Option Out
  | 0, _ => none
  | n + 1, ρ => do
    let (r, ρ1) ← c ρ
    match ← truD r.d with
    | true => match ← b ρ1 with
      | .nx ρ2 => whileG c b n ρ2
      | .ct ρ2 => whileG c b n ρ2
      | .bk ρ2 => some (.nx ρ2)
      | .rt v ρ2 => some (.rt v ρ2)
    | false => some (.nx ρ1)
def lcG (vs : List Nat) (ρ0 : Env1) (t : PyData → Env1 → Option Env1) (c : Env1 → Option (R × Env1)) (e : Env1 → Option (R × Env1)) : List PyData → Env1 → List PyData → Option (List PyData × Env1)
  | [], ρ, acc => some (acc, ρ)
  | x :: r, ρ, acc => do
    let ρ1 ← t x (wipeE ρ vs)
    let (k, ρ2) ← c ρ1
    match ← truD k.d with
    | true => do
      let (y, ρ3) ← e ρ2
      if acc.length < sizeLine then lcG vs ρ0 t c e r (backE ρ0 ρ3 vs) (acc ++ [y.d]) else none
    | false => lcG vs ρ0 t c e r (backE ρ0 ρ2 vs) acc
def tgG (t : List (PyData → Env1 → Option Env1)) (xs : List PyData) (ρ : Env1) : Option Env1 :=
  match t, xs with
  | [], [] => some ρ
  | f :: t, x :: xs => do let ρ1 ← f x ρ; tgG t xs ρ1
  | _, _ => none

/-- one argument: where a list of its own is wanted, the slot's own list, or a new one; else data -/
def argG (e : Env1 → Option (R × Env1)) (var : Option Nat) (ks : List Bool) (ρ : Env1) : Option (Ar × Env1) :=
  match ks, var with
  | true :: _, some i => (getO ρ i).map fun _ => (.ref i, ρ)
  | true :: _, none => do
    let (x, ρ1) ← e ρ
    match x with
    | .dat d => some (.dat d, ρ1)
    | .frs ds => some (.frs ds, ρ1)
  | _, _ => do
    let (x, ρ1) ← e ρ
    some (.dat x.d, ρ1)
/-- an expression that is a slot's name is read late -/
def eOr (fa : (Env1 → Option (R × Env1))) (var : Option Nat) (ρ : Env1) : Option (PyData × Env1) :=
  match var with
  | some i => (getD ρ i).map fun d => (d, ρ)
  | none => (fa ρ).map fun p => (p.1.d, p.2)
def late (var : Option Nat) (x : PyData) (ρ : Env1) : Option PyData :=
  match var with
  | some i => getD ρ i
  | none => some x
/-- a slice's part -/
def partD (fo : Option (Env1 → Option (R × Env1))) (ρ : Env1) : Option (Option Int × Env1) :=
  match fo with
  | none => some (none, ρ)
  | some fe => match fe ρ with
    | some (.dat (.int i), ρ1) => some (some i, ρ1)
    | _ => none
def varI : I → Option Nat
  | .var i => some i
  | _ => none
def isAbs : I → Bool
  | .abs => true
  | _ => false
def sm0 : Sm := ⟨fun _ => none, fun _ _ => none, fun _ _ => none, fun _ => none, fun _ => none⟩
def parG (pn : List Nat) : List (Nat × Bool) → List Ar → Env1 → Option Env1
  | [], [], ρ => some ρ
  | (i, false) :: is, .dat d :: r, ρ => do let ρ1 ← setS pn ρ i (.dat d); parG pn is r ρ1
  | (i, true) :: is, .frs ds :: r, ρ => do let ρ1 ← setS pn ρ i (.own ds); parG pn is r ρ1
  | _, _, _ => none
/-- the meaning of a tree: G what the module's names mean, pn the slots that are the caller's lists, wf turns for each while -/
def sm (G : Gx) (pn : List Nat) (wf : Nat) : I → Sm
  | .var i => { sm0 with e := fun ρ => (pubD pn ρ i).map fun p => (.dat p.1, p.2) }
  | .int i => { sm0 with e := fun ρ => some (.dat (.int i), ρ) }
  | .str x => { sm0 with e := fun ρ => some (.dat (.str x), ρ) }
  | .non => { sm0 with e := fun ρ => some (.dat .none, ρ) }
  | .bl b => { sm0 with e := fun ρ => some (.dat (.bool b), ρ) }
  | .con x => { sm0 with e := fun ρ => (G.cons x).map fun d => (.dat d, ρ) }
  | .bin op a b => { sm0 with e := fun ρ => do
      let (x, ρ1) ← (sm G pn wf a).e ρ
      let (y, ρ2) ← (sm G pn wf b).e ρ1
      let r ← binD op x.d y.d
      some (r, ρ2) }
  | .inot a => { sm0 with e := fun ρ => do
      let (x, ρ1) ← (sm G pn wf a).e ρ
      let k ← truD x.d
      some (.dat (.bool (!k)), ρ1) }
  | .neg a => { sm0 with e := fun ρ => do
      let (x, ρ1) ← (sm G pn wf a).e ρ
      match x.d with
      | .int i => some (.dat (.int (-i)), ρ1)
      | _ => none }
  | .and a b => { sm0 with e := fun ρ => do
      let (x, ρ1) ← (sm G pn wf a).e ρ
      match ← truD x.d with
      | true => (sm G pn wf b).e ρ1
      | false => some (.dat x.d, ρ1) }
  | .or a b => { sm0 with e := fun ρ => do
      let (x, ρ1) ← (sm G pn wf a).e ρ
      match ← truD x.d with
      | true => some (.dat x.d, ρ1)
      | false => (sm G pn wf b).e ρ1 }
  | .cmp op a b => { sm0 with e := fun ρ => do
      let (x, ρ1) ← (sm G pn wf a).e ρ
      let (y, ρ2) ← (sm G pn wf b).e ρ1
      let k ← cmpD op x.d y.d
      some (.dat (.bool k), ρ2) }
  | .cmp2 op op' a b c => { sm0 with e := fun ρ => do
      let (x, ρ1) ← (sm G pn wf a).e ρ
      let (y, ρ2) ← (sm G pn wf b).e ρ1
      match ← cmpD op x.d y.d with
      | true => do
        let (z, ρ3) ← (sm G pn wf c).e ρ2
        let k ← cmpD op' y.d z.d
        some (.dat (.bool k), ρ3)
      | false => some (.dat (.bool false), ρ2) }
  | .ite c a b => { sm0 with e := fun ρ => do
      let (x, ρ1) ← (sm G pn wf c).e ρ
      match ← truD x.d with
      | true => (sm G pn wf a).e ρ1
      | false => (sm G pn wf b).e ρ1 }
  | .tup as => { sm0 with e := fun ρ => do
      let (xs, ρ1) ← (sm G pn wf as).a [] ρ
      let ds ← arsD xs
      if ds.length ≤ sizeLine then some (.dat (.tuple ds), ρ1) else none }
  | .lst as => { sm0 with e := fun ρ => do
      let (xs, ρ1) ← (sm G pn wf as).a [] ρ
      let ds ← arsD xs
      if ds.length ≤ sizeLine then some (.frs ds, ρ1) else none }
  | .nil => { sm0 with a := fun _ ρ => some ([], ρ), s := fun ρ => some (.nx ρ), t := fun d ρ => match d with | .tuple [] => some ρ | _ => none }
  | .cons a r => { sm0 with
      a := fun ks ρ => do
        let (x, ρ1) ← argG (sm G pn wf a).e (varI a) ks ρ
        let (xs, ρ2) ← (sm G pn wf r).a ks.tail ρ1
        some (x :: xs, ρ2)
      t := fun d ρ => match d with
        | .tuple (x :: xs) => do
          let ρ1 ← (sm G pn wf a).t x ρ
          (sm G pn wf r).t (.tuple xs) ρ1
        | _ => none }
  | .call f as pm => { sm0 with e := fun ρ => do
      let g ← G.fns f
      if pm = [] then do
        let (xs, ρ1) ← (sm G pn wf as).a g.kinds ρ
        if (refs xs).Nodup then do
          let ss ← slsOf ρ1 g.kinds xs
          let (r, out) ← g.f ss
          let ρ2 ← putBack ρ1 xs out
          some (r, ρ2)
        else none
      else do
        let (xs, ρ1) ← (sm G pn wf as).a [] ρ
        let ds ← arsD xs
        if ds.length = pm.length then do
          let (r, _) ← g.f (pm.map fun i => .dat (ds.getD i .none))
          some (r, ρ1)
        else none }
  | .blt f as => { sm0 with e := fun ρ => do
      let (xs, ρ1) ← (sm G pn wf as).a [] ρ
      let ds ← arsD xs
      let r ← bltD f ds
      some (r, ρ1) }
  | .isi a ts => { sm0 with e := fun ρ => do
      let (x, ρ1) ← (sm G pn wf a).e ρ
      let k ← isiL x.d ts
      some (.dat (.bool k), ρ1) }
  | .idx a b => { sm0 with e := fun ρ => do
      let (x, ρ1) ← eOr (sm G pn wf a).e (varI a) ρ
      let (y, ρ2) ← (sm G pn wf b).e ρ1
      let x ← late (varI a) x ρ2
      let d ← idxD x y.d
      some (.dat d, ρ2) }
  | .slc a lo hi => { sm0 with e := fun ρ => do
      let (x, ρ1) ← eOr (sm G pn wf a).e (varI a) ρ
      let (l, ρ2) ← partD (if isAbs lo then none else some (sm G pn wf lo).e) ρ1
      let (h, ρ3) ← partD (if isAbs hi then none else some (sm G pn wf hi).e) ρ2
      let x ← late (varI a) x ρ3
      let r ← slcD x l h
      some (r, ρ3) }
  | .abs => sm0
  | .rev a => { sm0 with e := fun ρ => do
      let (x, ρ1) ← (sm G pn wf a).e ρ
      match x.d with
      | .list xs => some (.frs xs.reverse, ρ1)
      | _ => none }
  | .lc elt tgt it cnd vs => { sm0 with e := fun ρ => do
      let (xs, ρ1) ← (sm G pn wf it).i ρ
      if (vs.all fun v => match ρ1[v]? with | some (some (.own _)) => false | _ => true) then do
      let (acc, ρ2) ← lcG vs ρ1 (sm G pn wf tgt).t (sm G pn wf cnd).e (sm G pn wf elt).e xs ρ1 []
      some (.frs acc, ρ2)
      else none }
  | .tnm i => { sm0 with t := fun d ρ => setS pn ρ i (.dat d) }
  | .ttp ts => { sm0 with t := fun d ρ => (sm G pn wf ts).t d ρ }
  | .iv e => { sm0 with i := fun ρ => do
      let (x, ρ1) ← (sm G pn wf e).e ρ
      let xs ← seqD x.d
      some (xs, ρ1) }
  | .irg a => { sm0 with i := fun ρ => do
      let (x, ρ1) ← (sm G pn wf a).e ρ
      let is ← rngD [x.d]
      some (is, ρ1) }
  | .irg2 a b => { sm0 with i := fun ρ => do
      let (x, ρ1) ← (sm G pn wf a).e ρ
      let (y, ρ2) ← (sm G pn wf b).e ρ1
      let is ← rngD [x.d, y.d]
      some (is, ρ2) }
  | .ien e => { sm0 with i := fun ρ => do
      let (x, ρ1) ← (sm G pn wf e).e ρ
      let xs ← seqD x.d
      some (xs.mapIdx fun (i : Nat) x => .tuple [.int i, x], ρ1) }
  | .izp a b => { sm0 with i := fun ρ => do
      let (x, ρ1) ← (sm G pn wf a).e ρ
      let (y, ρ2) ← (sm G pn wf b).e ρ1
      let is ← zipD x.d y.d
      some (is, ρ2) }
  | .sset i e => { sm0 with s := fun ρ => do
      let (x, ρ1) ← (sm G pn wf e).e ρ
      let ρ2 ← setS pn ρ1 i (.dat x.d)
      some (.nx ρ2) }
  | .sown i e => { sm0 with s := fun ρ => do
      let (x, ρ1) ← (sm G pn wf e).e ρ
      match x with
      | .frs ds => do let ρ2 ← setS pn ρ1 i (.own ds); some (.nx ρ2)
      | .dat _ => none }
  | .stg t e => { sm0 with s := fun ρ => do
      let (x, ρ1) ← (sm G pn wf e).e ρ
      let ρ2 ← (sm G pn wf t).t x.d ρ1
      some (.nx ρ2) }
  | .spar is as => { sm0 with s := fun ρ => do
      let (xs, ρ1) ← (sm G pn wf as).a (is.map (·.2)) ρ
      let ρ2 ← parG pn is xs ρ1
      some (.nx ρ2) }
  | .sdm i k j a b => { sm0 with s := fun ρ => do
      let _ ← getO ρ i
      let (x, ρ1) ← (sm G pn wf a).e ρ
      let (y, ρ2) ← (sm G pn wf b).e ρ1
      match x, y with
      | .dat (.int m), .dat (.int n) =>
        if 0 < n ∧ n < 2 ^ 29 then do
          let (z, ρ3) ← (sm G pn wf k).e ρ2
          match z with
          | .dat (.int q) => do
            let ds ← getO ρ3 i
            let p ← ixN ds.length q
            let ρ4 ← setS pn (ρ3.set i (some (.own (ds.set p (.int (m / n)))))) j (.dat (.int (m % n)))
            some (.nx ρ4)
          | _ => none
        else none
      | _, _ => none }
  | .sidx i k e => { sm0 with s := fun ρ => do
      let _ ← getO ρ i
      let (x, ρ1) ← (sm G pn wf e).e ρ
      let (z, ρ2) ← (sm G pn wf k).e ρ1
      match z with
      | .dat (.int q) => do
        let ds ← getO ρ2 i
        let p ← ixN ds.length q
        some (.nx (ρ2.set i (some (.own (ds.set p x.d)))))
      | _ => none }
  | .sapp i e => { sm0 with s := fun ρ => do
      let _ ← getO ρ i
      let (x, ρ1) ← (sm G pn wf e).e ρ
      let ds ← getO ρ1 i
      if ds.length < sizeLine then some (.nx (ρ1.set i (some (.own (ds ++ [x.d]))))) else none }
  | .sext i e => { sm0 with s := fun ρ => do
      let _ ← getO ρ i
      let (x, ρ1) ← (sm G pn wf e).e ρ
      let ds ← getO ρ1 i
      match x with
      | .frs xs => if ds.length + xs.length ≤ sizeLine then some (.nx (ρ1.set i (some (.own (ds ++ xs))))) else none
      | .dat _ => none }
  | .sif c a b => { sm0 with s := fun ρ => do
      let (x, ρ1) ← (sm G pn wf c).e ρ
      match ← truD x.d with
      | true => (sm G pn wf a).s ρ1
      | false => (sm G pn wf b).s ρ1 }
  | .sfor t it b => { sm0 with s := fun ρ => do
      let (xs, ρ1) ← (sm G pn wf it).i ρ
      forG (sm G pn wf t).t (sm G pn wf b).s xs ρ1 }
  | .swh c b => { sm0 with s := whileG (sm G pn wf c).e (sm G pn wf b).s wf }
  | .sret e => { sm0 with s := fun ρ => do
      let (x, ρ1) ← (sm G pn wf e).e ρ
      some (.rt x ρ1) }
  | .sretv i => { sm0 with s := fun ρ => match ρ[i]? with
      | some (some (.dat d)) => some (.rt (.dat d) ρ)
      | some (some (.own ds)) => if pn.contains i then none else some (.rt (.frs ds) (ρ.set i none))
      | _ => none }
  | .sexp e => { sm0 with s := fun ρ => do
      let (_, ρ1) ← (sm G pn wf e).e ρ
      some (.nx ρ1) }
  | .sno => sm0
  | .scons a r => { sm0 with s := fun ρ => do
      match ← (sm G pn wf a).s ρ with
      | .nx ρ1 => (sm G pn wf r).s ρ1
      | o => some o }
  | .snil => { sm0 with s := fun ρ => some (.nx ρ) }

/-- a def, by its body's tree: N slots, the first are the parameters -/
def ownsAt : List Sl → Nat → List Nat
  | [], _ => []
  | .own _ :: r, n => n :: ownsAt r (n + 1)
  | .dat _ :: r, n => ownsAt r (n + 1)
def outs : List Sl → Env1 → Option (List Sl)
  | [], _ => some []
  | .dat d :: r, ρ => (outs r ρ.tail).map (.dat d :: ·)
  | .own _ :: r, some (.own ds) :: ρ => (outs r ρ).map (.own ds :: ·)
  | .own _ :: _, _ => none
def fnS (G : Gx) (wf : Nat) (N ps : Nat) (b : I) : Fn := fun args =>
  if args.length = ps then
    match (sm G (ownsAt args 0) wf b).s (args.map some ++ List.replicate (N - args.length) none) with
    | some (.nx ρ) => (outs args ρ).map fun o => (.dat .none, o)
    | some (.rt r ρ) => (outs args ρ).map fun o => (r, o)
    | _ => none
  else none
end Dx

namespace Dx
open PySem PySem.Spec PyProof.Rows L2

/-! ## Data and heaps -/
mutual
inductive Dv (K : PySem.W.Frag) (Z : Hp) : V → PyData → Prop
  | non : Dv K Z .non .none
  | bl (b : Bool) : Dv K Z (.bl b) (.bool b)
  | int (i : Int) : Dv K Z (.int i) (.int i)
  | str (x : Str) : Dv K Z (.str x) (.str x)
  | lst {a : Addr} {xs : List V} {ds : List PyData} : SqL K Z a xs → DvAll K Z xs ds → Dv K Z (.ref a) (.list ds)
  | tup {a : Addr} {xs : List V} {ds : List PyData} : SqT K Z a xs → DvAll K Z xs ds → Dv K Z (.ref a) (.tuple ds)
  | dct {a : Addr} : Z a = some (.dK []) → Dv K Z (.ref a) (.dict [])
inductive DvAll (K : PySem.W.Frag) (Z : Hp) : List V → List PyData → Prop
  | nil : DvAll K Z [] []
  | cons {v : V} {vs : List V} {d : PyData} {ds : List PyData} : Dv K Z v d → DvAll K Z vs ds → DvAll K Z (v :: vs) (d :: ds)
end
section
variable {K : PySem.W.Frag} {Z Z' H : Hp}
theorem sameR {a : Addr} {u : HO} (e : Same Z Z') (h : Rd Z a u) : Rd Z' a u := by
  rcases h with h | ⟨o, h⟩
  · exact .inl (e _ _ h)
  · exact .inr ⟨o, e _ _ h⟩
theorem sameT {a : Addr} {xs : List V} (e : Same Z Z') (h : SqT K Z a xs) : SqT K Z' a xs := by
  rcases h with (h | ⟨o, h⟩) | h
  · exact .inl (.inl (e _ _ h))
  · exact .inl (.inr ⟨o, e _ _ h⟩)
  · exact .inr h
mutual
theorem dp_mono (e : Same Z Z') : ∀ (d : PyData) (v : V), Dv K Z v d → Dv K Z' v d
  | .none, _, h => by cases h; exact .non
  | .bool b, _, h => by cases h; exact .bl b
  | .int i, _, h => by cases h; exact .int i
  | .str x, _, h => by cases h; exact .str x
  | .list ds, _, h => by cases h with | lst hs ha => exact .lst (Same.seq e hs) (dps_mono e ds _ ha)
  | .tuple ds, _, h => by cases h with | tup hs ha => exact .tup (sameT e hs) (dps_mono e ds _ ha)
  | .dict _, _, h => by cases h with | dct ha => exact .dct (e _ _ ha)
theorem dps_mono (e : Same Z Z') : ∀ (ds : List PyData) (vs : List V), DvAll K Z vs ds → DvAll K Z' vs ds
  | [], _, h => by cases h; exact .nil
  | d :: ds, _, h => by cases h with | cons h1 h2 => exact .cons (dp_mono e d _ h1) (dps_mono e ds _ h2)
end
theorem Dv.up {d : PyData} {v : V} (h : Dv K Z v d) (e : Same Z Z') : Dv K Z' v d := dp_mono e d v h
theorem DvAll.up {ds : List PyData} {vs : List V} (h : DvAll K Z vs ds) (e : Same Z Z') : DvAll K Z' vs ds := dps_mono e ds vs h
theorem DvAll.len : ∀ {vs : List V} {ds : List PyData}, DvAll K Z vs ds → vs.length = ds.length
  | _, _, .nil => rfl
  | _, _, .cons _ t => by simp [DvAll.len t]
theorem DvAll.get : ∀ {vs : List V} {ds : List PyData} {i : Nat} {d : PyData}, DvAll K Z vs ds → ds[i]? = some d → ∃ v, vs[i]? = some v ∧ Dv K Z v d
  | _, _, _, _, .nil, h => by simp at h
  | _, _, 0, _, .cons a _, h => by simp at h; subst h; exact ⟨_, rfl, a⟩
  | _, _, i + 1, d, .cons _ t, h => by
    obtain ⟨v, h1, h2⟩ := DvAll.get (i := i) (d := d) t (by simpa using h)
    exact ⟨v, by simpa using h1, h2⟩
theorem DvAll.get' : ∀ {vs : List V} {ds : List PyData} {i : Nat} {v : V}, DvAll K Z vs ds → vs[i]? = some v → ∃ d, ds[i]? = some d ∧ Dv K Z v d
  | _, _, _, _, .nil, h => by simp at h
  | _, _, 0, _, .cons a _, h => by simp at h; subst h; exact ⟨_, rfl, a⟩
  | _, _, i + 1, d, .cons _ t, h => by
    obtain ⟨v, h1, h2⟩ := DvAll.get' (i := i) (v := d) t (by simpa using h)
    exact ⟨v, by simpa using h1, h2⟩
theorem DvAll.set {v : V} {d : PyData} (h : Dv K Z v d) : ∀ {vs : List V} {ds : List PyData} (i : Nat), DvAll K Z vs ds → DvAll K Z (vs.set i v) (ds.set i d)
  | _, _, _, .nil => .nil
  | _, _, 0, .cons _ t => .cons h t
  | _, _, i + 1, .cons a t => .cons a (DvAll.set h i t)
theorem DvAll.append : ∀ {vs ws : List V} {ds es : List PyData}, DvAll K Z vs ds → DvAll K Z ws es → DvAll K Z (vs ++ ws) (ds ++ es)
  | _, _, _, _, .nil, h => h
  | _, _, _, _, .cons a t, h => .cons a (DvAll.append t h)
theorem DvAll.take : ∀ {vs : List V} {ds : List PyData} (n : Nat), DvAll K Z vs ds → DvAll K Z (vs.take n) (ds.take n)
  | _, _, 0, _ => .nil
  | _, _, _ + 1, .nil => .nil
  | _, _, n + 1, .cons a t => .cons a (DvAll.take n t)
theorem DvAll.drop : ∀ {vs : List V} {ds : List PyData} (n : Nat), DvAll K Z vs ds → DvAll K Z (vs.drop n) (ds.drop n)
  | _, _, 0, h => h
  | _, _, _ + 1, .nil => .nil
  | _, _, n + 1, .cons _ t => DvAll.drop n t
theorem DvAll.rev : ∀ {vs : List V} {ds : List PyData}, DvAll K Z vs ds → DvAll K Z vs.reverse ds.reverse
  | _, _, .nil => .nil
  | _, _, .cons a t => by
    rw [List.reverse_cons, List.reverse_cons]
    exact DvAll.append (DvAll.rev t) (.cons a .nil)
theorem DvAll.one {v : V} {d : PyData} (h : Dv K Z v d) : DvAll K Z [v] [d] := .cons h .nil
theorem DvAll.rep {vs : List V} {ds : List PyData} (h : DvAll K Z vs ds) : ∀ n : Nat, DvAll K Z (List.replicate n vs).flatten (List.replicate n ds).flatten
  | 0 => .nil
  | n + 1 => by rw [List.replicate_succ, List.replicate_succ, List.flatten_cons, List.flatten_cons]; exact h.append (DvAll.rep h n)
theorem DvAll.atI {vs : List V} {ds : List PyData} {i : Int} {d : PyData} (h : DvAll K Z vs ds) (e : L2.atI ds i = some d) : ∃ v, L2.atI vs i = some v ∧ Dv K Z v d := by
  unfold L2.atI at e ⊢
  rw [h.len]
  cases q : ixN ds.length i with
  | none => rw [q] at e; cases e
  | some j => rw [q] at e; exact h.get e
theorem DvAll.ints : ∀ {vs : List V} {ds : List PyData} {ns : List Int}, DvAll K Z vs ds → allInt ds = some ns → vs = ns.map V.int
  | _, _, _, .nil, h => by cases h; rfl
  | _, _, ns, .cons a t, h => by
    cases a <;> try (simp [allInt] at h)
    obtain ⟨ms, e1, e2⟩ := h
    subst e2
    rw [DvAll.ints t e1]; rfl
mutual
theorem Dv.dp : ∀ (d : PyData) (v : V), d.plain = true → Dv K Z v d → Dp K Z v d
  | .none, _, _, h => by cases h; exact .non
  | .bool b, _, _, h => by cases h; exact .bl b
  | .int i, _, _, h => by cases h; exact .int i
  | .str x, _, _, h => by cases h; exact .str x
  | .list ds, _, p, h => by cases h with | lst hs ha => exact .lst hs (DvAll.dp ds _ p ha)
  | .tuple ds, _, p, h => by cases h with | tup hs ha => exact .tup hs (DvAll.dp ds _ p ha)
  | .dict _, _, p, h => by cases p
theorem DvAll.dp : ∀ (ds : List PyData) (vs : List V), PyData.plainAll ds = true → DvAll K Z vs ds → DpAll K Z vs ds
  | [], _, _, h => by cases h; exact .nil
  | d :: ds, _, p, h => by
    have p : d.plain = true ∧ PyData.plainAll ds = true := by simpa [PyData.plainAll] using p
    cases h with | cons h1 h2 => exact .cons (Dv.dp d _ p.1 h1) (DvAll.dp ds _ p.2 h2)
end
theorem DvAll.bls : ∀ {vs : List V} {ds : List PyData} {ns : List Bool}, DvAll K Z vs ds → allBl ds = some ns → vs = ns.map V.bl
  | _, _, _, .nil, h => by cases h; rfl
  | _, _, ns, .cons a t, h => by
    cases a <;> try (simp [allBl] at h)
    obtain ⟨ms, e1, e2⟩ := h
    subst e2
    rw [DvAll.bls t e1]; rfl
end

/-! ## What stands between the slots and the data -/
/-- the entry: the data region, the heap, the slots that hold the caller's lists -/
structure Bs where
  Z : Hp
  H : Hp
  pins : List (Nat × Addr)
  pend : List (Addr × List V)
structure Rl (K : PySem.W.Frag) (B : Bs) (Z H : Hp) (σ : L2.St) (ρ : Env1) : Prop where
  len : σ.length = ρ.length
  bz : Same B.Z Z
  zh : Same Z H
  zn : ∀ b o, Z b = some o → B.Z b = some o ∨ B.H b = none
  kp : ∀ b o, B.H b = some o → (∀ q ∈ B.pins, q.2 ≠ b) → H b = some o
  dat : ∀ (i : Nat) (d : PyData), ρ[i]? = some (some (.dat d)) → ∃ v, σ[i]? = some (some v) ∧ Dv K Z v d
  own : ∀ (i : Nat) (ds : List PyData), ρ[i]? = some (some (.own ds)) → ∃ p xs, σ[i]? = some (some (.ref p)) ∧ H p = some (.lst xs) ∧ Z p = none ∧ DvAll K Z xs ds ∧ ((i, p) ∈ B.pins ∨ B.H p = none)
  apart : ∀ (i j : Nat) (ds es : List PyData) (p : Addr), ρ[i]? = some (some (.own ds)) → ρ[j]? = some (some (.own es)) → σ[i]? = some (some (.ref p)) → σ[j]? = some (some (.ref p)) → i = j
  pin : ∀ q ∈ B.pins, σ[q.1]? = some (some (.ref q.2)) ∧ ∃ ds, ρ[q.1]? = some (some (.own ds))
  pd : ∀ q ∈ B.pend, H q.1 = some (.lst q.2) ∧ Z q.1 = none ∧ ∀ (i : Nat) (ds : List PyData), ρ[i]? = some (some (.own ds)) → σ[i]? ≠ some (some (.ref q.1))
def pnOf (B : Bs) : List Nat := B.pins.map (·.1)

/-- a result and its value -/
def RR (K : PySem.W.Frag) (B : Bs) (Z H : Hp) (σ : L2.St) (ρ : Env1) (v : V) : R → Prop
  | .dat d => Dv K Z v d
  | .frs ds => ∃ p xs, v = .ref p ∧ H p = some (.lst xs) ∧ Z p = none ∧ B.H p = none ∧ (∀ q ∈ B.pend, q.1 ≠ p) ∧ DvAll K Z xs ds ∧ ∀ (i : Nat) (es : List PyData), ρ[i]? = some (some (.own es)) → σ[i]? ≠ some (some (.ref p))

section
variable {K : PySem.W.Frag} {B : Bs} {Z Z' H H' : Hp} {σ : L2.St} {ρ ρ' : Env1}
theorem same_upd {p : Addr} {o : HO} (h : Z p = none) : Same Z (upd Z p o) := fun b x e => by rw [upd_ne (ne_of_none e h)]; exact e

/-- a new object beside all: the region as it is -/
theorem Rl.more (r : Rl K B Z H σ ρ) {p : Addr} {o : HO} (h : H p = none) : Rl K B Z (upd H p o) σ ρ where
  len := r.len
  bz := r.bz
  zh := fun b x e => by rw [upd_ne (ne_of_none (r.zh b x e) h)]; exact r.zh b x e
  zn := r.zn
  kp := fun b x e n => by
    have q := r.kp b x e n
    rw [upd_ne (ne_of_none q h)]; exact q
  dat := r.dat
  own := fun i ds e => by
    obtain ⟨q, xs, e1, e2, e3, e4, e5⟩ := r.own i ds e
    exact ⟨q, xs, e1, by rw [upd_ne (ne_of_none e2 h)]; exact e2, e3, e4, e5⟩
  apart := r.apart
  pin := r.pin
  pd := fun q hq => by
    obtain ⟨e1, e2, e3⟩ := r.pd q hq
    exact ⟨by rw [upd_ne (ne_of_none e1 h)]; exact e1, e2, e3⟩
/-- the region grows by an object of the heap that is no slot's own and no old one -/
theorem Rl.take (r : Rl K B Z H σ ρ) {p : Addr} {o : HO} (h : H p = some o) (hb : B.H p = none ∨ B.Z p = some o) (hz : Z p = none) (hq : ∀ q ∈ B.pend, q.1 ≠ p) (hn : ∀ (i : Nat) (ds : List PyData), ρ[i]? = some (some (.own ds)) → σ[i]? ≠ some (some (.ref p))) : Rl K B (upd Z p o) H σ ρ := by
  have sm : Same Z (upd Z p o) := same_upd hz
  refine ⟨r.len, r.bz.trans sm, fun b x e => ?_, fun b x e => ?_, r.kp, fun i d e => ?_, fun i ds e => ?_, r.apart, r.pin, fun q hm => ?_⟩
  · by_cases q : b = p
    · subst q; rw [upd_same] at e; cases e; exact h
    · rw [upd_ne q] at e; exact r.zh b x e
  · by_cases q : b = p
    · subst q
      rw [upd_same] at e; cases e
      exact hb.symm
    · rw [upd_ne q] at e; exact r.zn b x e
  · obtain ⟨v, e1, e2⟩ := r.dat i d e
    exact ⟨v, e1, e2.up sm⟩
  · obtain ⟨q, xs, e1, e2, e3, e4, e5⟩ := r.own i ds e
    refine ⟨q, xs, e1, e2, ?_, e4.up sm, e5⟩
    rw [upd_ne (fun z => hn i ds e (by rw [← z]; exact e1))]; exact e3
  · obtain ⟨e1, e2, e3⟩ := r.pd q hm
    exact ⟨e1, by rw [upd_ne (hq q hm)]; exact e2, e3⟩
theorem Rl.free (r : Rl K B Z H σ ρ) {p : Addr} (h : H p = none) : Z p = none ∧ (∀ (i : Nat) (ds : List PyData), ρ[i]? = some (some (.own ds)) → σ[i]? ≠ some (some (.ref p))) := by
  refine ⟨r.zh.free h, fun i ds e z => ?_⟩
  obtain ⟨q, xs, e1, e2, _⟩ := r.own i ds e
  rw [z] at e1; cases e1
  rw [h] at e2; cases e2
theorem Rl.npend (r : Rl K B Z H σ ρ) {p : Addr} (h : H p = none) : ∀ q ∈ B.pend, q.1 ≠ p := fun q hq e => by
  have := (r.pd q hq).1
  rw [e, h] at this; cases this
theorem Rl.bfree (r : Rl K B Z H σ ρ) {p : Addr} (h : H p = none) : B.H p = none := by
  cases q : B.H p with
  | none => rfl
  | some o =>
    by_cases n : ∀ q ∈ B.pins, q.2 ≠ p
    · have := r.kp p o q n
      rw [h] at this; cases this
    · simp only [ne_eq, Classical.not_forall, not_imp, Classical.not_not] at n
      obtain ⟨⟨i, p'⟩, hq, e⟩ := n
      obtain ⟨e1, ds, e2⟩ := r.pin _ hq
      obtain ⟨p2, xs, e3, e4, _⟩ := r.own i ds e2
      rw [e1] at e3; cases e3
      rw [e] at e4; rw [h] at e4; cases e4
/-- a new tuple, a new list as data -/
theorem Rl.newD (r : Rl K B Z H σ ρ) {p : Addr} {o : HO} (h : H p = none) : Rl K B (upd Z p o) (upd H p o) σ ρ ∧ Same Z (upd Z p o) := by
  obtain ⟨h1, h2⟩ := r.free h
  exact ⟨(r.more (o := o) h).take upd_same (.inl (r.bfree h)) h1 (r.npend h) h2, same_upd h1⟩
theorem Rl.newT (r : Rl K B Z H σ ρ) {p : Addr} {xs : List V} {ds : List PyData} (h : H p = none) (hd : DvAll K Z xs ds) : Rl K B (upd Z p (.tup xs)) (upd H p (.tup xs)) σ ρ ∧ Same Z (upd Z p (.tup xs)) ∧ Dv K (upd Z p (.tup xs)) (.ref p) (.tuple ds) := by
  obtain ⟨a, b⟩ := r.newD (o := .tup xs) h
  exact ⟨a, b, .tup (.inl (.inl upd_same)) (hd.up b)⟩
theorem Rl.newL (r : Rl K B Z H σ ρ) {p : Addr} {xs : List V} {ds : List PyData} (h : H p = none) (hd : DvAll K Z xs ds) : Rl K B Z (upd H p (.lst xs)) σ ρ ∧ RR K B Z (upd H p (.lst xs)) σ ρ (.ref p) (.frs ds) := by
  obtain ⟨h1, h2⟩ := r.free h
  exact ⟨r.more h, p, xs, rfl, upd_same, h1, r.bfree h, r.npend h, hd, h2⟩
/-- a new list is data from now on -/
theorem RR.pub {v : V} {x : R} (r : Rl K B Z H σ ρ) (h : RR K B Z H σ ρ v x) : ∃ Z', Rl K B Z' H σ ρ ∧ Same Z Z' ∧ Dv K Z' v x.d := by
  cases x with
  | dat d => exact ⟨Z, r, Same.refl Z, h⟩
  | frs ds =>
    obtain ⟨p, xs, rfl, e1, e2, e3, e6, e4, e5⟩ := h
    have sm : Same Z (upd Z p (.lst xs)) := same_upd e2
    exact ⟨_, r.take e1 (.inl e3) e2 e6 e5, sm, .lst (.inl (.inl upd_same)) (e4.up sm)⟩
end

/-! ## The readings -/
/-- an expression -/
def tD (K : PySem.W.Frag) (pn : List Nat) (f : Env1 → Option (R × Env1)) : TE := fun σ H Q =>
  ∃ B Z ρ r ρ', pnOf B = pn ∧ Rl K B Z H σ ρ ∧ f ρ = some (r, ρ') ∧ ∀ v H' Z', Rl K B Z' H' σ ρ' → Same Z Z' → RR K B Z' H' σ ρ' v r → Q v H'
def DE (X : Cx) (pn : List Nat) (e : Expr) (f : Env1 → Option (R × Env1)) : Prop := PE X e (tD X.K pn f)
/-- a test -/
def tDT (K : PySem.W.Frag) (pn : List Nat) (f : Env1 → Option (R × Env1)) : TT := fun σ H Q =>
  ∃ B Z ρ r ρ' k, pnOf B = pn ∧ Rl K B Z H σ ρ ∧ f ρ = some (r, ρ') ∧ truD r.d = some k ∧ ∀ H' Z', Rl K B Z' H' σ ρ' → Same Z Z' → Q k H'
def DT (X : Cx) (pn : List Nat) (e : Expr) (f : Env1 → Option (R × Env1)) : Prop := PT X e (tDT X.K pn f)
/-- a target whose slots are among S -/
def tDG (K : PySem.W.Frag) (pn : List Nat) (S : List Nat) (f : PyData → Env1 → Option Env1) : TG := fun v σ H Q =>
  ∃ B Z ρ d ρ', pnOf B = pn ∧ Rl K B Z H σ ρ ∧ Dv K Z v d ∧ f d ρ = some ρ' ∧ ∀ σ' H' Z', Rl K B Z' H' σ' ρ' → Same Z Z' → (∀ i, i ∉ S → σ'[i]? = σ[i]?) → σ'.length = σ.length → Q σ' H'
def DG (X : Cx) (pn : List Nat) (S : List Nat) (e : Expr) (f : PyData → Env1 → Option Env1) : Prop := PG X e (tDG X.K pn S f)
/-- a statement -/
def OutP (K : PySem.W.Frag) (B : Bs) (Z : Hp) (D : Ends) : Out → Prop
  | .nx ρ' => ∀ σ' H' Z', Rl K B Z' H' σ' ρ' → Same Z Z' → D.nx σ' H'
  | .bk ρ' => ∀ σ' H' Z', Rl K B Z' H' σ' ρ' → Same Z Z' → D.bk σ' H'
  | .ct ρ' => ∀ σ' H' Z', Rl K B Z' H' σ' ρ' → Same Z Z' → D.ct σ' H'
  | .rt r ρ' => ∀ v σ' H' Z', Rl K B Z' H' σ' ρ' → Same Z Z' → RR K B Z' H' σ' ρ' v r → D.rt v H'
def tDS (K : PySem.W.Frag) (pn : List Nat) (f : Env1 → Option Out) : TS := fun D σ H =>
  ∃ B Z ρ o, pnOf B = pn ∧ Rl K B Z H σ ρ ∧ f ρ = some o ∧ OutP K B Z D o
def DS (X : Cx) (pn : List Nat) (s : Stmt) (f : Env1 → Option Out) : Prop := PS X s (tDS X.K pn f)
def DSs (X : Cx) (pn : List Nat) (s : List Stmt) (f : Env1 → Option Out) : Prop := PSs X s (tDS X.K pn f)

theorem _root_.L2.PE.imp {X : Cx} {e : Expr} {t t' : TE} (h : PE X e t) (q : ∀ σ H Q, t' σ H Q → t σ H Q) : PE X e t' := ⟨fun pins s σ H Q I z => h.run pins s σ H Q I (q σ H Q z)⟩
theorem _root_.L2.PT.imp {X : Cx} {e : Expr} {t t' : TT} (h : PT X e t) (q : ∀ σ H Q, t' σ H Q → t σ H Q) : PT X e t' := ⟨fun pins s σ H Q I z => h.run pins s σ H Q I (q σ H Q z)⟩
theorem _root_.L2.PS.imp {X : Cx} {e : Stmt} {t t' : TS} (h : PS X e t) (q : ∀ D σ H, t' D σ H → t D σ H) : PS X e t' := ⟨fun pins s σ H D I z => h.run pins s σ H D I (q D σ H z)⟩
theorem _root_.L2.PSs.imp {X : Cx} {e : List Stmt} {t t' : TS} (h : PSs X e t) (q : ∀ D σ H, t' D σ H → t D σ H) : PSs X e t' := ⟨fun pins s σ H D I z => h.run pins s σ H D I (q D σ H z)⟩
theorem _root_.L2.PA.imp {X : Cx} {e : List Expr} {t t' : TA} (h : PA X e t) (q : ∀ σ H Q, t' σ H Q → t σ H Q) : PA X e t' := ⟨fun pos pins s σ H Q I z => h.run pos pins s σ H Q I (q σ H Q z)⟩

section
variable {K : PySem.W.Frag} {pn : List Nat} {B : Bs} {Z : Hp} {H : Hp} {σ : L2.St} {ρ ρ' : Env1} {r : R} {f : Env1 → Option (R × Env1)}
theorem tD_r (hp : pnOf B = pn) (rl : Rl K B Z H σ ρ) (e : f ρ = some (r, ρ')) {Q : VK} (q : ∀ v H' Z', Rl K B Z' H' σ ρ' → Same Z Z' → RR K B Z' H' σ ρ' v r → Q v H') : tD K pn f σ H Q := ⟨B, Z, ρ, r, ρ', hp, rl, e, q⟩
theorem tD_d (hp : pnOf B = pn) (rl : Rl K B Z H σ ρ) (e : f ρ = some (r, ρ')) {Q : VK} (q : ∀ v H' Z', Rl K B Z' H' σ ρ' → Same Z Z' → Dv K Z' v r.d → Q v H') : tD K pn f σ H Q := by
  refine ⟨B, Z, ρ, r, ρ', hp, rl, e, fun v H' Z' rl' sm rr => ?_⟩
  obtain ⟨Z2, rl2, sm2, d⟩ := rr.pub rl'
  exact q v H' Z2 rl2 (sm.trans sm2) d
theorem tDT_k (hp : pnOf B = pn) (rl : Rl K B Z H σ ρ) (e : f ρ = some (r, ρ')) {k : Bool} (hk : truD r.d = some k) {Q : Bool → Hp → Prop} (q : ∀ H' Z', Rl K B Z' H' σ ρ' → Same Z Z' → Q k H') : tDT K pn f σ H Q := ⟨B, Z, ρ, r, ρ', k, hp, rl, e, hk, q⟩
end
end Dx

namespace Dx
open PySem PySem.Spec PyProof.Rows L2
theorem set_get {α : Type} {xs : List α} {i j : Nat} {a b : α} (h : (xs.set i a)[j]? = some b) : (j = i ∧ a = b ∧ i < xs.length) ∨ (j ≠ i ∧ xs[j]? = some b) := by
  by_cases e : j = i
  · subst e
    by_cases hl : j < xs.length
    · rw [List.getElem?_set_self hl] at h; cases h; exact .inl ⟨rfl, rfl, hl⟩
    · rw [List.getElem?_eq_none (by simpa using hl)] at h; cases h
  · rw [List.getElem?_set_ne (Ne.symm e)] at h; exact .inr ⟨e, h⟩
section
variable {K : PySem.W.Frag} {B : Bs} {Z Z' H H' : Hp} {σ : L2.St} {ρ ρ' : Env1} {i : Nat}
theorem notpin (hn : i ∉ pnOf B) : ∀ q ∈ B.pins, q.1 ≠ i := fun q hq e => hn (by unfold pnOf; rw [← e]; exact List.mem_map_of_mem hq)
theorem Rl.setDat (r : Rl K B Z H σ ρ) {v : V} {d : PyData} (hi : i < ρ.length) (hn : i ∉ pnOf B) (hd : Dv K Z v d) : Rl K B Z H (σ.set i (some v)) (ρ.set i (some (.dat d))) where
  len := by simp [r.len]
  bz := r.bz
  zh := r.zh
  zn := r.zn
  kp := r.kp
  dat := fun j e h => by
    rcases set_get h with ⟨rfl, q, hl⟩ | ⟨ne, h⟩
    · cases q; exact ⟨v, List.getElem?_set_self (by rw [r.len]; exact hl), hd⟩
    · obtain ⟨w, h1, h2⟩ := r.dat j e h
      exact ⟨w, by rw [List.getElem?_set_ne (Ne.symm ne)]; exact h1, h2⟩
  own := fun j e h => by
    rcases set_get h with ⟨rfl, q, hl⟩ | ⟨ne, h⟩
    · cases q
    · obtain ⟨p, xs, h1, h2⟩ := r.own j e h
      exact ⟨p, xs, by rw [List.getElem?_set_ne (Ne.symm ne)]; exact h1, h2⟩
  apart := fun j k ds es p h1 h2 h3 h4 => by
    rcases set_get h1 with ⟨rfl, q, hl⟩ | ⟨ne, h1⟩
    · cases q
    · rcases set_get h2 with ⟨rfl, q, hl⟩ | ⟨ne2, h2⟩
      · cases q
      · rw [List.getElem?_set_ne (Ne.symm ne)] at h3
        rw [List.getElem?_set_ne (Ne.symm ne2)] at h4
        exact r.apart j k ds es p h1 h2 h3 h4
  pin := fun q hq => by
    obtain ⟨h1, ds, h2⟩ := r.pin q hq
    have ne := notpin hn q hq
    exact ⟨by rw [List.getElem?_set_ne (Ne.symm ne)]; exact h1, ds, by rw [List.getElem?_set_ne (Ne.symm ne)]; exact h2⟩
  pd := fun q hq => by
    obtain ⟨h1, h2, h3⟩ := r.pd q hq
    refine ⟨h1, h2, fun j ds h => ?_⟩
    rcases set_get h with ⟨rfl, z, hl⟩ | ⟨ne, h⟩
    · cases z
    · rw [List.getElem?_set_ne (Ne.symm ne)]; exact h3 j ds h
theorem Rl.setOwn (r : Rl K B Z H σ ρ) {v : V} {ds : List PyData} (hi : i < ρ.length) (hn : i ∉ pnOf B) (hd : RR K B Z H σ ρ v (.frs ds)) : Rl K B Z H (σ.set i (some v)) (ρ.set i (some (.own ds))) := by
  obtain ⟨p, xs, rfl, e1, e2, e3, e6, e4, e5⟩ := hd
  refine ⟨by simp [r.len], r.bz, r.zh, r.zn, r.kp, fun j e h => ?_, fun j e h => ?_, fun j k ds es p' h1 h2 h3 h4 => ?_, fun q hq => ?_, fun q hq => ?_⟩
  · rcases set_get h with ⟨rfl, q, hl⟩ | ⟨ne, h⟩
    · cases q
    · obtain ⟨w, h1, h2⟩ := r.dat j e h
      exact ⟨w, by rw [List.getElem?_set_ne (Ne.symm ne)]; exact h1, h2⟩
  · rcases set_get h with ⟨rfl, q, hl⟩ | ⟨ne, h⟩
    · cases q
      exact ⟨p, xs, List.getElem?_set_self (by rw [r.len]; exact hl), e1, e2, e4, .inr e3⟩
    · obtain ⟨p, xs, h1, h2⟩ := r.own j e h
      exact ⟨p, xs, by rw [List.getElem?_set_ne (Ne.symm ne)]; exact h1, h2⟩
  · rcases set_get h1 with ⟨rfl, q, hl⟩ | ⟨ne, g1⟩
    · rcases set_get h2 with ⟨rfl, q2, hl2⟩ | ⟨ne2, g2⟩
      · rfl
      · rw [List.getElem?_set_self (by rw [r.len]; exact hl)] at h3; cases h3
        rw [List.getElem?_set_ne (Ne.symm ne2)] at h4
        exact absurd h4 (e5 _ _ g2)
    · rw [List.getElem?_set_ne (Ne.symm ne)] at h3
      rcases set_get h2 with ⟨rfl, q, hl⟩ | ⟨ne2, g2⟩
      · rw [List.getElem?_set_self (by rw [r.len]; exact hl)] at h4; cases h4
        exact absurd h3 (e5 _ _ g1)
      · rw [List.getElem?_set_ne (Ne.symm ne2)] at h4
        exact r.apart j k ds es p' g1 g2 h3 h4
  · obtain ⟨h1, ds, h2⟩ := r.pin q hq
    have ne := notpin hn q hq
    exact ⟨by rw [List.getElem?_set_ne (Ne.symm ne)]; exact h1, ds, by rw [List.getElem?_set_ne (Ne.symm ne)]; exact h2⟩
  · obtain ⟨h1, h2, h3⟩ := r.pd q hq
    refine ⟨h1, h2, fun j ds h => ?_⟩
    rcases set_get h with ⟨rfl, z, hl⟩ | ⟨ne, h⟩
    · rw [List.getElem?_set_self (by rw [r.len]; exact hl)]
      intro z; cases z
      exact e6 q hq rfl
    · rw [List.getElem?_set_ne (Ne.symm ne)]; exact h3 j ds h
theorem Rl.clear (r : Rl K B Z H σ ρ) (hn : i ∉ pnOf B) : Rl K B Z H σ (ρ.set i none) := by
  have no : ∀ {j : Nat} {x : Sl}, (ρ.set i none)[j]? = some (some x) → j ≠ i ∧ ρ[j]? = some (some x) := fun {j x} h => by
    rcases set_get h with ⟨_, q, _⟩ | ⟨ne, h⟩
    · cases q
    · exact ⟨ne, h⟩
  refine ⟨by simp [r.len], r.bz, r.zh, r.zn, r.kp, fun j e h => r.dat j e (no h).2, fun j e h => r.own j e (no h).2, fun j k ds es p' h1 h2 h3 h4 => r.apart j k ds es p' (no h1).2 (no h2).2 h3 h4, fun q hq => ?_, fun q hq => ?_⟩
  · obtain ⟨a, ds, b⟩ := r.pin q hq
    exact ⟨a, ds, by rw [List.getElem?_set_ne (Ne.symm (notpin hn q hq))]; exact b⟩
  · obtain ⟨a, b, c⟩ := r.pd q hq
    exact ⟨a, b, fun j ds h => c j ds (no h).2⟩
theorem Rl.know (r : Rl K B Z H σ ρ) {v : V} {d : PyData} (hs : σ[i]? = some (some v)) (hd : Dv K Z v d) (hn : i ∉ pnOf B) : Rl K B Z H σ (ρ.set i (some (.dat d))) := by
  have no : ∀ {j : Nat} {x : List PyData}, (ρ.set i (some (.dat d)))[j]? = some (some (.own x)) → j ≠ i ∧ ρ[j]? = some (some (.own x)) := fun {j x} h => by
    rcases set_get h with ⟨_, q, _⟩ | ⟨ne, h⟩
    · cases q
    · exact ⟨ne, h⟩
  refine ⟨by simp [r.len], r.bz, r.zh, r.zn, r.kp, fun j e h => ?_, fun j e h => r.own j e (no h).2, fun j k ds es p' h1 h2 h3 h4 => r.apart j k ds es p' (no h1).2 (no h2).2 h3 h4, fun q hq => ?_, fun q hq => ?_⟩
  · rcases set_get h with ⟨rfl, q, _⟩ | ⟨ne, h⟩
    · cases q; exact ⟨v, hs, hd⟩
    · exact r.dat j e h
  · obtain ⟨a, ds, b⟩ := r.pin q hq
    exact ⟨a, ds, by rw [List.getElem?_set_ne (Ne.symm (notpin hn q hq))]; exact b⟩
  · obtain ⟨a, b, c⟩ := r.pd q hq
    exact ⟨a, b, fun j ds h => c j ds (no h).2⟩
/-- a slot gives its list out: a new list, the slot is empty -/
theorem Rl.give0 (r : Rl K B Z H σ ρ) {ds : List PyData} (ho : ρ[i]? = some (some (.own ds))) (hn : i ∉ pnOf B) : ∃ v, σ[i]? = some (some v) ∧ Rl K B Z H σ (ρ.set i none) ∧ RR K B Z H σ (ρ.set i none) v (.frs ds) := by
  obtain ⟨p, xs, h1, h2, h3, h4, h5⟩ := r.own i ds ho
  have h5 : B.H p = none := h5.resolve_left fun z => hn (by unfold pnOf; exact List.mem_map_of_mem (f := (·.1)) z)
  refine ⟨_, h1, r.clear hn, p, xs, rfl, h2, h3, h5, fun q hq e => (r.pd q hq).2.2 i ds ho (by rw [h1, e]), h4, fun j es h e => ?_⟩
  rcases set_get h with ⟨_, q, _⟩ | ⟨ne, h⟩
  · cases q
  · exact ne (r.apart j i es ds p h ho e h1)
theorem Rl.give (r : Rl K B Z H σ ρ) {ds : List PyData} (ho : ρ[i]? = some (some (.own ds))) (hn : i ∉ pnOf B) : ∃ v Z', σ[i]? = some (some v) ∧ Rl K B Z' H σ (ρ.set i (some (.dat (.list ds)))) ∧ Same Z Z' ∧ Dv K Z' v (.list ds) := by
  obtain ⟨v, h1, r1, rr⟩ := r.give0 ho hn
  obtain ⟨Z', r2, sm, hd⟩ := rr.pub r1
  refine ⟨v, Z', h1, ?_, sm, hd⟩
  have := r2.know (i := i) h1 hd hn
  rwa [List.set_set] at this
/-- a slot's own list is changed -/
theorem Rl.turn (r : Rl K B Z H σ ρ) {p : Addr} {ds es : List PyData} {ys : List V} (ho : ρ[i]? = some (some (.own ds))) (hs : σ[i]? = some (some (.ref p))) (hd : DvAll K Z ys es) : Rl K B Z (upd H p (.lst ys)) σ (ρ.set i (some (.own es))) := by
  obtain ⟨p', xs, h1, h2, h3, h4, h5⟩ := r.own i ds ho
  rw [hs] at h1; cases h1
  have hl : i < ρ.length := (List.getElem?_eq_some_iff.mp ho).1
  have nz : ∀ b o, Z b = some o → b ≠ p := fun b o e z => by rw [z, h3] at e; cases e
  refine ⟨by simp [r.len], r.bz, fun b o e => by rw [upd_ne (nz b o e)]; exact r.zh b o e, r.zn, fun b o e n => ?_, fun j e h => ?_, fun j e h => ?_, fun j k ds' es' p' h1 h2 h3 h4 => ?_, fun q hq => ?_, fun q hq => ?_⟩
  · have ne : b ≠ p := fun z => by
      rcases h5 with h5 | h5
      · exact n _ h5 z.symm
      · rw [← z, e] at h5; cases h5
    rw [upd_ne ne]; exact r.kp b o e n
  · rcases set_get h with ⟨_, q, _⟩ | ⟨ne, h⟩
    · cases q
    · exact r.dat j e h
  · rcases set_get h with ⟨rfl, q, _⟩ | ⟨ne, h⟩
    · cases q; exact ⟨p, ys, hs, upd_same, h3, hd, h5⟩
    · obtain ⟨p2, xs2, a1, a2, a3, a4, a5⟩ := r.own j e h
      have : p2 ≠ p := fun z => ne (r.apart j i e ds p h ho (by rw [a1, z]) hs)
      exact ⟨p2, xs2, a1, by rw [upd_ne this]; exact a2, a3, a4, a5⟩
  · have back : ∀ {j : Nat} {x : List PyData}, (ρ.set i (some (.own es)))[j]? = some (some (.own x)) → ∃ y, ρ[j]? = some (some (.own y)) := fun {j x} h => by
      rcases set_get h with ⟨rfl, q, _⟩ | ⟨ne, h⟩
      · exact ⟨_, ho⟩
      · exact ⟨_, h⟩
    obtain ⟨_, h1⟩ := back h1
    obtain ⟨_, h2⟩ := back h2
    exact r.apart j k _ _ p' h1 h2 h3 h4
  · obtain ⟨a, ds2, b⟩ := r.pin q hq
    by_cases e : q.1 = i
    · exact ⟨a, es, by rw [e, List.getElem?_set_self hl]⟩
    · exact ⟨a, ds2, by rw [List.getElem?_set_ne (Ne.symm e)]; exact b⟩
  · obtain ⟨a, b, c⟩ := r.pd q hq
    have ne : q.1 ≠ p := fun z => c i ds ho (by rw [hs, z])
    refine ⟨by rw [upd_ne ne]; exact a, b, fun j ds' h => ?_⟩
    rcases set_get h with ⟨rfl, z, _⟩ | ⟨ne2, h⟩
    · rw [hs]; intro z; cases z; exact ne rfl
    · exact c j ds' h
end
end Dx

namespace Dx
open PySem PySem.Spec PyProof.Rows L2
/-! ## Rules chosen by what the values are -/
def rAny (X : Cx) (f : Value → Value → Sem Value) : R2 := fun x y H Q => ∃ r : R2, OpR X f r ∧ r x y H Q
theorem op_any (X : Cx) (f : Value → Value → Sem Value) : OpR X f (rAny X f) := fun pins s σ H x y v u Q I rx ry ⟨r, h, q⟩ => h pins s σ H x y v u Q I rx ry q
def uAny (X : Cx) (f : Value → Sem Value) : V → Hp → VK → Prop := fun x H Q => ∃ r : V → Hp → VK → Prop, UnR X f r ∧ r x H Q
theorem un_any (X : Cx) (f : Value → Sem Value) : UnR X f (uAny X f) := fun pins s σ H x v Q I rx ⟨r, h, q⟩ => h pins s σ H x v Q I rx q
def cAny (X : Cx) (f : Value) : List V → Hp → VK → Prop := fun xs H Q => ∃ r : List V → Hp → VK → Prop, CallR X f r ∧ r xs H Q
theorem call_any (X : Cx) (f : Value) : CallR X f (cAny X f) := fun pins s σ H xs us Q I rx ⟨r, h, q⟩ => h pins s σ H xs us Q I rx q
def ixAny (X : Cx) : R2 := fun x y H Q => ∃ r : R2, IxR X r ∧ r x y H Q
theorem ix_any (X : Cx) : IxR X (ixAny X) := fun value slice pins s σ H x y v u Q I rx ry ⟨r, h, q⟩ hs => h value slice pins s σ H x y v u Q I rx ry q hs
def slAny (X : Cx) : V → Option Int → Option Int → Hp → VK → Prop := fun x lo hi H Q => ∃ r : V → Option Int → Option Int → Hp → VK → Prop, SlR X r ∧ r x lo hi H Q
theorem sl_any (X : Cx) : SlR X (slAny X) := fun pins s σ H x v vl vu lo hi sl Q I rx hs pl pu ⟨r, h, q⟩ => h pins s σ H x v vl vu lo hi sl Q I rx hs pl pu q

/-! ## The context -/
structure GRoom (k : Nat) (A : Around) : Prop where
  room : Room k A
  gd : A.guards = some []
theorem GRoom.mono {j k : Nat} {A : Around} (r : GRoom k A) (h : j ≤ k) : GRoom j A := ⟨r.room.mono h, r.gd⟩
theorem GRoom.deeper {k : Nat} {A : Around} (r : GRoom (k + 1) A) (env : Env) : GRoom k (A.deeper env) := ⟨r.room.deeper env, by
  have h := r.gd
  show (A.deeper env).guards = some []
  first | exact h | simpa [Around.deeper] using h⟩

/-- what a def promises, at the data -/
def spR (K : PySem.W.Frag) (g : Gf) : Sp := fun vs H Q _ => vs.length = g.kinds.length ∧ ∃ (B : Bs) (args out : List Sl) (r : R), B.H = H ∧ B.pend = [] ∧ pnOf B = ownsAt args 0 ∧
  Rl K B B.Z H (vs.map some) (args.map some) ∧ g.f args = some (r, out) ∧
  ∀ v H' Z', Rl K B Z' H' (vs.map some) (out.map some) → Same B.Z Z' → RR K B Z' H' (vs.map some) (out.map some) v r → Q v H'
structure Ct (P : Program) (w : World) (K : PySem.W.Frag) (mg : Str → Option Value) (base : Heap) (k : Nat) (f : Addr) (fd : FuncData) (ps : List Str) (sp : Sp) : Prop where
  run : ∀ (A : Around) (outer : List Env) (s : Shared) (H : Hp) (args : Args) (us : List Value) (vs : List V) (Q : VK), GRoom k A → Env0 P w K mg base A outer s H → BindsTo s fd args (ps.zip us) → Vals vs us → sp vs H Q E0 →
    codeAny (model P w) A (.call (.ref f) args) (CR CX0 outer P w H s Q E0) s
theorem Ct.mono {P : Program} {w : World} {K : PySem.W.Frag} {mg : Str → Option Value} {base : Heap} {j k : Nat} {f : Addr} {fd : FuncData} {ps : List Str} {sp : Sp} (F : Ct P w K mg base j f fd ps sp) (h : j ≤ k) : Ct P w K mg base k f fd ps sp :=
  ⟨fun A outer s H args us vs Q hr => F.run A outer s H args us vs Q (hr.mono h)⟩

def bltNames : List Str := ["len", "abs", "int", "max", "min", "all", "any", "sum", "list", "tuple", "range", "enumerate", "zip", "isinstance", "bool", "str", "repr", "divmod", "sorted", "dict"]
/-- how a call by keywords alone binds: ks the keywords, pm the parameters' places among them -/
def KB (K : PySem.W.Frag) (fd : FuncData) (ps ks : List Str) (pm : List Nat) : Prop := ks.length = pm.length ∧ ps.length = pm.length ∧ (∀ i ∈ pm, i < ks.length) ∧ ∀ (s : Shared) (ws : List Value), K.In s.heap → ws.length = ks.length → BindsTo s fd ⟨[], ks.zip ws⟩ (ps.zip (pm.map fun i => ws.getD i .none))
structure Gd (G : Gx) (N : List Str) (k : Nat) (X : Cx) : Prop where
  hN : X.N = N
  nd : N.Nodup
  calm : X.calm = true
  room : GRoom k X.A
  fns : ∀ f g, G.fns f = some g → ∃ (fa : Addr) (fd : FuncData) (ps : List Str), X.mg f = some (.ref fa) ∧ PySem.W.keepIn X.K (.ref fa) = true ∧ ps.length = g.kinds.length ∧ Binds X.K fd ps [] ∧ Ct X.prog X.w X.K X.mg X.base k fa fd ps (spR X.K g) ∧ ∀ ks pm, (f, ks, pm) ∈ G.kw → KB X.K fd ps ks pm
  cons : ∀ x d, G.cons x = some d → ∃ (v : V) (u : Value), X.mg x = some u ∧ RelV v u ∧ ∀ Z, Dv X.K Z v d
  blt : ∀ x ∈ bltNames, X.mg x = none
  never : PassesOwn (model X.prog X.w) X.A X.env X.xe
section
variable {G : Gx} {N : List Str} {k : Nat} {X : Cx}
theorem Gd.un (g : Gd G N k X) : X.A.units + 66 < cLine := by have := g.room.room.un; omega
theorem Gd.nd' (g : Gd G N k X) : X.N.Nodup := by rw [g.hN]; exact g.nd
theorem Gd.mg (g : Gd G N k X) {x : Str} (h : bltNames.contains x = true) : X.mg x = none := g.blt x (by simpa using h)

/-! ## Operators -/
variable {B : Bs} {Z H : Hp} {σ : L2.St} {ρ : Env1} {x y : V} {d e : PyData} {r : R} {Q : VK}
theorem RR.datI (d : PyData) {v : V} {Z H : Hp} (h : Dv X.K Z v d) : RR X.K B Z H σ ρ v (.dat d) := h
theorem small_log {i : Int} (h : small i = true) : i.natAbs.log2 < 4000 := PySem.Flt.log2_lt_of (by decide) (of_decide_eq_true h)
/-- reads from the data -/
theorem Dv.reads {pins : List (Addr × Obj)} {s : Shared} {σ' : L2.St} (I : Inv X pins σ' H s) (zh : Same Z H) {d : PyData} {v : V} {u : Value} (p : d.plain = true) (h : Dv X.K Z v d) (r : RelV v u) : ∃ as, Reads s.heap u d as :=
  L2.Dp.reads I d v u (Dv.dp d v p (h.up zh)) r
theorem okD_plain {d : PyData} (h : okD d = true) : d.plain = true := (Bool.and_eq_true_iff.mp h).1
theorem okD_depth {d : PyData} (h : okD d = true) : d.depth ≤ 64 := of_decide_eq_true (Bool.and_eq_true_iff.mp h).2
theorem op_eqP (hu : X.A.units + 64 < cLine) (d e : PyData) (hd : okD d = true) (he : okD e = true) : OpR X (compareOp .Eq) (fun x y H Q => Dv X.K H x d ∧ Dv X.K H y e ∧ Q (.bl (PyData.eqv d e)) H) := by
  intro pins s σ H x y v u Q I rx ry ⟨h1, h2, q⟩
  obtain ⟨as, r1⟩ := Dv.reads I (Same.refl H) (okD_plain hd) h1 rx
  obtain ⟨bs, r2⟩ := Dv.reads I (Same.refl H) (okD_plain he) h2 ry
  exact PySem.SeqAt.eq_plain r1 r2 (okD_plain hd) (okD_plain he) (by have := okD_depth hd; omega) ⟨.bl _, H, I, rfl, q⟩
theorem op_neP (hu : X.A.units + 64 < cLine) (d e : PyData) (hd : okD d = true) (he : okD e = true) : OpR X (compareOp .NotEq) (fun x y H Q => Dv X.K H x d ∧ Dv X.K H y e ∧ Q (.bl (!PyData.eqv d e)) H) := by
  intro pins s σ H x y v u Q I rx ry ⟨h1, h2, q⟩
  obtain ⟨as, r1⟩ := Dv.reads I (Same.refl H) (okD_plain hd) h1 rx
  obtain ⟨bs, r2⟩ := Dv.reads I (Same.refl H) (okD_plain he) h2 ry
  exact PySem.SeqAt.ne_plain r1 r2 (okD_plain hd) (okD_plain he) (by have := okD_depth hd; omega) ⟨.bl _, H, I, rfl, q⟩
end
end Dx

namespace Dx
open PySem PySem.Spec PyProof.Rows L2
/-- t * 1, () * k are the tuple itself -/
theorem tup_once (l : Addr) (items : Array Value) (n : Nat) (dd : Option Addr) (sl : Array (Option Value)) (x : Int) (u : Tok) (c0 : (decide (x < -(2 ^ 63)) || decide (x ≥ 2 ^ 63)) = false) (c1 : (items.isEmpty || x == 1) = true) :
    Meets (Builtin.«tuple.__mul__» ⟨[.ref l, .int x u], []⟩) (fun _ R s => s.heap.get? l = some { cls := .type "tuple", dict := dd, data := .seq items n, slots := sl } ∧ R (.ok (.ret (Value.ref l))) s) :=
  .of_wp fun prog w A R s h => by
    obtain ⟨hp, gg, d, tk, os⟩ := s
    obtain ⟨hl, h⟩ := h
    have f1 := AutoSeq1.idx_int
    wp_walk using wpAny_loadPart' hl
    repeat (first
      | (refine wpAny_ite_false (decide_eq_false (by rw [c0]; exact Bool.false_ne_true)) ?_; wp_walk using wpAny_loadPart' hl)
      | (refine wpAny_ite_true (decide_eq_true c1) ?_; wp_walk using wpAny_loadPart' hl))
    exact ⟨_, rfl, h⟩
/-- t * 0 is a new tuple without items -/
theorem tup_zero (l : Addr) (items : Array Value) (n : Nat) (dd : Option Addr) (sl : Array (Option Value)) (u : Tok) (c1 : (items.isEmpty || (0 : Int) == 1) = false) :
    Meets (Builtin.«tuple.__mul__» ⟨[.ref l, .int 0 u], []⟩) (fun _ R s => s.heap.get? l = some { cls := .type "tuple", dict := dd, data := .seq items n, slots := sl } ∧
      R (.ok (.ret (Value.ref s.heap.objs.size))) { s with heap := s.heap.push { cls := Value.type "tuple", data := Data.seq #[] }, toks := s.toks }) :=
  .of_wp fun prog w A R s h => by
    obtain ⟨hp, gg, d, tk, os⟩ := s
    obtain ⟨hl, h⟩ := h
    have f1 := AutoSeq1.idx_int
    wp_walk using wpAny_loadPart' hl
    repeat (first
      | (refine wpAny_ite_false (decide_eq_false (by rw [c1]; exact Bool.false_ne_true)) ?_; wp_walk using wpAny_loadPart' hl))
    exact ⟨_, rfl, h⟩
section
variable {X : Cx}
theorem tupMulWay {H : Hp} {pins : List (Addr × Obj)} {s : Shared} {σ : L2.St} {l : Addr} {xs : List V} (I : Inv X pins σ H s) (hT : SqT X.K H l xs) (k : Int) (t : Tok) {Q : Value → Shared → Prop}
    (way : ∀ (items : Array Value) (n : Nat) (dd : Option Addr) (sl : Array (Option Value)), items.isEmpty = xs.isEmpty →
      s.heap.get? l = some { cls := .type "tuple", dict := dd, data := .seq items n, slots := sl } →
      wpAny (model X.prog X.w) X.A (call (.builtin "tuple.__mul__") [.ref l, .int k t]) Q X.xe s) : wpAny (model X.prog X.w) X.A (binaryOp .Mult (.ref l) (.int k t)) Q X.xe s := by
  obtain ⟨its, r, ⟨⟨cls, dd, data, sl⟩, ho, hc, n, hd⟩, hs⟩ := I.tuple hT
  simp only at hc hd
  subst hc hd
  have he : its.toArray.isEmpty = xs.isEmpty := by cases r <;> rfl
  exact wpAny_binaryOp_repeat_ref (T := "tuple") (U := "int") (by decide) ⟨_, ho, rfl⟩ (fun s' => typeIs_int s' k t) noFill_tuple_mul F.fills_int_mul F.slot_int_rmul repeat_tuple F.slot_int_index.lookup
    (call_meets F.slot_int_rmul (typeIs_int s k t) F.entry_int_rmul (F.args_int_rmul_2 _ _) (int_rmul_tuple k t l its.toArray n dd sl) ⟨ho, rfl, ⟨_, ho, rfl⟩, way its.toArray n dd sl he ho⟩)
theorem op_tup1 : OpR X (binaryOp .Mult) (fun x y H Q => ∃ l xs k, x = .ref l ∧ y = .int k ∧ SqT X.K H l xs ∧ (xs = [] ∨ k = 1) ∧ 0 ≤ k ∧ k ≤ 1000 ∧ Q (.ref l) H) := by
  intro pins s σ H x y v u Q I rx ry ⟨l, xs, k, e1, e2, hT, hk, k0, k1, q⟩
  subst e1 e2
  cases rx
  obtain ⟨t, rfl⟩ := ry
  refine tupMulWay I hT k t fun items n dd sl he ho => ?_
  have c0 : (decide (k < -(2 ^ 63)) || decide (k ≥ 2 ^ 63)) = false := by
    rw [decide_eq_false (by omega), decide_eq_false (by omega)] <;> rfl
  have c1 : (items.isEmpty || k == 1) = true := by
    rcases hk with hk | hk
    · rw [he, hk]; rfl
    · rw [hk]; simp
  exact call_meets F.slot_tuple_mul ⟨_, ho, rfl⟩ F.entry_tuple_mul (F.args_tuple_mul_2 _ _) (tup_once l items n dd sl k t c0 c1) ⟨ho, ⟨.ref l, H, I, rfl, q⟩⟩
theorem op_tup0 : OpR X (binaryOp .Mult) (fun x y H Q => ∃ l xs, x = .ref l ∧ y = .int 0 ∧ SqT X.K H l xs ∧ xs ≠ [] ∧ ∀ p, H p = none → Q (.ref p) (upd H p (.tup []))) := by
  intro pins s σ H x y v u Q I rx ry ⟨l, xs, e1, e2, hT, hk, q⟩
  subst e1 e2
  cases rx
  obtain ⟨t, rfl⟩ := ry
  refine tupMulWay I hT 0 t fun items n dd sl he ho => ?_
  have c1 : (items.isEmpty || (0 : Int) == 1) = false := by
    rw [he]; cases xs with
    | nil => exact absurd rfl hk
    | cons a b => rfl
  refine call_meets F.slot_tuple_mul ⟨_, ho, rfl⟩ F.entry_tuple_mul (F.args_tuple_mul_2 _ _) (tup_zero l items n dd sl t c1) ⟨ho, ?_⟩
  refine ⟨.ref s.heap.objs.size, _, I.laid (t' := s.toks) (o := .tup []) (fun b ob q => Heap.get?_push_of_some _ q) (Nat.le_refl _) ?_, rfl, q _ (I.hok.fresh (Nat.le_refl _))⟩
  exact ⟨Nat.zero_le _, [], .nil, IsTup.new _ _⟩
end
end Dx

namespace Dx
open PySem PySem.Spec PyProof.Rows L2
section
variable {G : Gx} {N : List Str} {k : Nat} {X : Cx} {B : Bs} {Z H : Hp} {σ : L2.St} {ρ : Env1} {x y : V} {d e : PyData} {r : R} {Q : VK}
/-- list + list, whoever holds them -/
theorem op_catR : OpR X (binaryOp .Add) (fun x y H Q => ∃ l b xs zs, x = .ref l ∧ y = .ref b ∧ SqL X.K H l xs ∧ SqL X.K H b zs ∧ xs.length + zs.length ≤ sizeLine ∧ ∀ p, H p = none → Q (.ref p) (upd H p (.lst (xs ++ zs)))) := by
  intro pins s σ H x y v u Q I rx ry ⟨l, b, xs, zs, e1, e2, h1, h2, hz, q⟩
  subst e1 e2
  cases rx; cases ry
  obtain ⟨its, r, ⟨⟨c1, d1, t1, s1⟩, n, e, k1, k2, k3⟩, _⟩ := I.list h1
  obtain ⟨its2, r2, ⟨⟨c2, d2, t2, s2⟩, n2, e2, k4, k5, k6⟩, _⟩ := I.list h2
  simp only at k1 k2 k3 k4 k5 k6
  subst k1 k3 k4 k6
  have l1 := r.length
  have l2 := r2.length
  have ea : its.toArray ++ its2.toArray = (its ++ its2).toArray := by simp
  refine concat_meets ⟨_, e, rfl⟩ ⟨_, e2, rfl⟩ noFill_list_add seq_list_add PySem.F.slot_list_add PySem.F.entry_list_add (PySem.F.args_list_add_2 _ _) (list_addW l b its.toArray its2.toArray n n2 d1 d2 s1 s2 (by rw [List.size_toArray, List.size_toArray]; omega)) ⟨e, e2, ?_⟩
  rw [ea]
  exact ⟨.ref _, _, I.lnew (t' := s.toks) (r.append r2) (by rw [List.length_append]; omega), rfl, q _ I.fresh⟩
/-- an operator on two data -/
theorem bin_ok (g : Gd G N k X) {op : Operator} (hb : binD op d e = some r) (rl : Rl X.K B Z H σ ρ) (h1 : Dv X.K Z x d) (h2 : Dv X.K Z y e)
    (q : ∀ v H' Z', Rl X.K B Z' H' σ ρ → Same Z Z' → RR X.K B Z' H' σ ρ v r → Q v H') : rAny X (binaryOp op) x y H Q := by
  unfold binD at hb
  split at hb
  case h_1 i j => cases h1; cases h2; cases hb; exact ⟨_, op_add, _, _, rfl, rfl, q _ _ _ rl (Same.refl _) (.int _)⟩
  case h_2 i j => cases h1; cases h2; cases hb; exact ⟨_, op_sub, _, _, rfl, rfl, q _ _ _ rl (Same.refl _) (.int _)⟩
  case h_3 i j =>
    split at hb
    · rename_i c
      obtain ⟨c1, c2⟩ := Bool.and_eq_true_iff.mp c
      cases h1; cases h2; cases hb
      exact ⟨_, op_mulW, _, _, rfl, rfl, (by have := small_log c1; have := small_log c2; unfold CMulW; omega), q _ _ _ rl (Same.refl _) (.int _)⟩
    · cases hb
  case h_4 i j =>
    split at hb
    · rename_i c
      obtain ⟨c1, c2⟩ := Bool.and_eq_true_iff.mp c
      cases h1; cases h2; cases hb
      exact ⟨_, op_fdivW, _, _, rfl, rfl, ⟨of_decide_eq_true c1, by have := small_log c2; omega⟩, q _ _ _ rl (Same.refl _) (.int _)⟩
    · cases hb
  case h_5 i j =>
    split at hb
    · rename_i c
      cases h1; cases h2; cases hb
      exact ⟨_, op_mod, _, _, rfl, rfl, c, q _ _ _ rl (Same.refl _) (.int _)⟩
    · cases hb
  case h_6 i j =>
    split at hb
    · rename_i c
      obtain ⟨c1, c2, c3⟩ := c
      cases h1; cases h2; cases hb
      exact ⟨_, op_pow, _, _, rfl, rfl, ⟨c1, by omega, Nat.lt_trans c3 (by decide)⟩, q _ _ _ rl (Same.refl _) (.int _)⟩
    · cases hb
  case h_7 xs ys =>
    split at hb
    · rename_i c
      cases h1 with | lst a1 b1 =>
      cases h2 with | lst a2 b2 =>
      cases hb
      refine ⟨_, op_catR, _, _, _, _, rfl, rfl, Same.seq rl.zh a1, Same.seq rl.zh a2, by rw [b1.len, b2.len]; exact c, fun p hp => ?_⟩
      obtain ⟨r1, r2⟩ := rl.newL hp (b1.append b2)
      exact q _ _ _ r1 (Same.refl _) r2
    · cases hb
  case h_8 xs ys =>
    split at hb
    · rename_i c
      cases h1 with | @tup a1 vs1 _ t1 b1 =>
      cases h2 with | @tup a2 vs2 _ t2 b2 =>
      cases hb
      refine ⟨_, op_catA, _, _, _, _, rfl, rfl, sameT rl.zh t1, sameT rl.zh t2, by rw [b1.len, b2.len]; exact c, fun en => ?_, fun en em => ?_, fun en em p hp => ?_⟩
      · subst en; cases b1
        exact q _ _ _ rl (Same.refl _) (.tup t2 b2)
      · subst em; cases b2
        rw [List.append_nil] at q
        exact q _ _ _ rl (Same.refl _) (.tup t1 b1)
      · obtain ⟨r1, r2, r3⟩ := rl.newT hp (b1.append b2)
        exact q _ _ _ r1 r2 r3
    · cases hb
  case h_9 xs m =>
    split at hb
    · rename_i c
      obtain ⟨c2, c3, c4⟩ := c
      cases h1 with | @tup a1 vs1 _ t1 b1 =>
      cases h2
      cases hb
      by_cases hm : vs1 = [] ∨ m = 1
      · refine ⟨_, op_tup1, _, _, _, rfl, rfl, sameT rl.zh t1, hm, c2, c3, ?_⟩
        have : (List.replicate m.toNat xs).flatten = xs := by
          rcases hm with hm | hm
          · subst hm; cases b1; simp
          · subst hm; simp
        rw [this] at q
        exact q _ _ _ rl (Same.refl _) (.tup t1 b1)
      · have hne : vs1 ≠ [] := fun z => hm (.inl z)
        by_cases h0 : m = 0
        · subst h0
          refine ⟨_, op_tup0, _, _, rfl, rfl, sameT rl.zh t1, hne, fun p hp => ?_⟩
          obtain ⟨r1, r2, r3⟩ := rl.newT hp (.nil : DvAll X.K Z [] [])
          exact q _ _ _ r1 r2 r3
        · refine ⟨_, op_repT, _, _, _, rfl, rfl, sameT rl.zh t1, hne, by have : m ≠ 1 := fun z => hm (.inr z); omega, c3, by rw [b1.len]; exact c4, fun p hp => ?_⟩
          obtain ⟨r1, r2, r3⟩ := rl.newT hp (b1.rep m.toNat)
          exact q _ _ _ r1 r2 r3
    · cases hb
  case h_10 => cases hb
/-- a comparison of two data -/
theorem cmp_ok (g : Gd G N k X) {op : CmpOp} {b : Bool} (hb : cmpD op d e = some b) (zh : Same Z H) (h1 : Dv X.K Z x d) (h2 : Dv X.K Z y e) (q : Q (.bl b) H) : rAny X (compareOp op) x y H Q := by
  have hu : X.A.units + 64 < cLine := by have := g.un; omega
  unfold cmpD at hb
  split at hb
  · split at hb
    · rename_i c
      obtain ⟨c1, c2⟩ := Bool.and_eq_true_iff.mp c
      cases hb
      exact ⟨_, op_eqP hu _ _ c1 c2, h1.up zh, h2.up zh, q⟩
    · cases hb
  · split at hb
    · rename_i c
      obtain ⟨c1, c2⟩ := Bool.and_eq_true_iff.mp c
      cases hb
      exact ⟨_, op_neP hu _ _ c1 c2, h1.up zh, h2.up zh, q⟩
    · cases hb
  · cases h1; cases h2; cases hb; exact ⟨_, op_lt, _, _, rfl, rfl, q⟩
  · cases h1; cases h2; cases hb; exact ⟨_, op_le, _, _, rfl, rfl, q⟩
  · cases h1; cases h2; cases hb; exact ⟨_, op_gt, _, _, rfl, rfl, q⟩
  · cases h1; cases h2; cases hb; exact ⟨_, op_ge, _, _, rfl, rfl, q⟩
  · split at hb
    · rename_i c
      obtain ⟨c1, c2⟩ := Bool.and_eq_true_iff.mp c
      cases hb
      refine ⟨fun x y H Q => Dv X.K H x d ∧ Dv X.K H y _ ∧ Q (.bl _) H, ?_, h1.up zh, h2.up zh, q⟩
      intro pins s σ H x y v u Q I rx ry ⟨h1, h2, q⟩
      obtain ⟨as, r1⟩ := Dv.reads I (Same.refl H) (okD_plain c1) h1 rx
      obtain ⟨bs, r2⟩ := Dv.reads I (Same.refl H) (okD_plain c2) h2 ry
      exact PySem.SeqAt.in_list_data r2 r1 (okD_plain c2) (okD_plain c1) (by have := okD_depth c1; have := g.un; omega) ⟨.bl _, H, I, rfl, q⟩
    · cases hb
  · split at hb
    · rename_i c
      obtain ⟨c1, c2⟩ := Bool.and_eq_true_iff.mp c
      cases hb
      refine ⟨fun x y H Q => Dv X.K H x d ∧ Dv X.K H y _ ∧ Q (.bl _) H, ?_, h1.up zh, h2.up zh, q⟩
      intro pins s σ H x y v u Q I rx ry ⟨h1, h2, q⟩
      obtain ⟨as, r1⟩ := Dv.reads I (Same.refl H) (okD_plain c1) h1 rx
      obtain ⟨bs, r2⟩ := Dv.reads I (Same.refl H) (okD_plain c2) h2 ry
      exact PySem.SeqAt.notIn_list_data r2 r1 (okD_plain c2) (okD_plain c1) (by have := okD_depth c1; have := g.un; omega) ⟨.bl _, H, I, rfl, q⟩
    · cases hb
  · split at hb
    · rename_i c
      obtain ⟨c1, c2⟩ := Bool.and_eq_true_iff.mp c
      cases hb
      refine ⟨fun x y H Q => Dv X.K H x d ∧ Dv X.K H y _ ∧ Q (.bl _) H, ?_, h1.up zh, h2.up zh, q⟩
      intro pins s σ H x y v u Q I rx ry ⟨h1, h2, q⟩
      obtain ⟨as, r1⟩ := Dv.reads I (Same.refl H) (okD_plain c1) h1 rx
      obtain ⟨bs, r2⟩ := Dv.reads I (Same.refl H) (okD_plain c2) h2 ry
      exact PySem.SeqAt.in_tuple_data r2 r1 (okD_plain c2) (okD_plain c1) (by have := okD_depth c1; have := g.un; omega) ⟨.bl _, H, I, rfl, q⟩
    · cases hb
  · split at hb
    · rename_i c
      obtain ⟨c1, c2⟩ := Bool.and_eq_true_iff.mp c
      cases hb
      refine ⟨fun x y H Q => Dv X.K H x d ∧ Dv X.K H y _ ∧ Q (.bl _) H, ?_, h1.up zh, h2.up zh, q⟩
      intro pins s σ H x y v u Q I rx ry ⟨h1, h2, q⟩
      obtain ⟨as, r1⟩ := Dv.reads I (Same.refl H) (okD_plain c1) h1 rx
      obtain ⟨bs, r2⟩ := Dv.reads I (Same.refl H) (okD_plain c2) h2 ry
      exact PySem.SeqAt.notIn_tuple_data r2 r1 (okD_plain c2) (okD_plain c1) (by have := okD_depth c1; have := g.un; omega) ⟨.bl _, H, I, rfl, q⟩
    · cases hb
  · cases h2
    cases hb
    refine ⟨_, op_isN, rfl, ?_⟩
    cases h1 <;> exact q
  · cases h2
    cases hb
    refine ⟨_, op_notN, rfl, ?_⟩
    cases h1 <;> exact q
  · cases hb
theorem tru_D {d : PyData} {b : Bool} (hb : truD d = some b) (zh : Same Z H) (h1 : Dv X.K Z x d) : TruV X.K x H b := by
  cases h1 <;> simp only [truD] at hb
  case non => cases hb; rfl
  case bl => cases hb; rfl
  case int => cases hb; rfl
  case str =>
    split at hb
    · rename_i c; cases hb; exact ⟨c, rfl⟩
    · cases hb
  case lst a b =>
    cases hb
    refine .inl ⟨_, Same.seq zh a, ?_⟩
    cases b <;> rfl
  case tup a b =>
    cases hb
    refine .inr (.inl ⟨_, sameT zh a, ?_⟩)
    cases b <;> rfl
  case dct => cases hb
theorem idx_ok (g : Gd G N k X) {b : PyData} (hb : idxD d e = some b) (zh : Same Z H) (h1 : Dv X.K Z x d) (h2 : Dv X.K Z y e) (q : ∀ v, Dv X.K Z v b → Q v H) : ixAny X x y H Q := by
  unfold idxD at hb
  split at hb
  · cases h1 with | lst a1 b1 =>
    cases h2
    obtain ⟨v, e1, e2⟩ := b1.atI hb
    exact ⟨_, ix_list, _, _, _, v, rfl, rfl, Same.seq zh a1, e1, q v e2⟩
  · cases h1 with | tup a1 b1 =>
    cases h2
    obtain ⟨v, e1, e2⟩ := b1.atI hb
    exact ⟨_, ix_tup, _, _, _, v, rfl, rfl, sameT zh a1, e1, q v e2⟩
  · cases hb
theorem DvAll.cut {K : PySem.W.Frag} {vs : List V} {ds : List PyData} (h : DvAll K Z vs ds) (lo hi : Option Int) : DvAll K Z (cutV vs lo hi) (cutD ds lo hi) := by
  unfold cutV cutD
  rw [h.len]
  exact (h.drop _).take _
theorem slc_ok (g : Gd G N k X) {lo hi : Option Int} (hb : slcD d lo hi = some r) (rl : Rl X.K B Z H σ ρ) (h1 : Dv X.K Z x d)
    (q : ∀ v H' Z', Rl X.K B Z' H' σ ρ → Same Z Z' → RR X.K B Z' H' σ ρ v r → Q v H') : slAny X x lo hi H Q := by
  unfold slcD at hb
  split at hb
  · cases h1 with | lst a1 b1 =>
    cases hb
    refine ⟨_, sl_list, _, _, rfl, Same.seq rl.zh a1, fun p hp => ?_⟩
    obtain ⟨r1, r2⟩ := rl.newL hp (b1.cut lo hi)
    exact q _ _ _ r1 (Same.refl _) r2
  · rename_i ds
    cases h1 with | @tup a vs _ a1 b1 =>
    cases hb
    refine ⟨_, sl_tupA, _, _, rfl, sameT rl.zh a1, fun w => ?_, fun w p hp => ?_⟩
    · have : cutD ds lo hi = ds := by
        unfold cutD
        rw [← b1.len, w.1, w.2, List.drop_zero, Nat.sub_zero, b1.len]
        exact List.take_length
      rw [this] at q
      exact q _ _ _ rl (Same.refl _) (.tup a1 b1)
    · obtain ⟨r1, r2, r3⟩ := rl.newT hp (b1.cut lo hi)
      exact q _ _ _ r1 r2 r3
  · cases hb
end
end Dx

namespace Dx
open PySem PySem.Spec PyProof.Rows L2
section
variable {G : Gx} {N : List Str} {k : Nat} {X : Cx} {B : Bs} {Z H : Hp} {σ : L2.St} {ρ : Env1} {x y : V} {d e : PyData} {r : R} {Q : VK}

/-- the built-in function or class of a name -/
def bltV (f : Str) : Option Value :=
  if f = "len" then some (.builtin "len") else if f = "abs" then some (.builtin "abs") else if f = "int" then some (.type "int") else if f = "max" then some (.builtin "max")
  else if f = "min" then some (.builtin "min") else if f = "gcd" then some (.builtin "math.gcd") else if f = "all" then some (.builtin "all") else if f = "any" then some (.builtin "any")
  else if f = "sum" then some (.builtin "sum") else if f = "list" then some (.type "list") else if f = "repr" then some (.builtin "repr") else if f = "tuple" then some (.type "tuple") else none
theorem noDict_of_plain : ∀ d : PyData, d.plain = true → d.hasDict = false := by
  intro d
  refine PyData.rec (motive_1 := fun d => d.plain = true → d.hasDict = false) (motive_2 := fun ds => PyData.plainAll ds = true → PyData.hasDictAll ds = false) (motive_3 := fun _ => True) (motive_4 := fun _ => True) ?_ ?_ ?_ ?_ ?_ ?_ ?_ ?_ ?_ ?_ ?_ ?_ d
  all_goals simp_all [PyData.plain, PyData.plainAll, PyData.hasDict, PyData.hasDictAll]
theorem call_reprD (g : Gd G N k X) (d : PyData) (hd : reprOk d = true) : CallR X (.builtin "repr") (fun xs H Q => ∃ x, xs = [x] ∧ Dv X.K H x d ∧ Q (.str d.shown) H) := by
  intro pins s σ H xs us Q I r ⟨x, e, h, q⟩
  subst e
  obtain ⟨u, rfl, ru⟩ := vals1 r
  simp only [reprOk, Bool.and_eq_true] at hd
  obtain ⟨⟨⟨p, dp⟩, sh⟩, sz⟩ := hd
  have dp := of_decide_eq_true dp
  have sz := of_decide_eq_true sz
  have hu := g.un
  obtain ⟨as, rr⟩ := Dv.reads I (Same.refl H) p h ru
  cases h with
  | non => cases ru; exact PySem.P.repr_of_none ⟨.str _, H, I.tok _, ⟨_, rfl⟩, q⟩
  | bl b =>
    cases ru
    refine PySem.P.repr_of_bool ⟨.str _, H, I.tok _, ⟨_, rfl⟩, ?_⟩
    exact q
  | int i =>
    obtain ⟨t, rfl⟩ := ru
    exact PySem.P.repr_of_int (of_decide_eq_true sh) ⟨.str _, H, I.tok _, ⟨_, rfl⟩, q⟩
  | str y =>
    obtain ⟨t, rfl⟩ := ru
    exact PySem.P.repr_of_str ⟨.str _, H, I.tok _, ⟨_, rfl⟩, q⟩ sz
  | lst a b =>
    cases ru
    exact repr_of_reads' rr sh (by intro z; rw [noDict_of_plain _ p] at z; cases z) g.room.gd (by omega) (fun _ _ e => e) (fun h' u tk hk => ⟨.str _, H, I.kept hk, ⟨_, rfl⟩, q⟩) sz
  | tup a b =>
    cases ru
    exact repr_of_reads' rr sh (by intro z; rw [noDict_of_plain _ p] at z; cases z) g.room.gd (by omega) (fun _ _ e => e) (fun h' u tk hk => ⟨.str _, H, I.kept hk, ⟨_, rfl⟩, q⟩) sz
  | dct a => cases p
theorem Dv1 {K : PySem.W.Frag} {vs : List V} {d : PyData} (h : DvAll K Z vs [d]) : ∃ v, vs = [v] ∧ Dv K Z v d := by
  cases h with | cons a b => cases b; exact ⟨_, rfl, a⟩
theorem Dv2 {K : PySem.W.Frag} {vs : List V} {d e : PyData} (h : DvAll K Z vs [d, e]) : ∃ v w, vs = [v, w] ∧ Dv K Z v d ∧ Dv K Z w e := by
  cases h with | cons a b => cases b with | cons b c => cases c; exact ⟨_, _, rfl, a, b⟩
/-- a built-in called with data -/
theorem blt_ok (g : Gd G N k X) {f : Str} {as : List PyData} {vs : List V} {u : Value} (hu : bltV f = some u) (hb : bltD f as = some r) (rl : Rl X.K B Z H σ ρ) (h1 : DvAll X.K Z vs as)
    (q : ∀ v H' Z', Rl X.K B Z' H' σ ρ → Same Z Z' → RR X.K B Z' H' σ ρ v r → Q v H') : cAny X u vs H Q := by
  have zh := rl.zh
  have fin : ∀ {d : PyData} {v : V}, r = .dat d → Dv X.K Z v d → Q v H := fun e h => q _ _ _ rl (Same.refl _) (by rw [e]; exact h)
  unfold bltV at hu
  unfold bltD at hb
  split at hu
  · cases hu
    rw [if_pos (by assumption)] at hb
    split at hb
    · obtain ⟨v, rfl, a⟩ := Dv1 h1; cases a with | lst a b => cases hb; exact ⟨_, call_len_seq, _, _, rfl, .inl (Same.seq zh a), fin rfl (by rw [b.len]; exact .int _)⟩
    · obtain ⟨v, rfl, a⟩ := Dv1 h1; cases a with | tup a b => cases hb; exact ⟨_, call_len_seq, _, _, rfl, .inr (sameT zh a), fin rfl (by rw [b.len]; exact .int _)⟩
    · split at hb
      · rename_i c
        obtain ⟨v, rfl, a⟩ := Dv1 h1; cases a; cases hb; exact ⟨_, call_len_str, _, rfl, c, fin rfl (.int _)⟩
      · cases hb
    · cases hb
  rename_i n1
  rw [if_neg n1] at hb
  split at hu
  · cases hu
    rw [if_pos (by assumption)] at hb
    split at hb
    · obtain ⟨v, rfl, a⟩ := Dv1 h1; cases a; cases hb; exact ⟨_, call_abs, _, rfl, fin rfl (.int _)⟩
    · cases hb
  rename_i n1
  rw [if_neg n1] at hb
  split at hu
  · cases hu
    rw [if_pos (by assumption)] at hb
    split at hb
    · obtain ⟨v, rfl, a⟩ := Dv1 h1; cases a; cases hb; exact ⟨_, call_int1, .inl ⟨_, rfl, fin rfl (.int _)⟩⟩
    · cases hb
  rename_i n1
  rw [if_neg n1] at hb
  split at hu
  · cases hu
    rw [if_pos (by assumption)] at hb
    split at hb
    · obtain ⟨v, w, rfl, a, b⟩ := Dv2 h1; cases a; cases b; cases hb; exact ⟨_, call_max2 g.calm, _, _, rfl, fin rfl (.int _)⟩
    · cases hb
  rename_i n1
  rw [if_neg n1] at hb
  split at hu
  · cases hu
    rw [if_pos (by assumption)] at hb
    split at hb
    · obtain ⟨v, w, rfl, a, b⟩ := Dv2 h1; cases a; cases b; cases hb; exact ⟨_, call_min2 g.calm, _, _, rfl, fin rfl (.int _)⟩
    · cases hb
  rename_i n1
  rw [if_neg n1] at hb
  split at hu
  · cases hu
    rw [if_pos (by assumption)] at hb
    split at hb
    · obtain ⟨v, w, rfl, a, b⟩ := Dv2 h1; cases a; cases b; cases hb; exact ⟨_, cr_gcd, _, _, rfl, fin rfl (.int _)⟩
    · cases hb
  rename_i n1
  rw [if_neg n1] at hb
  split at hu
  · cases hu
    rw [if_pos (by assumption)] at hb
    split at hb
    · rename_i ys
      obtain ⟨v, rfl, a⟩ := Dv1 h1; cases a with | lst a b =>
      cases c : allBl ys with
      | none => rw [c] at hb; cases hb
      | some bs =>
        rw [c] at hb
        cases hb
        refine ⟨_, cr_all g.calm, _, bs, rfl, ?_, fin rfl (.bl _)⟩
        rw [← b.bls c]; exact (Same.seq zh a)
    · cases hb
  rename_i n1
  rw [if_neg n1] at hb
  split at hu
  · cases hu
    rw [if_pos (by assumption)] at hb
    split at hb
    · rename_i ys
      obtain ⟨v, rfl, a⟩ := Dv1 h1; cases a with | lst a b =>
      cases c : allBl ys with
      | none => rw [c] at hb; cases hb
      | some bs =>
        rw [c] at hb
        cases hb
        refine ⟨_, cr_any g.calm, _, bs, rfl, ?_, fin rfl (.bl _)⟩
        rw [← b.bls c]; exact (Same.seq zh a)
    · cases hb
  rename_i n1
  rw [if_neg n1] at hb
  split at hu
  · cases hu
    rw [if_pos (by assumption)] at hb
    split at hb
    · rename_i ys
      obtain ⟨v, rfl, a⟩ := Dv1 h1; cases a with | lst a b =>
      cases c : allInt ys with
      | none => rw [c] at hb; cases hb
      | some bs =>
        rw [c] at hb
        cases hb
        refine ⟨_, cr_sum g.calm, _, bs, rfl, ?_, fin rfl (.int _)⟩
        rw [← b.ints c]; exact (Same.seq zh a)
    · cases hb
  rename_i n1
  rw [if_neg n1] at hb
  split at hu
  · cases hu
    rw [if_pos (by assumption)] at hb
    split at hb
    · obtain ⟨v, rfl, a⟩ := Dv1 h1; cases a with | lst a b =>
      cases hb
      refine ⟨_, call_list_of, _, _, rfl, .inl (Same.seq zh a), fun p hp => ?_⟩
      obtain ⟨r1, r2⟩ := rl.newL hp b
      exact q _ _ _ r1 (Same.refl _) r2
    · obtain ⟨v, rfl, a⟩ := Dv1 h1; cases a with | tup a b =>
      cases hb
      refine ⟨_, call_list_of, _, _, rfl, .inr (sameT zh a), fun p hp => ?_⟩
      obtain ⟨r1, r2⟩ := rl.newL hp b
      exact q _ _ _ r1 (Same.refl _) r2
    · cases hb
  rename_i n1
  rw [if_neg n1] at hb
  split at hu
  · cases hu
    rw [if_pos (by assumption)] at hb
    split at hb
    · split at hb
      · rename_i c
        obtain ⟨v, rfl, a⟩ := Dv1 h1
        cases hb
        exact ⟨_, call_reprD g _ c, _, rfl, a.up zh, fin rfl (.str _)⟩
      · cases hb
    · cases hb
  rename_i n1
  rw [if_neg n1] at hb
  split at hu
  · cases hu
    rw [if_pos (by assumption)] at hb
    split at hb
    · obtain ⟨v, rfl, a⟩ := Dv1 h1; cases a with | lst a b =>
      cases hb
      refine ⟨_, call_tuple_of, _, _, rfl, .inl ⟨Same.seq zh a, fun p hp => ?_⟩⟩
      obtain ⟨r1, r2, r3⟩ := rl.newT hp b
      exact q _ _ _ r1 r2 r3
    · obtain ⟨v, rfl, a⟩ := Dv1 h1; cases a with | tup a b =>
      cases hb
      exact ⟨_, call_tuple_of, _, _, rfl, .inr ⟨sameT zh a, fin rfl (.tup a b)⟩⟩
    · cases hb
  · cases hu
/-- isinstance -/
theorem tyX_of {K : PySem.W.Frag} (zh : Same Z H) (h : Dv K Z x d) : TyX K H x (.type (tyD d)) := by
  cases h with
  | non => exact .base .non
  | bl b => exact .base (.bl b)
  | int i => exact .base (.int i)
  | str y => exact .base (.str y)
  | lst a b =>
    rcases Same.seq zh a with (a | ⟨o, a⟩) | ⟨o, its, n, e, c, _⟩
    · exact .base (.lst a)
    · exact .base (.frz a)
    · exact .kList e c
  | tup a b =>
    rcases sameT zh a with (a | ⟨o, a⟩) | ⟨o, its, n, e, c, _⟩
    · exact .base (.tup a)
    · exact .fTuple a
    · exact .kTuple e c
  | dct a => exact .base (.dK (zh _ _ a))
def tyN (t : Str) : String := if t = "int" then "int" else if t = "bool" then "bool" else if t = "tuple" then "tuple" else if t = "list" then "list" else if t = "str" then "str" else "dict"
theorem isi_any {K : PySem.W.Frag} : ∀ (ts : List Str) (b : Bool), isiL d ts = some b → PySem.W.kitAny K (.type (tyD d)) (ts.map fun t => .type (tyN t)) = some b
  | [], b, h => by cases h; rfl
  | t :: r, b, h => by
    unfold isiL at h
    split at h
    · rename_i c
      cases h
      exact kitAny_cons (b := true) (kit_ty c) (fun z => nomatch z) (fun _ => rfl)
    · rename_i c
      exact kitAny_cons (b := false) (kit_ty c) (fun _ => isi_any r b h) (fun z => nomatch z)
    · cases h
end
end Dx

/-! enumerate(tuple) -/
namespace Dx
open PySem PySem.Spec PyProof.Rows L2
open AutoSeq1 (wpAny_loadPart')
theorem enum_newT (l : Addr) (items : Array Value) (n : Nat) (dct : Option Addr) (sl : Array (Option Value)) :
    Meets (Builtin.«enumerate.__new__» ⟨[.type "enumerate", .ref l], []⟩) (fun _ R s => s.heap.get? l = some { cls := .type "tuple", dict := dct, data := .seq items n, slots := sl } ∧
      R (.ok (.ret (.ref (s.heap.push { cls := .type "tuple_iterator", data := .fields #[.ref l, .int 0 0] }).objs.size)))
        { s with heap := (s.heap.push { cls := .type "tuple_iterator", data := .fields #[.ref l, .int 0 0] }).push { cls := .type "enumerate", data := .fields #[.none, .bool false, .ref s.heap.objs.size, rawInt 0, .none, .none] } }) :=
  .of_wp fun prog w A R s h => by
    obtain ⟨hp, gg, d, tk, os⟩ := s; obtain ⟨hl, h⟩ := h
    have hsub := sub_enumerate
    have hT : Heap.IsTuple (Shared.heap ⟨hp, gg, d, tk, os⟩) l items := ⟨_, hl, rfl, n, rfl⟩
    wp_walk using wpAny_loadPart' hl
    refine wpAny_stack_any fun st => wpAny_pure ?_
    split
    · rename_i c _ _ _ _ _
      cases (c == Value.type "enumerate")
      · wp_walk using wpAny_loadPart' hl, wpAny_pyIter_tuple hT
        exact ⟨_, rfl, h⟩
      · wp_walk using wpAny_loadPart' hl, wpAny_pyIter_tuple hT
        exact ⟨_, rfl, h⟩
    · wp_walk using wpAny_loadPart' hl, wpAny_pyIter_tuple hT
      exact ⟨_, rfl, h⟩
section
variable {prog : Program} {w : World} {A : Around} {E : Value → Shared → Prop} {s : Shared}
theorem call_enumT {l : Addr} {items : Array Value} {Q : Value → Shared → Prop} (hT : s.heap.IsTuple l items)
    (h : ∀ h', IsEnum h' (s.heap.objs.size + 1) s.heap.objs.size 0 .none → h'.IsTupleIter s.heap.objs.size l 0 →
      (∀ b o, s.heap.get? b = some o → h'.get? b = some o) → Q (.ref (s.heap.objs.size + 1)) { s with heap := h' }) :
    wpAny (model prog w) A (call (.type "enumerate") [.ref l]) Q E s := by
  obtain ⟨⟨c, dct, dt, sl⟩, hl, hc, n, hd⟩ := hT
  replace hc : c = .type "tuple" := hc
  replace hd : dt = .seq items n := hd
  subst hc hd
  refine callType_new F.called_enumerate (by decide) (F.typeCall_enumerate_1 _) (F.newCall_enumerate_1 _) (fun obj => F.args_object_init_2 obj _) F.entry_enumerate_new
    (enum_newT l items n dct sl) ⟨hl, ?_⟩
  have hz : (s.heap.push { cls := .type "tuple_iterator", data := .fields #[.ref l, .int 0 0] }).objs.size = s.heap.objs.size + 1 := Heap.size_push ..
  show _ ∧ _
  rw [hz]
  have he : IsEnum ((s.heap.push { cls := .type "tuple_iterator", data := .fields #[.ref l, .int 0 0] }).push
      { cls := .type "enumerate", data := .fields #[.none, .bool false, .ref s.heap.objs.size, rawInt 0, .none, .none] }) (s.heap.objs.size + 1) s.heap.objs.size 0 .none := by
    have this := Heap.get?_push_size (s.heap.push { cls := .type "tuple_iterator", data := .fields #[.ref l, .int 0 0] })
      (o := { cls := .type "enumerate", data := .fields #[.none, .bool false, .ref s.heap.objs.size, rawInt 0, .none, .none] }) rfl
    rw [hz] at this; exact this
  exact ⟨⟨_, he, rfl⟩, h _ he ⟨_, Heap.get?_push_of_some _ (Heap.get?_push_size _ rfl), rfl, rfl⟩ fun b o x => Heap.get?_push_of_some _ (Heap.get?_push_of_some _ x)⟩
end
theorem drawsT {prog : Program} {w : World} {A : Around} (hh : A.handled = none) (it l : Addr) (hne : l ≠ it) (items : Array Value) :
    Draws prog w A it [it, l] items.size (fun i v => items[i]? = some v) (fun i h => h.IsTupleIter it l i ∧ h.IsTuple l items) where
  live := fun _ _ st => let ⟨o, ho, _⟩ := st.1; ⟨o, ho⟩
  frame := fun _ _ _ st hk => ⟨st.1.at fun o e => hk it (by simp) o e, by
    obtain ⟨o, e, r⟩ := st.2
    exact ⟨o, hk l (by simp) o e, r⟩⟩
  item := fun i s Q E hi st hQ => by
    refine RZ.nextOf_tuple_item st.1 st.2 (x := items[i]) (by simp [hi]) fun h' hit' hs' => ?_
    obtain ⟨o, e, r⟩ := st.2
    exact hQ _ h' s.toks (by simp [hi]) ⟨hit', ⟨o, (hs'.2 l hne).trans e, r⟩⟩ hs'
  done := fun s Q E st hE => RZ.nextOf_tuple_end hh st.1 st.2 (by simp) hE
def IteT (K : PySem.W.Frag) (a : Addr) : It :=
  ⟨fun i H => ∃ xs x, SqT K H a xs ∧ xs[i]? = some x, fun i H v H' => ∃ T x, v = .ref T ∧ H T = none ∧ H' = upd H T (.tup [.int (i : Nat), x]) ∧ ∀ xs, SqT K H a xs → xs[i]? = some x,
    fun i H => ∃ xs, SqT K H a xs ∧ xs.length = i⟩
theorem turn_enumT {P : Program} {w : World} {K : PySem.W.Frag} {elts : List Expr} {kk : Nat} {tpos : Pos} (a e it : Addr) :
    Turn P w K (.Tuple elts kk tpos) (IteT K a) [e, it] e (fun i h => (∃ old, IsEnum h e it ((i : Nat) : Int) old) ∧ h.IsTupleIter it a i ∧ e ≠ it) where
  mem := by simp
  obj := fun i h st b hb => by
    obtain ⟨⟨old, he⟩, ⟨o, ho, hc, hd⟩, _⟩ := st
    rcases (by simpa using hb : b = e ∨ b = it) with z | z
    · rw [z]; exact ⟨_, he, fun v q => nomatch q⟩
    · rw [z]; exact ⟨o, ho, fun v q => by rw [hd] at q; cases q⟩
  keep := fun i h h' st k => let ⟨⟨old, he⟩, hi, hne⟩ := st; ⟨⟨old, k e (by simp) _ he⟩, hi.at fun o q => k it (by simp) o q, hne⟩
  item := by
    intro X hP hw hK hc i pins s σ H E I hf st hg
    subst hP hw hK
    obtain ⟨⟨old, he⟩, hit, hne⟩ := st
    obtain ⟨xs, x, hq, hx⟩ := hg
    obtain ⟨its, rv, p, hz⟩ := I.tuple hq
    obtain ⟨u, hu, ru⟩ := rv.get hx
    have hel : e < s.heap.objs.size := Heap.lt_size he
    have hil : it < s.heap.objs.size := by obtain ⟨_, q, _⟩ := hit; exact Heap.lt_size q
    have ne1 : e ≠ a := fun z => by
      obtain ⟨o, ho, hc', _⟩ := p
      rw [← z] at ho
      have := ho.symm.trans he
      cases this
      exact absurd (show Value.type "enumerate" = Value.type "tuple" from hc') (by decide)
    have ne2 : a ≠ it := fun z => by
      obtain ⟨o, ho, hc', _⟩ := p
      obtain ⟨o2, ho2, hc2, _⟩ := hit
      rw [z, ho2] at ho; cases ho
      rw [hc2] at hc'; exact absurd hc' (by decide)
    have hlt : i < its.toArray.size := by
      rw [List.size_toArray]; exact (List.getElem?_eq_some_iff.mp hu).1
    refine wpAny_pyNext_enum_itemD (drawsT (A := X.A.in1) (I.ok.hd hc) it a ne2 its.toArray) he ⟨hit, p⟩ hlt hne (by simp [hne, ne1]) fun y h' tk hP ho st' hT hsz hk => ?_
    have ey : y = u := by
      have hP : its.toArray[i]? = some y := hP
      have hu' : its.toArray[i]? = some u := by simpa using hu
      rw [hu'] at hP; exact (Option.some.inj hP).symm
    subst ey
    refine ⟨_, rfl, wpAny_letOwnedTupleGo_enum (s := { s with heap := h', toks := tk + 1 }) ho fun h'' he' sb => ?_⟩
    have hT2 : h''.get? s.heap.objs.size = some { cls := .type "tuple", data := .seq #[.int i tk, y] } := (sb.2 _ (Nat.ne_of_gt hel)).trans hT
    have new : ObjOk X.prog X.w (upd H s.heap.objs.size (.tup [.int (i : Nat), x])) h'' s.heap.objs.size (.tup [.int (i : Nat), x]) :=
      ⟨by show 2 ≤ sizeLine; decide, [.int i tk, y], .cons ⟨_, rfl⟩ (.cons ru .nil), ⟨_, hT2, rfl, _, rfl⟩⟩
    have I1 : Inv X pins σ (upd H s.heap.objs.size (.tup [.int (i : Nat), x])) { s with heap := h'', toks := tk + 1 } :=
      I.turnedNew (ch := [e, it]) (fun b ob hb q => (sb.2 b (fun z => hb (by simp [z]))).trans (hk b ob (fun z => hb (by simp [z])) (fun z => hb (by simp [z])) q)) hf (Nat.le_refl _) new
    refine ⟨.ref s.heap.objs.size, _, I1, rfl, ⟨_, x, rfl, I.hok.fresh (Nat.le_refl _), rfl, fun ys hy => by rw [I.tuple_inj hy hq]; exact hx⟩, ⟨⟨y, ?_⟩, st'.1.at fun o q => (sb.2 it (Ne.symm hne)).trans q, hne⟩, fun b hb => ?_⟩
    · have e1 : ((i + 1 : Nat) : Int) = (i : Int) + 1 := by omega
      rw [e1]; exact he'
    · have hb' : b < s.heap.objs.size := by
        rcases (by simpa using hb : b = e ∨ b = it) with z | z
        · rw [z]; exact hel
        · rw [z]; exact hil
      rw [upd_ne (Nat.ne_of_lt hb')]
      exact (hf b hb).1
  done := by
    intro X hP hw hK hc i pins s σ H E I hf st hg
    subst hP hw hK
    obtain ⟨⟨old, he⟩, hit, hne⟩ := st
    obtain ⟨xs, hq, hx⟩ := hg
    obtain ⟨its, rv, p, hz⟩ := I.tuple hq
    obtain ⟨f0, f1, f2, f3, f4, f5⟩ := hf it (by simp)
    have hl := rv.length
    have ne2 : a ≠ it := fun z => by
      obtain ⟨o, ho, hc', _⟩ := p
      obtain ⟨o2, ho2, hc2, _⟩ := hit
      rw [z, ho2] at ho; cases ho
      rw [hc2] at hc'; exact absurd hc' (by decide)
    have hi : i = its.toArray.size := by rw [List.size_toArray]; omega
    subst hi
    exact wpAny_pyNext_enum_endD (drawsT (A := X.A.in1) (I.ok.hd hc) it a ne2 its.toArray) he ⟨hit, p⟩ fun h' eb => ⟨rfl, I.turned (t' := s.toks) (fun b o hb q => eb b o hb q) f0 f1 f3 f4 f5⟩
  self := fun A i s Q E st h => let ⟨⟨_, he⟩, _⟩ := st; wpAny_pyIter_enum he h
def iEnumT (K : PySem.W.Frag) (ta : TA) : TI := fun σ H R => ta σ H fun vs H1 => ∃ a xs, vs = [.ref a] ∧ ((SqL K H1 a xs ∧ R (Ite K a) H1) ∨ (SqT K H1 a xs ∧ R (IteT K a) H1))
theorem pi_enumT {X : Cx} {e : Expr} {ta : TA} {p pos tpos : Pos} {elts : List Expr} {kk : Nat} (hg : Gl X "enumerate") (hm : X.mg "enumerate" = none) (ha : PA X [e] ta) (hs : starEach [e] X.env = [(false, eval e X.env)]) :
    PI X (.Tuple elts kk tpos) (.Call (.Name "enumerate" p) [e] [] pos) (iEnumT X.K ta) := by
  refine ⟨fun pins s σ H R I h => ?_⟩
  refine Call_ (ld_blt I hg hm boot_enumerate (PyProof.Rows.callWith_type1 (thn (ha.run pos pins s σ H _ I h) fun us s1 ⟨vs, H1, I1, r1, q1⟩ => ?_) hs rfl))
  obtain ⟨a, xs, ex, q1⟩ := q1
  subst ex
  cases r1 with
  | cons r rr =>
    cases rr
    cases r
    have fp : ∀ b ∈ [s1.heap.objs.size + 1, s1.heap.objs.size], FpOk X pins H1 b := fun b hb => by
      have hle : s1.heap.objs.size ≤ b := by
        rcases (by simpa using hb : b = s1.heap.objs.size + 1 ∨ b = s1.heap.objs.size) with z | z <;> omega
      exact I1.fpOk hle (I1.hok.fresh hle)
    rcases q1 with ⟨hq, q⟩ | ⟨hq, q⟩
    · obtain ⟨its, rv, p', hz⟩ := I1.list hq
      refine call_enumerate_list p'.isList fun h' he hit hsz hk => wpAny_pyIter_enum he ?_
      exact ⟨s1.heap.objs.size + 1, [s1.heap.objs.size + 1, s1.heap.objs.size], _, _, H1, rfl, I1.kept (t' := s1.toks) hk, turn_enum a (s1.heap.objs.size + 1) s1.heap.objs.size, ⟨⟨.none, he⟩, hit, Nat.succ_ne_self _⟩, fp, q⟩
    · obtain ⟨its, rv, p', hz⟩ := I1.tuple hq
      refine call_enumT p' fun h' he hit hk => wpAny_pyIter_enum he ?_
      exact ⟨s1.heap.objs.size + 1, [s1.heap.objs.size + 1, s1.heap.objs.size], _, _, H1, rfl, I1.kept (t' := s1.toks) hk, turn_enumT a (s1.heap.objs.size + 1) s1.heap.objs.size, ⟨⟨.none, he⟩, hit, Nat.succ_ne_self _⟩, fp, q⟩
end Dx

namespace Dx
open PySem PySem.Spec PyProof.Rows L2
/-! ## From the text's syntax to the tree -/
structure Cc where
  N : List Str
  mv : List Nat
  fns : List (Str × List Str)
  cons : List Str
  gcd : Bool
  kw : List (Str × List Str × List Nat)
def okN (x : Str) : Bool := !(x == ("__debug__" : Str)) && !(x == ("__classdict__" : Str))
def visB (sc : Scope) (x : Str) : Bool := okN x && match sc.names.lookup x with | some .local => true | some .cell => true | some .free => true | _ => false
def glB (sc : Scope) (x : Str) : Bool := okN x && match sc.names.lookup x with | some .globalImplicit => true | _ => false
def locB (fnb : Str → Bool) (sc : Scope) (x : Str) : Bool := match sc.names.lookup x with | some .local => true | some .cell => fnb x | _ => false
def ixN? (N : List Str) (x : Str) : Option Nat := N.findIdx? (· == x)
def lsG (f : Expr → Option I) : List Expr → Option I
  | [] => some .nil
  | e :: r => do let a ← f e; let b ← lsG f r; some (.cons a b)
def boG (op : BoolOp) (f : Expr → Option I) : List Expr → Option I
  | [] => none
  | [e] => f e
  | e :: r => do let a ← f e; let b ← boG op f r; some (match op with | .And => .and a b | .Or => .or a b)
def optG (f : Expr → Option I) : Option Expr → Option I
  | none => some .abs
  | some e => do let i ← f e; if isAbs i then none else some i
def isSlice : Expr → Bool
  | .Slice .. => true
  | _ => false
/-- targets: names and tuples of them; the slots -/
def cT (N : List Str) (fnb : Str → Bool) (sc : Scope) : Nat → Expr → Option (I × List Nat)
  | 0, _ => none
  | n + 1, .Name x _ => do let i ← ixN? N x; if locB fnb sc x && okN x then some (.tnm i, [i]) else none
  | n + 1, .Tuple es _ _ => (go N fnb sc n es).map fun p => (.ttp p.1, p.2)
  | _, _ => none
where go (N : List Str) (fnb : Str → Bool) (sc : Scope) (n : Nat) : List Expr → Option (I × List Nat)
  | [] => some (.nil, [])
  | e :: r => do let a ← cT N fnb sc n e; let b ← go N fnb sc n r; some (.cons a.1 b.1, a.2 ++ b.2)
def isTup : Expr → Bool
  | .Tuple .. => true
  | _ => false
def tyNames : List Str := ["int", "bool", "tuple", "list", "str", "dict"]
def tysG (sc : Scope) : List Expr → Option (List Str)
  | [] => some []
  | .Name t _ :: r => if glB sc t && tyNames.contains t then (tysG sc r).map (t :: ·) else none
  | _ :: _ => none

/-- the keywords' names -/
def kwN : List Keyword → Option (List Str)
  | [] => some []
  | ⟨some x, _, _⟩ :: r => (kwN r).map (x :: ·)
  | _ :: _ => none
def kwV : List Keyword → List Expr
  | [] => []
  | ⟨_, e, _⟩ :: r => e :: kwV r
def pmOf (kw : List (Str × List Str × List Nat)) (f : Str) (ks : List Str) : Option (List Nat) := (kw.find? fun q => q.1 == f && q.2.1 == ks).map (·.2.2)
/-- expressions (none: not served) -/
def cE (c : Cc) : Nat → (Str → Bool) → Scope → Expr → Option I
  | 0, _, _, _ => none
  | n + 1, fb, sc, e => match e with
    | .Constant (.int i) _ _ => some (.int i)
    | .Constant (.str x) _ _ => some (.str x)
    | .Constant (.bool b) _ _ => some (.bl b)
    | .Constant .none _ _ => some .non
    | .Name x _ => match ixN? c.N x with
      | some i => if visB sc x then some (.var i) else none
      | none => if glB sc x && c.cons.contains x then some (.con x) else none
    | .BinOp a op b _ => do let x ← cE c n fb sc a; let y ← cE c n fb sc b; some (.bin op x y)
    | .UnaryOp .Not a _ => do let x ← cE c n fb sc a; some (.inot x)
    | .UnaryOp .USub a _ => do let x ← cE c n fb sc a; some (.neg x)
    | .BoolOp op vs _ => match vs with
      | a :: b :: r => boG op (cE c n fb sc) (a :: b :: r)
      | _ => none
    | .IfExp t a b _ => do let x ← cE c n fb sc t; let y ← cE c n fb sc a; let z ← cE c n fb sc b; some (.ite x y z)
    | .Compare a [op] [b] _ => if behindInMarks op b then none else do let x ← cE c n fb sc a; let y ← cE c n fb sc b; some (.cmp op x y)
    | .Compare a [op, op'] [b, d] _ => if lastMarks [op, op'] [b, d] then none else do let x ← cE c n fb sc a; let y ← cE c n fb sc b; let z ← cE c n fb sc d; some (.cmp2 op op' x y z)
    | .Tuple es _ _ => (lsG (cE c n fb sc) es).map .tup
    | .List es _ => (lsG (cE c n fb sc) es).map .lst
    | .Call (.Name f _) (a :: as) [] _ =>
      if glB sc f then
        match c.fns.lookup f with
        | some ps => if ps.length = (a :: as).length then (lsG (cE c n fb sc) (a :: as)).map fun i => .call f i [] else none
        | none =>
          if f = "isinstance" then match as with
            | [.Name t _] => if glB sc t && tyNames.contains t then (cE c n fb sc a).map fun i => .isi i [t] else none
            | _ => none
          else if (bltV f).isSome && (bltNames.contains f || (f = "gcd" && c.gcd)) then (lsG (cE c n fb sc) (a :: as)).map fun i => .blt f i
          else none
      else none
    | .Call (.Name f _) [] (q :: qs) _ =>
      if glB sc f then do
        let ks ← kwN (q :: qs)
        let pm ← pmOf c.kw f ks
        if pm.isEmpty then none else (lsG (cE c n fb sc) (kwV (q :: qs))).map fun i => .call f i pm
      else none
    | .Subscript a (.Slice none none (some (.UnaryOp .USub (.Constant (.int 1) _ _) _)) _) _ => (cE c n fb sc a).map .rev
    | .Subscript a (.Slice lo hi none _) _ => do let x ← cE c n fb sc a; let y ← optG (cE c n fb sc) lo; let z ← optG (cE c n fb sc) hi; some (.slc x y z)
    | .Subscript a b _ => if isSlice b then none else do let x ← cE c n fb sc a; let y ← cE c n fb sc b; some (.idx x y)
    | .ListComp elt [⟨tg, iter, ifs, 0⟩] scope _ => do
      let it ← cI (cE c n fb sc) (isTup tg) sc iter
      let fb' := fun x => scope.names.lookup x == some .cell
      let (t, vs) ← cT c.N fb' (relS scope sc) 20 tg
      let own := vs.map fun i => (c.N.getD i (⟨#[]⟩ : Str), i)
      if blkC c.N sc scope own then do
        let k ← match ifs with | [] => some (.bl true) | [d] => cE c n fb' (relS scope sc) d | _ => none
        let x ← cE c n fb' (relS scope sc) elt
        some (.lc x t it k vs)
      else none
    | _ => none
where cI (f : Expr → Option I) (tup : Bool) (sc : Scope) : Expr → Option I
  | .Call (.Name x p) as [] q =>
    if x = "range" && glB sc x then match as with
      | [a] => (f a).map .irg
      | [a, b] => do let x ← f a; let y ← f b; some (.irg2 x y)
      | _ => none
    else if x = "enumerate" && glB sc x then match as with
      | [a] => if tup then (f a).map .ien else none
      | _ => none
    else if x = "zip" && glB sc x then match as with
      | [a, b] => if tup then do let x ← f a; let y ← f b; some (.izp x y) else none
      | _ => none
    else (f (.Call (.Name x p) as [] q)).map .iv
  | e => (f e).map .iv
end Dx

namespace Dx
open PySem PySem.Spec PyProof.Rows L2
/-! ## Arguments -/
def Bs.push (B : Bs) (p : Addr) (xs : List V) : Bs := { B with pend := (p, xs) :: B.pend }
def ArR (K : PySem.W.Frag) (Z H : Hp) (σ : L2.St) (ρ : Env1) : Bs → List V → List Ar → Prop
  | _, [], [] => True
  | B, v :: vs, .dat d :: as => Dv K Z v d ∧ ArR K Z H σ ρ B vs as
  | B, v :: vs, .ref i :: as => σ[i]? = some (some v) ∧ ArR K Z H σ ρ B vs as
  | B, v :: vs, .frs ds :: as => ∃ p xs, v = .ref p ∧ H p = some (.lst xs) ∧ Z p = none ∧ B.H p = none ∧ (∀ q ∈ B.pend, q.1 ≠ p) ∧ DvAll K Z xs ds ∧
      (∀ (i : Nat) (es : List PyData), ρ[i]? = some (some (.own es)) → σ[i]? ≠ some (some (.ref p))) ∧ ArR K Z H σ ρ (B.push p xs) vs as
  | _, _, _ => False
def tDA (K : PySem.W.Frag) (pn : List Nat) (ks : List Bool) (f : List Bool → Env1 → Option (List Ar × Env1)) : TA := fun σ H Q =>
  ∃ B Z ρ as ρ', pnOf B = pn ∧ Rl K B Z H σ ρ ∧ f ks ρ = some (as, ρ') ∧ ∀ vs H' Z', Rl K B Z' H' σ ρ' → Same Z Z' → ArR K Z' H' σ ρ' B vs as → Q vs H'
def DA (X : Cx) (pn : List Nat) (es : List Expr) (f : List Bool → Env1 → Option (List Ar × Env1)) : Prop := ∀ ks, PA X es (tDA X.K pn ks f)
section
variable {K : PySem.W.Frag} {B : Bs} {Z Z' H H' : Hp} {σ : L2.St} {ρ ρ' : Env1}
theorem Rl.push (r : Rl K B Z H σ ρ) {p : Addr} {xs : List V} (h1 : H p = some (.lst xs)) (h2 : Z p = none) (h3 : ∀ (i : Nat) (es : List PyData), ρ[i]? = some (some (.own es)) → σ[i]? ≠ some (some (.ref p))) : Rl K (B.push p xs) Z H σ ρ :=
  ⟨r.len, r.bz, r.zh, r.zn, r.kp, r.dat, r.own, r.apart, r.pin, fun q hq => by
    rcases List.mem_cons.mp hq with e | e
    · rw [e]; exact ⟨h1, h2, h3⟩
    · exact r.pd q e⟩
theorem Rl.pop {p : Addr} {xs : List V} (r : Rl K (B.push p xs) Z H σ ρ) : Rl K B Z H σ ρ ∧ H p = some (.lst xs) ∧ Z p = none ∧ ∀ (i : Nat) (es : List PyData), ρ[i]? = some (some (.own es)) → σ[i]? ≠ some (some (.ref p)) :=
  ⟨⟨r.len, r.bz, r.zh, r.zn, r.kp, r.dat, r.own, r.apart, r.pin, fun q hq => r.pd q (List.mem_cons_of_mem _ hq)⟩, r.pd (p, xs) List.mem_cons_self⟩
theorem ArR.data : ∀ {as : List Ar} {vs : List V} {ds : List PyData} {B : Bs}, ArR K Z H σ ρ B vs as → arsD as = some ds → DvAll K Z vs ds
  | [], [], _, _, _, e => by cases e; exact .nil
  | .dat d :: as, v :: vs, ds, B, h, e => by
    simp only [arsD, arD, Option.bind_eq_bind, Option.bind_some] at e
    cases q : arsD as with
    | none => rw [q] at e; cases e
    | some es =>
      rw [q] at e; cases e
      exact .cons h.1 (ArR.data h.2 q)
  | .frs _ :: _, _, _, _, _, e => by cases e
  | .ref _ :: _, _, _, _, _, e => by cases e
  | [], _ :: _, _, _, h, _ => h.elim
  | .dat _ :: _, [], _, _, h, _ => h.elim
end
section
variable {X : Cx} {pn : List Nat}
theorem da_nil {f : List Bool → Env1 → Option (List Ar × Env1)} (hf : ∀ ks ρ, f ks ρ = some ([], ρ)) : DA X pn [] f := fun ks => PA.imp pa_nil fun σ H Q ⟨B, Z, ρ, as, ρ', hp, rl, e, q⟩ => by
  rw [hf] at e; cases e
  exact q [] H Z rl (Same.refl Z) True.intro
/-- one more argument ahead; e is a name's slot i where var is some i -/
theorem da_cons {e : Expr} {es : List Expr} {fe : Env1 → Option (R × Env1)} {fr f : List Bool → Env1 → Option (List Ar × Env1)} {var : Option Nat} (he : DE X pn e fe) (hr : DA X pn es fr)
    (hv : ∀ i, var = some i → PE X e (tVar i)) (hs : starEach (e :: es) X.env = (false, eval e X.env) :: starEach es X.env)
    (hf : ∀ ks ρ, f ks ρ = (do let (x, ρ1) ← argG fe var ks ρ; let (xs, ρ2) ← fr ks.tail ρ1; some (x :: xs, ρ2))) : DA X pn (e :: es) f := by
  intro ks
  by_cases hk : ∃ i r, var = some i ∧ ks = true :: r
  · obtain ⟨i, r, hi, hk⟩ := hk
    subst hi hk
    refine PA.imp (pa_cons (hv i rfl) (hr r) hs) fun σ H Q ⟨B, Z, ρ, as, ρ', hp, rl, e1, q⟩ => ?_
    rw [hf] at e1
    simp only [argG] at e1
    cases ho : getO ρ i with
    | none => rw [ho] at e1; cases e1
    | some ds =>
      rw [ho] at e1
      simp only [Option.map_some, Option.bind_eq_bind, Option.bind_some, List.tail_cons] at e1
      cases hx : fr r ρ with
      | none => rw [hx] at e1; cases e1
      | some p =>
        obtain ⟨xs, ρ2⟩ := p
        rw [hx] at e1; cases e1
        have ho' : ρ[i]? = some (some (.own ds)) := by
          unfold getO at ho
          split at ho
          · rename_i h; cases ho; exact h
          · cases ho
        obtain ⟨p, ys, h1, _⟩ := rl.own i ds ho'
        refine ⟨.ref p, h1, B, Z, ρ, xs, _, hp, rl, hx, fun vs H' Z' rl' sm ar => ?_⟩
        exact q (.ref p :: vs) H' Z' rl' sm ⟨h1, ar⟩
  · refine PA.imp (pa_cons he (hr ks.tail) hs) fun σ H Q ⟨B, Z, ρ, as, ρ', hp, rl, e1, q⟩ => ?_
    rw [hf] at e1
    cases hx : fe ρ with
    | none =>
      exfalso
      unfold argG at e1
      split at e1
      · exact hk ⟨_, _, rfl, rfl⟩
      · rw [hx] at e1; cases e1
      · rw [hx] at e1; cases e1
    | some p =>
      obtain ⟨x, ρ1⟩ := p
      -- data or a new list
      have way : argG fe var ks ρ = some (.dat x.d, ρ1) ∨ ∃ ds, x = .frs ds ∧ argG fe var ks ρ = some (.frs ds, ρ1) := by
        unfold argG
        split
        · exact absurd ⟨_, _, rfl, rfl⟩ hk
        · rw [hx]
          cases x with
          | dat d => exact .inl rfl
          | frs ds => exact .inr ⟨ds, rfl, rfl⟩
        · rw [hx]; exact .inl rfl
      rcases way with way | ⟨ds, hd, way⟩
      · rw [way] at e1
        simp only [Option.bind_eq_bind, Option.bind_some] at e1
        cases hy : fr ks.tail ρ1 with
        | none => rw [hy] at e1; cases e1
        | some p2 =>
          obtain ⟨xs, ρ2⟩ := p2
          rw [hy] at e1; cases e1
          refine tD_d hp rl hx fun v H1 Z1 rl1 sm1 dv => ?_
          refine ⟨B, Z1, ρ1, xs, _, hp, rl1, hy, fun vs H2 Z2 rl2 sm2 ar => ?_⟩
          exact q (v :: vs) H2 Z2 rl2 (sm1.trans sm2) ⟨dv.up sm2, ar⟩
      · subst hd
        rw [way] at e1
        simp only [Option.bind_eq_bind, Option.bind_some] at e1
        cases hy : fr ks.tail ρ1 with
        | none => rw [hy] at e1; cases e1
        | some p2 =>
          obtain ⟨xs, ρ2⟩ := p2
          rw [hy] at e1; cases e1
          refine tD_r hp rl hx fun v H1 Z1 rl1 sm1 rr => ?_
          obtain ⟨p, ys, rfl, f1, f2, f3, f4, f5, f6⟩ := rr
          refine ⟨B.push p ys, Z1, ρ1, xs, _, hp, rl1.push f1 f2 f6, hy, fun vs H2 Z2 rl2 sm2 ar => ?_⟩
          obtain ⟨rl3, g1, g2, g3⟩ := rl2.pop
          exact q (.ref p :: vs) H2 Z2 rl3 (sm1.trans sm2) ⟨p, ys, rfl, g1, g2, f3, f4, f5.up sm2, g3, ar⟩
end
end Dx

namespace Dx
open PySem PySem.Spec PyProof.Rows L2
/-! ## Calls -/
/-- the caller's slots that are handed over, as the callee's pins -/
def pinsF : List V → List Sl → Nat → List (Nat × Addr)
  | .ref p :: vs, .own _ :: ss, n => (n, p) :: pinsF vs ss (n + 1)
  | _ :: vs, _ :: ss, n => pinsF vs ss (n + 1)
  | _, _, _ => []
/-- what stands of the handed values: data, or a list at an address that is a slot's own or new -/
inductive Hn (K : PySem.W.Frag) (Z H : Hp) : List V → List Sl → List Addr → Prop
  | nil : Hn K Z H [] [] []
  | dat {v : V} {d : PyData} {vs : List V} {ss : List Sl} {ps : List Addr} : Dv K Z v d → Hn K Z H vs ss ps → Hn K Z H (v :: vs) (.dat d :: ss) ps
  | own {p : Addr} {xs : List V} {ds : List PyData} {vs : List V} {ss : List Sl} {ps : List Addr} : H p = some (.lst xs) → Z p = none → DvAll K Z xs ds → p ∉ ps → Hn K Z H vs ss ps → Hn K Z H (.ref p :: vs) (.own ds :: ss) (p :: ps)
section
variable {K : PySem.W.Frag} {B : Bs} {Z Z' H H' : Hp} {σ : L2.St} {ρ ρ' : Env1}
theorem Hn.len : ∀ {vs : List V} {ss : List Sl} {ps : List Addr}, Hn K Z H vs ss ps → vs.length = ss.length
  | _, _, _, .nil => rfl
  | _, _, _, .dat _ h => by simp [h.len]
  | _, _, _, .own _ _ _ _ h => by simp [h.len]
theorem Hn.datAt : ∀ {vs : List V} {ss : List Sl} {ps : List Addr} {i : Nat} {d : PyData}, Hn K Z H vs ss ps → ss[i]? = some (.dat d) → ∃ v, vs[i]? = some v ∧ Dv K Z v d
  | _, _, _, 0, d, .dat h _, e => by cases e; exact ⟨_, rfl, h⟩
  | _, _, _, i + 1, d, .dat _ t, e => by
    obtain ⟨v, h1, h2⟩ := Hn.datAt (i := i) (d := d) t (by simpa using e)
    exact ⟨v, by simpa using h1, h2⟩
  | _, _, _, 0, d, .own _ _ _ _ _, e => by cases e
  | _, _, _, i + 1, d, .own _ _ _ _ t, e => by
    obtain ⟨v, h1, h2⟩ := Hn.datAt (i := i) (d := d) t (by simpa using e)
    exact ⟨v, by simpa using h1, h2⟩
  | _, _, _, i, d, .nil, e => by simp at e
theorem Hn.ownAt : ∀ {vs : List V} {ss : List Sl} {ps : List Addr} {i : Nat} {ds : List PyData} (n : Nat), Hn K Z H vs ss ps → ss[i]? = some (.own ds) → ∃ p xs, vs[i]? = some (.ref p) ∧ H p = some (.lst xs) ∧ Z p = none ∧ DvAll K Z xs ds ∧ p ∈ ps ∧ (n + i, p) ∈ pinsF vs ss n
  | _, _, _, i, d, n, .nil, e => by simp at e
  | _, _, _, 0, d, n, .dat h _, e => by cases e
  | _, _, _, 0, d, n, .own a b c f t, e => by cases e; exact ⟨_, _, rfl, a, b, c, List.mem_cons_self, by unfold pinsF; exact List.mem_cons_self⟩
  | _, _, _, i + 1, d, n, .dat (v := v) _ t, e => by
    obtain ⟨p, xs, h1, h2, h3, h4, h5, h6⟩ := Hn.ownAt (i := i) (ds := d) (n + 1) t (by simpa using e)
    refine ⟨p, xs, by simpa using h1, h2, h3, h4, h5, ?_⟩
    have e1 : n + (i + 1) = n + 1 + i := by omega
    rw [e1]
    cases v <;> simpa [pinsF] using h6
  | _, _, _, i + 1, d, n, .own _ _ _ _ t, e => by
    obtain ⟨p, xs, h1, h2, h3, h4, h5, h6⟩ := Hn.ownAt (i := i) (ds := d) (n + 1) t (by simpa using e)
    refine ⟨p, xs, by simpa using h1, h2, h3, h4, List.mem_cons_of_mem _ h5, ?_⟩
    have e1 : n + (i + 1) = n + 1 + i := by omega
    rw [e1]
    unfold pinsF
    exact List.mem_cons_of_mem _ h6
theorem Hn.apart {vs : List V} {ss : List Sl} {ps : List Addr} (h : Hn K Z H vs ss ps) : ∀ {i j : Nat} {ds es : List PyData} {p : Addr}, ss[i]? = some (.own ds) → ss[j]? = some (.own es) → vs[i]? = some (.ref p) → vs[j]? = some (.ref p) → i = j := by
  induction h with
  | nil => intro i j ds es p e; simp at e
  | @dat v d vs ss ps _ t ih =>
    intro i j ds es p h1 h2 h3 h4
    cases i with
    | zero => cases h1
    | succ i =>
      cases j with
      | zero => cases h2
      | succ j =>
        have e : i = j := ih (i := i) (j := j) (by simpa using h1) (by simpa using h2) (by simpa using h3) (by simpa using h4)
        omega
  | @own p0 xs ds0 vs ss ps a b c f t ih =>
    intro i j ds es p h1 h2 h3 h4
    cases i with
    | zero =>
      cases j with
      | zero => rfl
      | succ j =>
        cases h3
        have h4' : vs[j]? = some (.ref p0) := by simpa using h4
        obtain ⟨q, xs, g1, _, _, _, g5, _⟩ := t.ownAt 0 (i := j) (by simpa using h2)
        rw [h4'] at g1; cases g1; exact absurd g5 f
    | succ i =>
      cases j with
      | zero =>
        cases h4
        have h3' : vs[i]? = some (.ref p0) := by simpa using h3
        obtain ⟨q, xs, g1, _, _, _, g5, _⟩ := t.ownAt 0 (i := i) (by simpa using h1)
        rw [h3'] at g1; cases g1; exact absurd g5 f
      | succ j =>
        have e : i = j := ih (i := i) (j := j) (by simpa using h1) (by simpa using h2) (by simpa using h3) (by simpa using h4)
        omega
theorem pinsF_mem {vs : List V} {ss : List Sl} {ps : List Addr} (h : Hn K Z H vs ss ps) : ∀ {n : Nat} {q : Nat × Addr}, q ∈ pinsF vs ss n → ∃ i, q.1 = n + i ∧ vs[i]? = some (.ref q.2) ∧ (∃ ds, ss[i]? = some (.own ds)) ∧ q.2 ∈ ps := by
  induction h with
  | nil => intro n q h; simp [pinsF] at h
  | @dat v d vs ss ps _ t ih =>
    intro n q h
    have h' : q ∈ pinsF vs ss (n + 1) := by cases v <;> simpa [pinsF] using h
    obtain ⟨i, h1, h2, ⟨ds, h3⟩, h4⟩ := ih h'
    exact ⟨i + 1, by omega, by simpa using h2, ⟨ds, by simpa using h3⟩, h4⟩
  | @own p0 xs ds0 vs ss ps a b c f t ih =>
    intro n q h
    unfold pinsF at h
    rcases List.mem_cons.mp h with e | h
    · subst e; exact ⟨0, rfl, rfl, ⟨_, rfl⟩, List.mem_cons_self⟩
    · obtain ⟨i, h1, h2, ⟨ds, h3⟩, h4⟩ := ih h
      exact ⟨i + 1, by omega, by simpa using h2, ⟨ds, by simpa using h3⟩, List.mem_cons_of_mem _ h4⟩
theorem pinsF_fst : ∀ {vs : List V} {ss : List Sl} {ps : List Addr} {n : Nat}, Hn K Z H vs ss ps → (pinsF vs ss n).map (·.1) = ownsAt ss n
  | _, _, _, n, .nil => rfl
  | _, _, _, n, .dat (v := v) _ t => by
    have := pinsF_fst (n := n + 1) t
    cases v <;> simpa [pinsF, ownsAt] using this
  | _, _, _, n, .own _ _ _ _ t => by
    have := pinsF_fst (n := n + 1) t
    simpa [pinsF, ownsAt] using this
/-- the callee's view at its entry -/
theorem Hn.entry {vs : List V} {ss : List Sl} {ps : List Addr} (h : Hn K Z H vs ss ps) (zh : Same Z H) : Rl K ⟨Z, H, pinsF vs ss 0, []⟩ Z H (vs.map some) (ss.map some) := by
  have gs : ∀ {i : Nat} {s : Sl}, (ss.map some)[i]? = some (some s) → ss[i]? = some s := fun {i s} e => by
    rw [List.getElem?_map] at e
    cases q : ss[i]? with
    | none => rw [q] at e; cases e
    | some t => rw [q] at e; cases e; rfl
  have gv : ∀ {i : Nat} {v : V}, vs[i]? = some v → (vs.map some)[i]? = some (some v) := fun {i v} e => by rw [List.getElem?_map, e]; rfl
  have gv' : ∀ {i : Nat} {v : V}, (vs.map some)[i]? = some (some v) → vs[i]? = some v := fun {i s} e => by
    rw [List.getElem?_map] at e
    cases q : vs[i]? with
    | none => rw [q] at e; cases e
    | some t => rw [q] at e; cases e; rfl
  refine ⟨by simp [h.len], Same.refl Z, zh, fun b o e => .inl e, fun b o e _ => e, fun i d e => ?_, fun i ds e => ?_, fun i j ds es p h1 h2 h3 h4 => h.apart (gs h1) (gs h2) (gv' h3) (gv' h4), fun q hq => ?_, fun q hq => nomatch hq⟩
  · obtain ⟨v, h1, h2⟩ := h.datAt (gs e)
    exact ⟨v, gv h1, h2⟩
  · obtain ⟨p, xs, h1, h2, h3, h4, _, h6⟩ := h.ownAt 0 (gs e)
    exact ⟨p, xs, gv h1, h2, h3, h4, .inl (by simpa using h6)⟩
  · obtain ⟨i, h1, h2, ⟨ds, h3⟩, _⟩ := pinsF_mem h hq
    have e : q.1 = i := by omega
    rw [e]
    exact ⟨gv h2, ds, by rw [List.getElem?_map, h3]; rfl⟩
/-- from evaluated arguments -/
theorem hn_of (rl : Rl K B Z H σ ρ) : ∀ {as : List Ar} {ks : List Bool} {vs : List V} {ss : List Sl} {B' : Bs}, B'.H = B.H → Rl K B' Z H σ ρ → ArR K Z H σ ρ B' vs as → slsOf ρ ks as = some ss → (refs as).Nodup →
    ∃ ps, Hn K Z H vs ss ps ∧ ∀ p ∈ ps, (∃ i ds, i ∈ refs as ∧ ρ[i]? = some (some (.own ds)) ∧ σ[i]? = some (some (.ref p))) ∨ (B.H p = none ∧ (∀ q ∈ B'.pend, q.1 ≠ p) ∧ ∀ (i : Nat) (es : List PyData), ρ[i]? = some (some (.own es)) → σ[i]? ≠ some (some (.ref p)))
  | [], ks, vs, ss, B', hB, rb, ha, hs, hn => by
    cases vs with
    | cons v vs => exact ha.elim
    | nil =>
      cases ks with
      | cons k ks => cases hs
      | nil => cases hs; exact ⟨[], .nil, fun p h => nomatch h⟩
  | a :: as, ks, vs, ss, B', hB, rb, ha, hs, hn => by
    cases ks with
    | nil => cases hs
    | cons k ks =>
    cases vs with
    | nil => cases a <;> exact ha.elim
    | cons v vs =>
    unfold slsOf at hs
    cases hs1 : slOf ρ k a with
    | none => rw [hs1] at hs; cases hs
    | some s =>
    rw [hs1] at hs
    cases hs2 : slsOf ρ ks as with
    | none => rw [hs2] at hs; cases hs
    | some ss' =>
    rw [hs2] at hs
    cases hs
    cases a with
    | dat d =>
      obtain ⟨h1, h2⟩ := ha
      obtain ⟨ps, g1, g2⟩ := hn_of rl hB rb h2 hs2 hn
      cases k with
      | true => cases hs1
      | false => cases hs1; exact ⟨ps, .dat h1 g1, g2⟩
    | frs ds =>
      obtain ⟨p, xs, rfl, f1, f2, f3, f4, f5, f6, f7⟩ := ha
      have hr : B'.push p xs = B'.push p xs := rfl
      obtain ⟨ps, g1, g2⟩ := hn_of rl (B' := B'.push p xs) hB (rb.push f1 f2 f6) f7 hs2 hn
      cases k with
      | false => cases hs1
      | true =>
        cases hs1
        refine ⟨p :: ps, .own f1 f2 f5 (fun hm => ?_) g1, fun q hq => ?_⟩
        · rcases g2 p hm with ⟨i, es, _, a1, a2⟩ | ⟨_, a2, _⟩
          · exact f6 i es a1 a2
          · exact a2 (p, xs) List.mem_cons_self rfl
        · rcases List.mem_cons.mp hq with e | hq
          · subst e; exact .inr ⟨by rw [← hB]; exact f3, f4, f6⟩
          · rcases g2 q hq with g | ⟨a1, a2, a3⟩
            · exact .inl g
            · exact .inr ⟨a1, fun x hx => a2 x (List.mem_cons_of_mem _ hx), a3⟩
    | ref i =>
      obtain ⟨h1, h2⟩ := ha
      have hn2 := List.nodup_cons.mp hn
      obtain ⟨ps, g1, g2⟩ := hn_of rl hB rb h2 hs2 hn2.2
      cases k with
      | false => cases hs1
      | true =>
        have hs1 : (getO ρ i).map Sl.own = some s := hs1
        unfold getO at hs1
        split at hs1
        · rename_i ds ho
          cases hs1
          obtain ⟨p, xs, a1, a2, a3, a4, a5⟩ := rl.own i ds ho
          rw [h1] at a1; cases a1
          refine ⟨p :: ps, .own a2 a3 a4 (fun hm => ?_) g1, fun q hq => ?_⟩
          · rcases g2 p hm with ⟨j, es, b1, b2, b3⟩ | ⟨_, _, b3⟩
            · exact hn2.1 (by rw [rl.apart i j ds es p ho b2 h1 b3]; exact b1)
            · exact b3 i ds ho h1
          · rcases List.mem_cons.mp hq with e | hq
            · subst e; exact .inl ⟨i, ds, List.mem_cons_self, ho, h1⟩
            · rcases g2 q hq with ⟨j, es, b1, b2⟩ | g
              · exact .inl ⟨j, es, List.mem_cons_of_mem _ b1, b2⟩
              · exact .inr g
        · cases hs1
end
end Dx

namespace Dx
open PySem PySem.Spec PyProof.Rows L2
section
variable {K : PySem.W.Frag} {B : Bs} {Z Z' H H' : Hp} {σ : L2.St} {ρ ρ' : Env1}
/-- what putBack leaves -/
theorem putBack_len : ∀ {ρ : Env1} {as : List Ar} {out : List Sl} {ρ' : Env1}, putBack ρ as out = some ρ' → ρ'.length = ρ.length
  | ρ, [], [], ρ', h => by cases h; rfl
  | ρ, .ref i :: as, .own ds :: out, ρ', h => by
    have := putBack_len (ρ := ρ.set i (some (.own ds))) (as := as) (out := out) h
    simpa using this
  | ρ, .ref _ :: as, .dat _ :: out, ρ', h => by cases h
  | ρ, .dat _ :: as, _ :: out, ρ', h => putBack_len (ρ := ρ) (as := as) (out := out) h
  | ρ, .frs _ :: as, _ :: out, ρ', h => putBack_len (ρ := ρ) (as := as) (out := out) h
  | ρ, [], _ :: _, ρ', h => by cases h
  | ρ, .ref _ :: _, [], ρ', h => by cases h
  | ρ, .dat _ :: _, [], ρ', h => by cases h
  | ρ, .frs _ :: _, [], ρ', h => by cases h
theorem putBack_at : ∀ {ρ : Env1} {as : List Ar} {out : List Sl} {ρ' : Env1}, putBack ρ as out = some ρ' → (refs as).Nodup → (∀ i ∈ refs as, i < ρ.length) → ∀ (i : Nat),
    (i ∉ refs as ∧ ρ'[i]? = ρ[i]?) ∨ ∃ (j : Nat) (ds : List PyData), as[j]? = some (.ref i) ∧ out[j]? = some (.own ds) ∧ ρ'[i]? = some (some (.own ds))
  | ρ, [], [], ρ', h, hn, hl, i => by cases h; exact .inl ⟨by simp [refs], rfl⟩
  | ρ, .ref k :: as, .own ds :: out, ρ', h, hn, hl, i => by
    have hn2 := List.nodup_cons.mp hn
    have hl2 : ∀ i ∈ refs as, i < (ρ.set k (some (.own ds))).length := fun i hi => by rw [List.length_set]; exact hl i (List.mem_cons_of_mem _ hi)
    rcases putBack_at (ρ := ρ.set k (some (.own ds))) (as := as) (out := out) h hn2.2 hl2 i with ⟨h1, h2⟩ | ⟨j, es, h1, h2, h3⟩
    · by_cases e : i = k
      · subst e
        exact .inr ⟨0, ds, rfl, rfl, by rw [h2, List.getElem?_set_self (hl i List.mem_cons_self)]⟩
      · refine .inl ⟨fun hm => ?_, by rw [h2, List.getElem?_set_ne (Ne.symm e)]⟩
        rcases List.mem_cons.mp hm with q | q
        · exact e q
        · exact h1 q
    · exact .inr ⟨j + 1, es, by simpa using h1, by simpa using h2, h3⟩
  | ρ, .ref _ :: as, .dat _ :: out, ρ', h, hn, hl, i => by cases h
  | ρ, .dat _ :: as, _ :: out, ρ', h, hn, hl, i => by
    rcases putBack_at (ρ := ρ) (as := as) (out := out) h hn hl i with ⟨h1, h2⟩ | ⟨j, es, h1, h2, h3⟩
    · exact .inl ⟨h1, h2⟩
    · exact .inr ⟨j + 1, es, by simpa using h1, by simpa using h2, h3⟩
  | ρ, .frs _ :: as, _ :: out, ρ', h, hn, hl, i => by
    rcases putBack_at (ρ := ρ) (as := as) (out := out) h hn hl i with ⟨h1, h2⟩ | ⟨j, es, h1, h2, h3⟩
    · exact .inl ⟨h1, h2⟩
    · exact .inr ⟨j + 1, es, by simpa using h1, by simpa using h2, h3⟩
  | ρ, [], _ :: _, ρ', h, _, _, _ => by cases h
  | ρ, .ref _ :: _, [], ρ', h, _, _, _ => by cases h
  | ρ, .dat _ :: _, [], ρ', h, _, _, _ => by cases h
  | ρ, .frs _ :: _, [], ρ', h, _, _, _ => by cases h
theorem ArR.refAt : ∀ {as : List Ar} {vs : List V} {B : Bs} {j i : Nat}, ArR K Z H σ ρ B vs as → as[j]? = some (.ref i) → ∃ v, vs[j]? = some v ∧ σ[i]? = some (some v)
  | [], vs, B, j, i, h, e => by simp at e
  | .dat d :: as, v :: vs, B, 0, i, h, e => by cases e
  | .frs d :: as, v :: vs, B, 0, i, h, e => by cases e
  | .ref k :: as, v :: vs, B, 0, i, h, e => by cases e; exact ⟨v, rfl, h.1⟩
  | .dat d :: as, v :: vs, B, j + 1, i, h, e => by
    obtain ⟨w, h1, h2⟩ := ArR.refAt (j := j) (i := i) h.2 (by simpa using e)
    exact ⟨w, by simpa using h1, h2⟩
  | .ref k :: as, v :: vs, B, j + 1, i, h, e => by
    obtain ⟨w, h1, h2⟩ := ArR.refAt (j := j) (i := i) h.2 (by simpa using e)
    exact ⟨w, by simpa using h1, h2⟩
  | .frs d :: as, v :: vs, B, j + 1, i, h, e => by
    obtain ⟨p, xs, _, _, _, _, _, _, _, h⟩ := h
    obtain ⟨w, h1, h2⟩ := ArR.refAt (j := j) (i := i) h (by simpa using e)
    exact ⟨w, by simpa using h1, h2⟩
  | .dat d :: as, [], B, j, i, h, e => h.elim
  | .ref d :: as, [], B, j, i, h, e => h.elim
  | .frs d :: as, [], B, j, i, h, e => h.elim
theorem mem_refs : ∀ {as : List Ar} {j i : Nat}, as[j]? = some (.ref i) → i ∈ refs as
  | [], j, i, e => by simp at e
  | .dat _ :: as, 0, i, e => by cases e
  | .frs _ :: as, 0, i, e => by cases e
  | .ref k :: as, 0, i, e => by cases e; exact List.mem_cons_self
  | .dat _ :: as, j + 1, i, e => mem_refs (as := as) (j := j) (by simpa using e)
  | .frs _ :: as, j + 1, i, e => mem_refs (as := as) (j := j) (by simpa using e)
  | .ref k :: as, j + 1, i, e => List.mem_cons_of_mem _ (mem_refs (as := as) (j := j) (by simpa using e))
theorem slsOf_ref : ∀ {as : List Ar} {ks : List Bool} {ss : List Sl}, slsOf ρ ks as = some ss → ∀ i ∈ refs as, ∃ ds, ρ[i]? = some (some (.own ds))
  | [], _, _, _, i, h => by simp [refs] at h
  | a :: as, [], ss, e, i, h => by cases e
  | a :: as, k :: ks, ss, e, i, h => by
    unfold slsOf at e
    cases hs1 : slOf ρ k a with
    | none => rw [hs1] at e; cases e
    | some s =>
    rw [hs1] at e
    cases hs2 : slsOf ρ ks as with
    | none => rw [hs2] at e; cases e
    | some ss' =>
    cases a with
    | dat d => exact slsOf_ref hs2 i h
    | frs d => exact slsOf_ref hs2 i h
    | ref k' =>
      rcases List.mem_cons.mp h with q | h
      · subst q
        cases k with
        | false => cases hs1
        | true =>
          have hs1 : (getO ρ i).map Sl.own = some s := hs1
          unfold getO at hs1
          split at hs1
          · exact ⟨_, by assumption⟩
          · cases hs1
      · exact slsOf_ref hs2 i h
/-- behind a call: the caller's view again -/
theorem Hn.back {vs : List V} {ss out : List Sl} {ps : List Addr} {as : List Ar} {ks : List Bool} {r : R} {v : V} (rl : Rl K B Z H σ ρ) (ar : ArR K Z H σ ρ B vs as) (hs : slsOf ρ ks as = some ss) (hn : (refs as).Nodup) (h : Hn K Z H vs ss ps)
    (hps : ∀ p ∈ ps, (∃ i ds, i ∈ refs as ∧ ρ[i]? = some (some (.own ds)) ∧ σ[i]? = some (some (.ref p))) ∨ (B.H p = none ∧ (∀ q ∈ B.pend, q.1 ≠ p) ∧ ∀ (i : Nat) (es : List PyData), ρ[i]? = some (some (.own es)) → σ[i]? ≠ some (some (.ref p))))
    (post : Rl K ⟨Z, H, pinsF vs ss 0, []⟩ Z' H' (vs.map some) (out.map some)) (hp : putBack ρ as out = some ρ') (rr : RR K ⟨Z, H, pinsF vs ss 0, []⟩ Z' H' (vs.map some) (out.map some) v r) : Rl K B Z' H' σ ρ' ∧ RR K B Z' H' σ ρ' v r := by
  have hrl : ∀ i ∈ refs as, i < ρ.length := fun i hi => by
    obtain ⟨ds, e⟩ := slsOf_ref hs i hi
    exact (List.getElem?_eq_some_iff.mp e).1
  have at' := putBack_at hp hn hrl
  have inps : ∀ q ∈ pinsF vs ss 0, q.2 ∈ ps := fun q hq => (pinsF_mem h hq).choose_spec.2.2.2
  have gv' : ∀ {i : Nat} {v : V}, (vs.map some)[i]? = some (some v) → vs[i]? = some v := fun {i s} e => by
    rw [List.getElem?_map] at e
    cases q : vs[i]? with
    | none => rw [q] at e; cases e
    | some t => rw [q] at e; cases e; rfl
  -- own in ρ' was own in ρ
  have was : ∀ {i : Nat} {ds : List PyData}, ρ'[i]? = some (some (.own ds)) → ∃ es, ρ[i]? = some (some (.own es)) := fun {i ds} e => by
    rcases at' i with ⟨_, h2⟩ | ⟨j, es, h1, _, _⟩
    · exact ⟨ds, by rw [← h2]; exact e⟩
    · exact slsOf_ref hs i (mem_refs h1)
  have keep : ∀ b o, H b = some o → b ∉ ps → H' b = some o := fun b o e nb => post.kp b o e fun q hq z => nb (z ▸ inps q hq)
  have nps : ∀ b o, B.H b = some o → (∀ q ∈ B.pins, q.2 ≠ b) → b ∉ ps := fun b o e n hm => by
    rcases hps b hm with ⟨i, ds, _, h1, h2⟩ | ⟨h1, _⟩
    · obtain ⟨p, xs, a1, _, _, _, a5⟩ := rl.own i ds h1
      rw [h2] at a1; cases a1
      rcases a5 with a5 | a5
      · exact n _ a5 rfl
      · rw [e] at a5; cases a5
    · rw [e] at h1; cases h1
  have zn : ∀ b, Z b = none → (∃ o, H b = some o) → Z' b = none := fun b e ⟨o, ho⟩ => by
    cases q : Z' b with
    | none => rfl
    | some u =>
      rcases post.zn b u q with z | z
      · rw [show (⟨Z, H, pinsF vs ss 0, []⟩ : Bs).Z b = Z b from rfl, e] at z; cases z
      · rw [show (⟨Z, H, pinsF vs ss 0, []⟩ : Bs).H b = H b from rfl, ho] at z; cases z
  have R1 : Rl K B Z' H' σ ρ' := by
    refine ⟨by rw [putBack_len hp]; exact rl.len, rl.bz.trans post.bz, post.zh, fun b o e => ?_, fun b o e n => keep b o (rl.kp b o e n) (nps b o e n), fun i d e => ?_, fun i ds e => ?_, fun i j ds es p h1 h2 h3 h4 => ?_, fun q hq => ?_, fun q hq => ?_⟩
    · rcases post.zn b o e with z | z
      · exact rl.zn b o z
      · exact .inr (rl.bfree z)
    · rcases at' i with ⟨_, h2⟩ | ⟨j, es, _, _, h3⟩
      · rw [h2] at e
        obtain ⟨v, a1, a2⟩ := rl.dat i d e
        exact ⟨v, a1, a2.up post.bz⟩
      · rw [h3] at e; cases e
    · rcases at' i with ⟨hni, h2⟩ | ⟨j, es, h1, h2, h3⟩
      · rw [h2] at e
        obtain ⟨p, xs, a1, a2, a3, a4, a5⟩ := rl.own i ds e
        refine ⟨p, xs, a1, keep p _ a2 (fun hm => ?_), zn p a3 ⟨_, a2⟩, a4.up post.bz, a5⟩
        rcases hps p hm with ⟨k, es, b1, b2, b3⟩ | ⟨_, _, b3⟩
        · exact hni (by rw [rl.apart i k ds es p e b2 a1 b3]; exact b1)
        · exact b3 i ds e a1
      · rw [h3] at e; cases e
        obtain ⟨w, b1, b2⟩ := ar.refAt h1
        obtain ⟨p, xs, c1, c2, c3, c4, c5⟩ := post.own j _ (by rw [List.getElem?_map, h2]; rfl)
        have c1 := gv' c1
        rw [b1] at c1; cases c1
        obtain ⟨ds0, d0⟩ := slsOf_ref hs i (mem_refs h1)
        obtain ⟨p', xs', e1, e2, e3, e4, e5⟩ := rl.own i ds0 d0
        rw [b2] at e1; cases e1
        exact ⟨p, xs, b2, c2, c3, c4, e5⟩
    · obtain ⟨_, h1⟩ := was h1
      obtain ⟨_, h2⟩ := was h2
      exact rl.apart i j _ _ p h1 h2 h3 h4
    · obtain ⟨a1, ds, a2⟩ := rl.pin q hq
      refine ⟨a1, ?_⟩
      rcases at' q.1 with ⟨_, h2⟩ | ⟨j, es, _, _, h3⟩
      · exact ⟨ds, by rw [h2]; exact a2⟩
      · exact ⟨es, h3⟩
    · obtain ⟨a1, a2, a3⟩ := rl.pd q hq
      refine ⟨keep _ _ a1 (fun hm => ?_), zn _ a2 ⟨_, a1⟩, fun i ds e => ?_⟩
      · rcases hps q.1 hm with ⟨k, es, b1, b2, b3⟩ | ⟨_, b2, _⟩
        · exact a3 k es b2 b3
        · exact b2 q hq rfl
      · obtain ⟨es, e⟩ := was e
        exact a3 i es e
  refine ⟨R1, ?_⟩
  cases r with
  | dat d => exact rr
  | frs ds =>
    obtain ⟨p, xs, rfl, f1, f2, f3, f4, f5, f6⟩ := rr
    refine ⟨p, xs, rfl, f1, f2, rl.bfree f3, rl.npend f3, f5, fun i es e z => ?_⟩
    obtain ⟨es', e⟩ := was e
    obtain ⟨p', xs', e1, e2, _⟩ := rl.own i es' e
    rw [z] at e1; cases e1
    rw [show H p = none from f3] at e2; cases e2
end
end Dx

namespace Dx
open PySem PySem.Spec PyProof.Rows L2
section
variable {G : Gx} {N : List Str} {k : Nat} {X : Cx} {pn : List Nat}
theorem noStar {f : Expr → Option I} {e : Expr} {i : I} (hf : ∀ v p, f (.Starred v p) = none) (h : f e = some i) (es : List Expr) (env : Env) : starEach (e :: es) env = (false, eval e env) :: starEach es env := by
  cases e <;> first
    | rfl
    | (rw [hf] at h; cases h)
theorem noStars {f : Expr → Option I} (hf : ∀ v p, f (.Starred v p) = none) (pos : Pos) (env : Env) : ∀ (es : List Expr) (i : I), lsG f es = some i → (backTo pos (starEach es env)).any (·.1) = false
  | [], i, _ => rfl
  | e :: es, i, h => by
    unfold lsG at h
    cases h1 : f e with
    | none => rw [h1] at h; cases h
    | some a =>
      rw [h1] at h
      cases h2 : lsG f es with
      | none => rw [h2] at h; cases h
      | some b =>
        rw [noStar hf h1 es env]
        have := noStars hf pos env es b h2
        show (false || (backTo pos (starEach es env)).any (·.1)) = false
        rw [this]; rfl
/-- a def of the module called by places -/
theorem run_ct {f : Addr} {fd : FuncData} {ps : List Str} {g : Gf} {pins : List (Addr × Obj)} {σ : L2.St} {H : Hp} {s : Shared} {Q : VK} {us : List Value} {vs : List V}
    (F : Ct X.prog X.w X.K X.mg X.base k f fd ps (spR X.K g)) (hr : GRoom k X.A) (hb : Binds X.K fd ps []) (hl : ps.length = g.kinds.length) (I : Inv X pins σ H s) (r : Vals vs us) (h : spR X.K g vs H Q E0) :
    wpAny (model X.prog X.w) X.A (PySem.call (.ref f) us) (EP X pins σ Q) X.xe s := by
  have e1 : us.length = ps.length := by rw [← r.length, hl]; exact h.1
  have bt : BindsTo s fd ⟨us, []⟩ (ps.zip us) := by
    have z := hb s us I.kIn (by simpa using e1)
    rw [List.append_nil] at z
    exact z
  refine wpAny_call (codeAny_mono (F.run X.A X.stack s H ⟨us, []⟩ us vs Q hr I.env0 bt r h) fun r' s' hq => ?_)
  cases r' with
  | error e => exact False.elim hq
  | ok fl =>
    cases fl with
    | ret u => exact I.after hq
    | next => exact False.elim hq
    | brk => exact False.elim hq
    | cont => exact False.elim hq
theorem pe_ct {f : Addr} {fd : FuncData} {ps : List Str} {g : Gf} {x : Str} {p pos : Pos} {e : Expr} {es : List Expr} {t : TA} (F : Ct X.prog X.w X.K X.mg X.base k f fd ps (spR X.K g)) (hr : GRoom k X.A) (hl : ps.length = g.kinds.length) (hb : Binds X.K fd ps [])
    (hg : Gl X x) (hm : X.mg x = some (.ref f)) (hk : PySem.W.keepIn X.K (.ref f) = true) (ha : PA X (e :: es) t) (hd : (x == ("__debug__" : Str)) = false) (he : starEach (e :: es) X.env = (false, eval e X.env) :: starEach es X.env) (hpl : (backTo pos (starEach es X.env)).any (·.1) = false) :
    PE X (.Call (.Name x p) (e :: es) [] pos) (fun σ H Q => t σ H fun vs H1 => spR X.K g vs H1 Q E0) := by
  refine ⟨fun pins s σ H Q I h => ?_⟩
  refine wpAny_Call_Name_kw (ld_glob I hg hm ?_ hd)
  exact PySem.W.callWith_K (h₀ := X.base) I.ok.mod.kin hk (thn (ha.run pos pins s σ H _ I h) fun us s1 ⟨vs, H1, I1, r, q⟩ => ⟨I1.kIn, run_ct F hr hb hl I1 r q⟩) he hpl
theorem de_call (gd : Gd G N k X) {x : Str} {g : Gf} (hgf : G.fns x = some g) {p pos : Pos} {e : Expr} {es : List Expr} {fa : List Bool → Env1 → Option (List Ar × Env1)} {fe : Env1 → Option (R × Env1)} (ha : DA X pn (e :: es) fa)
    (hg : Gl X x) (hd : (x == ("__debug__" : Str)) = false) (he : starEach (e :: es) X.env = (false, eval e X.env) :: starEach es X.env) (hpl : (backTo pos (starEach es X.env)).any (·.1) = false)
    (hf : ∀ ρ, fe ρ = (do
      let (xs, ρ1) ← fa g.kinds ρ
      if (refs xs).Nodup then do
        let ss ← slsOf ρ1 g.kinds xs
        let (r, out) ← g.f ss
        let ρ2 ← putBack ρ1 xs out
        some (r, ρ2)
      else none)) : DE X pn (.Call (.Name x p) (e :: es) [] pos) fe := by
  obtain ⟨a, fd, ps, h1, h2, h3, h4, h5, _⟩ := gd.fns x g hgf
  refine PE.imp (pe_ct h5 gd.room h3 h4 hg h1 h2 (ha g.kinds) hd he hpl) fun σ H Q ⟨B, Z, ρ, r, ρ', hp, rl, e1, q⟩ => ?_
  rw [hf] at e1
  cases c1 : fa g.kinds ρ with
  | none => rw [c1] at e1; cases e1
  | some w =>
  obtain ⟨xs, ρ1⟩ := w
  rw [c1] at e1
  simp only [Option.bind_eq_bind, Option.bind_some] at e1
  split at e1
  case isFalse => cases e1
  case isTrue hn =>
  cases c2 : slsOf ρ1 g.kinds xs with
  | none => rw [c2] at e1; cases e1
  | some ss =>
  rw [c2] at e1
  simp only [Option.bind_some] at e1
  cases c3 : g.f ss with
  | none => rw [c3] at e1; cases e1
  | some w =>
  obtain ⟨r1, out⟩ := w
  rw [c3] at e1
  simp only [Option.bind_some] at e1
  cases c4 : putBack ρ1 xs out with
  | none => rw [c4] at e1; cases e1
  | some ρ2 =>
  rw [c4] at e1
  cases e1
  refine ⟨B, Z, ρ, xs, ρ1, hp, rl, c1, fun vs H1 Z1 rl1 sm1 ar => ?_⟩
  obtain ⟨pads, hh, hps⟩ := hn_of rl1 rfl rl1 ar c2 hn
  have sl : ∀ {ks : List Bool} {as : List Ar} {ss : List Sl}, slsOf ρ1 ks as = some ss → ss.length = ks.length := fun {ks} => by
    induction ks with
    | nil => intro as ss h; cases as <;> cases h; rfl
    | cons k ks ih =>
      intro as ss h
      cases as with
      | nil => cases h
      | cons a as =>
        unfold slsOf at h
        cases q1 : slOf ρ1 k a with
        | none => rw [q1] at h; cases h
        | some s =>
          rw [q1] at h
          cases q2 : slsOf ρ1 ks as with
          | none => rw [q2] at h; cases h
          | some t => rw [q2] at h; cases h; simp [ih q2]
  refine ⟨by rw [hh.len, sl c2], ⟨Z1, H1, pinsF vs ss 0, []⟩, ss, out, _, rfl, rfl, pinsF_fst hh, hh.entry rl1.zh, c3, fun v H2 Z2 post sm2 rr => ?_⟩
  obtain ⟨b1, b2⟩ := Hn.back rl1 ar c2 hn hh hps post c4 rr
  exact q v H2 Z2 b1 (sm1.trans sm2) b2
/-- all-data arguments -/
theorem hn_dat {K : PySem.W.Frag} {Z H : Hp} : ∀ {vs : List V} {ds : List PyData}, DvAll K Z vs ds → Hn K Z H vs (ds.map .dat) []
  | _, _, .nil => .nil
  | _, _, .cons a t => .dat a (hn_dat t)
theorem arR_dat {K : PySem.W.Frag} {Z H : Hp} {σ : L2.St} {ρ : Env1} : ∀ {vs : List V} {ds : List PyData} (B : Bs), DvAll K Z vs ds → ArR K Z H σ ρ B vs (ds.map .dat)
  | _, _, _, .nil => True.intro
  | _, _, B, .cons a t => ⟨a, arR_dat B t⟩
theorem sls_dat {ρ : Env1} : ∀ (ds : List PyData), slsOf ρ (ds.map fun _ => false) (ds.map .dat) = some (ds.map .dat)
  | [] => rfl
  | d :: ds => by
    show (do let s ← slOf ρ false (.dat d); let t ← slsOf ρ (ds.map fun _ => false) (ds.map .dat); some (s :: t)) = _
    rw [sls_dat ds]; rfl
theorem refs_dat : ∀ (ds : List PyData), refs (ds.map .dat) = []
  | [] => rfl
  | d :: ds => refs_dat ds
theorem back_dat {ρ : Env1} : ∀ (ds : List PyData) (out : List Sl), out.length = ds.length → putBack ρ (ds.map .dat) out = some ρ
  | [], [], _ => rfl
  | [], _ :: _, h => by cases h
  | _ :: _, [], h => by cases h
  | d :: ds, o :: out, h => by
    show putBack ρ (ds.map .dat) out = some ρ
    exact back_dat ds out (Nat.succ.inj h)
theorem own_dat : ∀ (ds : List PyData) (n : Nat), ownsAt (ds.map .dat) n = []
  | [], _ => rfl
  | _ :: ds, n => own_dat ds (n + 1)
theorem pinsF_dat : ∀ (vs : List V) (ds : List PyData) (n : Nat), pinsF vs (ds.map .dat) n = []
  | [], [], _ => rfl
  | [], _ :: _, _ => rfl
  | v :: vs, [], _ => by cases v <;> rfl
  | v :: vs, d :: ds, n => by
    have := pinsF_dat vs ds (n + 1)
    cases v <;> exact this
theorem DvAll.pick {K : PySem.W.Frag} {Z : Hp} {vs : List V} {ds : List PyData} (h : DvAll K Z vs ds) : ∀ {pm : List Nat}, (∀ i ∈ pm, i < ds.length) → DvAll K Z (pm.map fun i => vs.getD i .non) (pm.map fun i => ds.getD i .none)
  | [], _ => .nil
  | i :: pm, hl => by
    have hi := hl i List.mem_cons_self
    obtain ⟨v, h1, h2⟩ := h.get (List.getElem?_eq_getElem hi)
    refine .cons ?_ (DvAll.pick h fun j hj => hl j (List.mem_cons_of_mem _ hj))
    show Dv K Z (vs.getD i .non) (ds.getD i .none)
    rw [List.getD_eq_getElem?_getD, List.getD_eq_getElem?_getD, h1, List.getElem?_eq_getElem hi]
    exact h2
theorem vals_pick {vs : List V} {us : List Value} (h : Vals vs us) : ∀ {pm : List Nat}, (∀ i ∈ pm, i < vs.length) → Vals (pm.map fun i => vs.getD i .non) (pm.map fun i => us.getD i .none)
  | [], _ => .nil
  | i :: pm, hl => by
    refine .cons ?_ (vals_pick h fun j hj => hl j (List.mem_cons_of_mem _ hj))
    have hi := hl i List.mem_cons_self
    have at' : ∀ {vs : List V} {us : List Value} (i : Nat), Vals vs us → i < vs.length → RelV (vs.getD i .non) (us.getD i .none) := by
      intro vs us i h
      induction h generalizing i with
      | nil => intro z; cases z
      | cons a t ih =>
        intro z
        cases i with
        | zero => exact a
        | succ i => exact ih i (Nat.lt_of_succ_lt_succ z)
    exact at' i h hi
theorem kwEach_all (pos : Pos) (env : Env) : ∀ (kws : List Keyword) (ks : List Str), kwN kws = some ks → (backToKw pos (keywordEach kws env)).all (·.1.isSome) = true ∧ (backToKw pos (keywordEach kws env)).filterMap (·.1) = ks ∧ (backToKw pos (keywordEach kws env)).any (·.1.isNone) = false
  | [], ks, h => by cases h; exact ⟨rfl, rfl, rfl⟩
  | ⟨none, e, p⟩ :: r, ks, h => by cases h
  | ⟨some x, e, p⟩ :: r, ks, h => by
    unfold kwN at h
    cases q : kwN r with
    | none => rw [q] at h; cases h
    | some ks' =>
      rw [q] at h; cases h
      obtain ⟨h1, h2, h3⟩ := kwEach_all pos env r ks' q
      refine ⟨?_, ?_, ?_⟩
      · show (true && (backToKw pos (keywordEach r env)).all (·.1.isSome)) = true
        rw [h1]; rfl
      · show x :: (backToKw pos (keywordEach r env)).filterMap (·.1) = x :: ks'
        rw [h2]
      · show (false || (backToKw pos (keywordEach r env)).any (·.1.isNone)) = false
        rw [h3]; rfl
theorem pk_imp {X : Cx} {e : List Keyword} {t t' : TA} (h : PK X e t) (q : ∀ σ H Q, t' σ H Q → t σ H Q) : PK X e t' := ⟨fun pos pins s σ H Q I z => h.run pos pins s σ H Q I (q σ H Q z)⟩
theorem dk_cons {e : Expr} {kpos : Pos} {nm : Option Str} {kws : List Keyword} {fe : Env1 → Option (R × Env1)} {fr f : List Bool → Env1 → Option (List Ar × Env1)} {var : Option Nat} (he : DE X pn e fe) (hr : PK X kws (tDA X.K pn [] fr))
    (hf : ∀ ks ρ, f ks ρ = (do let (x, ρ1) ← argG fe var ks ρ; let (xs, ρ2) ← fr ks.tail ρ1; some (x :: xs, ρ2))) : PK X (⟨nm, e, kpos⟩ :: kws) (tDA X.K pn [] f) := pk_imp (pk_cons he hr) fun σ H Q ⟨B, Z, ρ, as, ρ', hp, rl, e1, q⟩ => by
  rw [hf] at e1
  simp only [argG, Option.bind_eq_bind, List.tail_nil] at e1
  cases hx : fe ρ with
  | none => rw [hx] at e1; cases e1
  | some p =>
  obtain ⟨x, ρ1⟩ := p
  rw [hx] at e1
  simp only [Option.bind_some] at e1
  cases hy : fr [] ρ1 with
  | none => rw [hy] at e1; cases e1
  | some p2 =>
  obtain ⟨xs, ρ2⟩ := p2
  rw [hy] at e1; cases e1
  refine tD_d hp rl hx fun v H1 Z1 rl1 sm1 dv => ?_
  refine ⟨B, Z1, ρ1, xs, _, hp, rl1, hy, fun vs H2 Z2 rl2 sm2 ar => ?_⟩
  exact q (v :: vs) H2 Z2 rl2 (sm1.trans sm2) ⟨dv.up sm2, ar⟩
theorem de_callK (gd : Gd G N k X) {x : Str} {g : Gf} (hgf : G.fns x = some g) {p pos : Pos} {kws : List Keyword} {ks : List Str} {pm : List Nat} {fa : List Bool → Env1 → Option (List Ar × Env1)} {fe : Env1 → Option (R × Env1)} (ha : PK X kws (tDA X.K pn [] fa))
    (hg : Gl X x) (hd : (x == ("__debug__" : Str)) = false) (hks : kwN kws = some ks) (hm : (x, ks, pm) ∈ G.kw)
    (hf : ∀ ρ, fe ρ = (do
        let (xs, ρ1) ← fa [] ρ
        let ds ← arsD xs
        if ds.length = pm.length then do
          let (r, _) ← g.f (pm.map fun i => .dat (ds.getD i .none))
          some (r, ρ1)
        else none)) : DE X pn (.Call (.Name x p) [] kws pos) fe := by
  obtain ⟨a, fd, ps, h1, h2, h3, h4, h5, h6⟩ := gd.fns x g hgf
  obtain ⟨k1, k2, k3, k4⟩ := h6 ks pm hm
  obtain ⟨e1, e2, e3⟩ := kwEach_all pos X.env kws ks hks
  refine ⟨fun pins s σ H Q I h => ?_⟩
  obtain ⟨B, Z, ρ, r, ρ', hp, rl, e, q⟩ := h
  rw [hf] at e
  cases c1 : fa [] ρ with
  | none => rw [c1] at e; cases e
  | some w =>
  obtain ⟨xs, ρ1⟩ := w
  rw [c1] at e
  simp only [Option.bind_eq_bind, Option.bind_some] at e
  cases c2 : arsD xs with
  | none => rw [c2] at e; cases e
  | some ds =>
  rw [c2] at e
  simp only [Option.bind_some] at e
  split at e
  case isFalse => cases e
  rename_i hlen
  cases c3 : g.f (pm.map fun i => .dat (ds.getD i .none)) with
  | none => rw [c3] at e; cases e
  | some w =>
  obtain ⟨r1, out⟩ := w
  rw [c3] at e; cases e
  refine wpAny_Call_Name_kw (ld_glob I hg h1 ?_ hd)
  refine PySem.W.callWith_KW0 (h₀ := X.base) I.ok.mod.kin h2 e1 ?_ (by rw [e3]; rfl)
  refine thn (ha.run pos pins s σ H (fun vs H1 => vs.length = ks.length ∧ spR X.K g (pm.map fun i => vs.getD i .non) H1 Q E0) I ⟨B, Z, ρ, xs, _, hp, rl, c1, fun vs H1 Z1 rl1 sm1 ar => ?_⟩) fun ws s2 ⟨zs, H2, I2, rz, q1, q2⟩ => ⟨I2.kIn, ?_⟩
  · have dv : DvAll X.K Z1 vs ds := ar.data c2
    have hl : ∀ i ∈ pm, i < ds.length := fun i hi => by
      have := k3 i hi
      omega
    have dp := dv.pick hl
    have eqm : (pm.map fun i => Sl.dat (ds.getD i .none)) = (pm.map fun i => ds.getD i .none).map Sl.dat := by rw [List.map_map]; rfl
    rw [eqm] at c3
    generalize (pm.map fun i => ds.getD i .none) = es at dp c3
    show vs.length = ks.length ∧ spR X.K g (pm.map fun i => vs.getD i .non) H1 Q E0
    have lenP : (pm.map fun i => vs.getD i .non).length = pm.length := List.length_map _
    generalize (pm.map fun i => vs.getD i .non) = us at dp lenP
    refine ⟨by rw [dv.len]; omega, by omega, ⟨Z1, H1, [], []⟩, es.map .dat, out, r1, rfl, rfl, ?_, ?_, c3, fun v H3 Z3 post sm3 rr => ?_⟩
    · rw [own_dat]; rfl
    · have := (hn_dat (H := H1) dp).entry rl1.zh
      rw [pinsF_dat] at this
      exact this
    · have pq := pinsF_dat us es 0
      have lo : out.length = es.length := by
        have h1 := post.len
        have h2 := dp.len
        rw [List.length_map, List.length_map] at h1
        omega
      obtain ⟨b1, b2⟩ := Hn.back (H' := H3) (Z' := Z3) (out := out) (r := r1) (v := v) rl1 (arR_dat B dp) (sls_dat es) (by rw [refs_dat]; exact List.nodup_nil) (hn_dat dp) (fun p hp => by cases hp) (by rw [pq]; exact post) (back_dat es out lo) (by rw [pq]; exact rr)
      exact q v H3 Z3 b1 (sm1.trans sm3) b2
  · rw [e2]
    have lw : ws.length = ks.length := by rw [← rz.length, q1]
    have bt := k4 s2 ws I2.kIn lw
    have vr : Vals (pm.map fun i => zs.getD i .non) (pm.map fun i => ws.getD i .none) := vals_pick rz fun i hi => by rw [q1]; exact k3 i hi
    refine wpAny_call (codeAny_mono (h5.run X.A X.stack s2 H2 ⟨[], ks.zip ws⟩ _ _ Q gd.room I2.env0 bt vr q2) fun r' s' hq => ?_)
    cases r' with
    | error e => exact False.elim hq
    | ok fl =>
      cases fl with
      | ret u => exact I2.after hq
      | next => exact False.elim hq
      | brk => exact False.elim hq
      | cont => exact False.elim hq
end
end Dx

namespace Dx
open PySem PySem.Spec PyProof.Rows L2
/-! ## Iterables -/
structure ItOk (K : PySem.W.Frag) (Z : Hp) (J : It) (items : List PyData) : Prop where
  go : ∀ i H, Same Z H → i < items.length → J.go i H
  stop : ∀ H, Same Z H → J.stop items.length H
  yld : ∀ i d H x H', Same Z H → items[i]? = some d → J.yld i H x H' → (H' = H ∧ Dv K Z x d) ∨ ∃ T xs ds, H T = none ∧ H' = upd H T (.tup xs) ∧ x = .ref T ∧ d = .tuple ds ∧ DvAll K Z xs ds
def tDI (K : PySem.W.Frag) (pn : List Nat) (f : Env1 → Option (List PyData × Env1)) : TI := fun σ H Q =>
  ∃ B Z ρ is ρ', pnOf B = pn ∧ Rl K B Z H σ ρ ∧ f ρ = some (is, ρ') ∧ ∀ J H' Z', Rl K B Z' H' σ ρ' → Same Z Z' → ItOk K Z' J is → Q J H'
def DI (X : Cx) (pn : List Nat) (tg e : Expr) (f : Env1 → Option (List PyData × Env1)) : Prop := PI X tg e (tDI X.K pn f)
theorem PI.imp {X : Cx} {tg e : Expr} {t t' : TI} (h : PI X tg e t) (q : ∀ σ H Q, t' σ H Q → t σ H Q) : PI X tg e t' := ⟨fun pins s σ H Q I z => h.run pins s σ H Q I (q σ H Q z)⟩
theorem PI.or {X : Cx} {tg e : Expr} {t t' : TI} (h : PI X tg e t) (h' : PI X tg e t') : PI X tg e (fun σ H Q => t σ H Q ∨ t' σ H Q) := ⟨fun pins s σ H Q I z => by
  rcases z with z | z
  · exact h.run pins s σ H Q I z
  · exact h'.run pins s σ H Q I z⟩
section
variable {K : PySem.W.Frag} {Z H : Hp} {a b : Addr} {xs ys : List V} {ds es : List PyData}
theorem okL (h : SqL K Z a xs) (hd : DvAll K Z xs ds) : ItOk K Z (Itl K a) ds where
  go := fun i H sm hi => by
    obtain ⟨v, h1, _⟩ := hd.get (List.getElem?_eq_getElem hi)
    exact ⟨xs, v, Same.seq sm h, h1⟩
  stop := fun H sm => ⟨xs, Same.seq sm h, by rw [hd.len]; exact Nat.le_refl _⟩
  yld := fun i d H x H' sm e y => by
    obtain ⟨h1, h2⟩ := y
    obtain ⟨v, h3, h4⟩ := hd.get e
    have := h2 xs (Same.seq sm h)
    rw [h3] at this; cases this
    exact .inl ⟨h1, h4⟩
theorem okT (h : SqT K Z a xs) (hd : DvAll K Z xs ds) : ItOk K Z (Itt K a) ds where
  go := fun i H sm hi => by
    obtain ⟨v, h1, _⟩ := hd.get (List.getElem?_eq_getElem hi)
    exact ⟨xs, v, sameT sm h, h1⟩
  stop := fun H sm => ⟨xs, sameT sm h, by rw [hd.len]; exact Nat.le_refl _⟩
  yld := fun i d H x H' sm e y => by
    obtain ⟨h1, h2⟩ := y
    obtain ⟨v, h3, h4⟩ := hd.get e
    have := h2 xs (sameT sm h)
    rw [h3] at this; cases this
    exact .inl ⟨h1, h4⟩
theorem okE (h : SqL K Z a xs) (hd : DvAll K Z xs ds) : ItOk K Z (Ite K a) (ds.mapIdx fun (i : Nat) x => .tuple [.int i, x]) where
  go := fun i H sm hi => by
    obtain ⟨v, h1, _⟩ := hd.get (List.getElem?_eq_getElem (show i < ds.length by simpa using hi))
    exact ⟨xs, v, Same.seq sm h, h1⟩
  stop := fun H sm => ⟨xs, Same.seq sm h, by rw [List.length_mapIdx, hd.len]; exact Nat.le_refl _⟩
  yld := fun i d H x H' sm e y => by
    obtain ⟨T, x0, h1, h2, h3, h4⟩ := y
    rw [List.getElem?_mapIdx] at e
    cases q : ds[i]? with
    | none => rw [q] at e; cases e
    | some d0 =>
      rw [q] at e; cases e
      obtain ⟨v, h5, h6⟩ := hd.get q
      have := h4 xs (Same.seq sm h)
      rw [h5] at this; cases this
      exact .inr ⟨T, _, _, h2, h3, h1, rfl, .cons (.int _) (.cons h6 .nil)⟩
theorem okET (h : SqT K Z a xs) (hd : DvAll K Z xs ds) : ItOk K Z (IteT K a) (ds.mapIdx fun (i : Nat) x => .tuple [.int i, x]) where
  go := fun i H sm hi => by
    obtain ⟨v, h1, _⟩ := hd.get (List.getElem?_eq_getElem (show i < ds.length by simpa using hi))
    exact ⟨xs, v, sameT sm h, h1⟩
  stop := fun H sm => ⟨xs, sameT sm h, by rw [List.length_mapIdx, hd.len]⟩
  yld := fun i d H x H' sm e y => by
    obtain ⟨T, x0, h1, h2, h3, h4⟩ := y
    rw [List.getElem?_mapIdx] at e
    cases q : ds[i]? with
    | none => rw [q] at e; cases e
    | some d0 =>
      rw [q] at e; cases e
      obtain ⟨v, h5, h6⟩ := hd.get q
      have := h4 xs (sameT sm h)
      rw [h5] at this; cases this
      exact .inr ⟨T, _, _, h2, h3, h1, rfl, .cons (.int _) (.cons h6 .nil)⟩
theorem okZ (h : SqL K Z a xs) (hd : DvAll K Z xs ds) (h' : SqL K Z b ys) (hd' : DvAll K Z ys es) : ItOk K Z (Itz K a b) (List.zipWith (fun x y => .tuple [x, y]) ds es) where
  go := fun i H sm hi => by
    have hi : i < min ds.length es.length := by simpa using hi
    obtain ⟨v, h1, _⟩ := hd.get (List.getElem?_eq_getElem (show i < ds.length by omega))
    obtain ⟨w, h2, _⟩ := hd'.get (List.getElem?_eq_getElem (show i < es.length by omega))
    exact ⟨xs, ys, v, w, Same.seq sm h, Same.seq sm h', h1, h2⟩
  stop := fun H sm => ⟨xs, ys, Same.seq sm h, Same.seq sm h', by rw [List.length_zipWith, hd.len, hd'.len]; omega⟩
  yld := fun i d H x H' sm e y => by
    obtain ⟨T, x0, y0, h1, h2, h3, h4, h5⟩ := y
    rw [List.getElem?_zipWith] at e
    cases q : ds[i]? with
    | none => rw [q] at e; cases e
    | some d0 =>
      rw [q] at e
      cases q' : es[i]? with
      | none => rw [q'] at e; cases e
      | some e0 =>
        rw [q'] at e; cases e
        obtain ⟨v, h6, h7⟩ := hd.get q
        obtain ⟨w, h8, h9⟩ := hd'.get q'
        have t1 := h4 xs (Same.seq sm h)
        have t2 := h5 ys (Same.seq sm h')
        rw [h6] at t1; cases t1
        rw [h8] at t2; cases t2
        exact .inr ⟨T, _, _, h2, h3, h1, rfl, .cons h7 (.cons h9 .nil)⟩
theorem okZT (h : SqT K Z a xs) (hd : DvAll K Z xs ds) (h' : SqT K Z b ys) (hd' : DvAll K Z ys es) : ItOk K Z (RZ.ItzT K a b) (List.zipWith (fun x y => .tuple [x, y]) ds es) where
  go := fun i H sm hi => by
    have hi : i < min ds.length es.length := by simpa using hi
    obtain ⟨v, h1, _⟩ := hd.get (List.getElem?_eq_getElem (show i < ds.length by omega))
    obtain ⟨w, h2, _⟩ := hd'.get (List.getElem?_eq_getElem (show i < es.length by omega))
    exact ⟨xs, ys, v, w, sameT sm h, sameT sm h', h1, h2⟩
  stop := fun H sm => ⟨xs, ys, sameT sm h, sameT sm h', by rw [List.length_zipWith, hd.len, hd'.len]; omega⟩
  yld := fun i d H x H' sm e y => by
    obtain ⟨T, x0, y0, h1, h2, h3, h4, h5⟩ := y
    rw [List.getElem?_zipWith] at e
    cases q : ds[i]? with
    | none => rw [q] at e; cases e
    | some d0 =>
      rw [q] at e
      cases q' : es[i]? with
      | none => rw [q'] at e; cases e
      | some e0 =>
        rw [q'] at e; cases e
        obtain ⟨v, h6, h7⟩ := hd.get q
        obtain ⟨w, h8, h9⟩ := hd'.get q'
        have t1 := h4 xs (sameT sm h)
        have t2 := h5 ys (sameT sm h')
        rw [h6] at t1; cases t1
        rw [h8] at t2; cases t2
        exact .inr ⟨T, _, _, h2, h3, h1, rfl, .cons h7 (.cons h9 .nil)⟩
theorem okR {lo : Int} {n : Nat} : ItOk K Z (Itr lo n) ((List.range n).map fun (i : Nat) => .int (lo + i)) where
  go := fun i H sm hi => by show i < n; simpa using hi
  stop := fun H sm => by show n ≤ _; simp
  yld := fun i d H x H' sm e y => by
    obtain ⟨h1, h2⟩ := y
    rw [List.getElem?_map] at e
    cases q : (List.range n)[i]? with
    | none => rw [q] at e; cases e
    | some j =>
      rw [q] at e; cases e
      obtain ⟨hl, hj⟩ := List.getElem?_eq_some_iff.mp q
      rw [List.getElem_range] at hj
      subst hj h2
      exact .inl ⟨h1, .int _⟩
end
section
variable {X : Cx} {pn : List Nat} {tg : Expr} {G : Gx} {N : List Str} {k : Nat}
theorem di_iv {e : Expr} {f : Env1 → Option (R × Env1)} {fi : Env1 → Option (List PyData × Env1)} (he : DE X pn e f) (hf : ∀ ρ, fi ρ = (do let (x, ρ1) ← f ρ; let xs ← seqD x.d; some (xs, ρ1))) : DI X pn tg e fi := by
  refine PI.imp (PI.or (pi_list he) (pi_tup he)) fun σ H Q ⟨B, Z, ρ, is, ρ', hp, rl, e1, q⟩ => ?_
  rw [hf] at e1
  cases c1 : f ρ with
  | none => rw [c1] at e1; cases e1
  | some w =>
  obtain ⟨x, ρ1⟩ := w
  rw [c1] at e1
  simp only [Option.bind_eq_bind, Option.bind_some] at e1
  cases c2 : seqD x.d with
  | none => rw [c2] at e1; cases e1
  | some xs =>
  rw [c2] at e1; cases e1
  unfold seqD at c2
  split at c2
  · rename_i ys hx
    cases c2
    refine .inl (tD_d hp rl c1 fun v H' Z' rl' sm dv => ?_)
    rw [hx] at dv
    cases dv with | lst a b => exact ⟨_, rfl, ⟨_, (Same.seq rl'.zh a)⟩, q _ _ _ rl' sm (okL a b)⟩
  · rename_i ys hx
    cases c2
    refine .inr (tD_d hp rl c1 fun v H' Z' rl' sm dv => ?_)
    rw [hx] at dv
    cases dv with | tup a b => exact ⟨_, rfl, ⟨_, sameT rl'.zh a⟩, q _ _ _ rl' sm (okT a b)⟩
  · cases c2
theorem di_rng1 {a : Expr} {p pos : Pos} {fa : Env1 → Option (R × Env1)} {fi : Env1 → Option (List PyData × Env1)} (hg : Gl X "range") (hm : X.mg "range" = none) (ha : DE X pn a fa) (hs : starEach [a] X.env = [(false, eval a X.env)])
    (hf : ∀ ρ, fi ρ = (do let (x, ρ1) ← fa ρ; let is ← rngD [x.d]; some (is, ρ1))) : DI X pn tg (.Call (.Name "range" p) [a] [] pos) fi := by
  refine PI.imp (pi_range1 hg hm (pa_cons ha pa_nil hs) hs) fun σ H Q ⟨B, Z, ρ, is, ρ', hp, rl, e1, q⟩ => ?_
  rw [hf] at e1
  cases c1 : fa ρ with
  | none => rw [c1] at e1; cases e1
  | some w =>
  obtain ⟨x, ρ1⟩ := w
  rw [c1] at e1
  simp only [Option.bind_eq_bind, Option.bind_some] at e1
  cases c3 : rngD [x.d] with
  | none => rw [c3] at e1; cases e1
  | some js =>
  rw [c3] at e1; cases e1
  refine tD_d hp rl c1 fun v H' Z' rl' sm dv => ?_
  unfold rngD at c3
  split at c3
  · rename_i n hn
    injection hn with hn _
    rw [hn] at dv
    cases dv
    split at c3
    · rename_i c
      cases c3
      refine ⟨_, rfl, by omega, by omega, ?_⟩
      have z := okR (K := X.K) (Z := Z') (lo := 0) (n := n.toNat)
      simp only [Int.zero_add] at z
      exact q _ _ _ rl' sm z
    · cases c3
  · rename_i hn
    injection hn with hn h2
    cases h2
  · cases c3
theorem di_rng2 {a b : Expr} {p pos : Pos} {fa fb : Env1 → Option (R × Env1)} {fi : Env1 → Option (List PyData × Env1)} (hg : Gl X "range") (hm : X.mg "range" = none) (ha : DE X pn a fa) (hb : DE X pn b fb)
    (hs : starEach [a, b] X.env = [(false, eval a X.env), (false, eval b X.env)]) (hs2 : starEach [b] X.env = [(false, eval b X.env)])
    (hf : ∀ ρ, fi ρ = (do let (x, ρ1) ← fa ρ; let (y, ρ2) ← fb ρ1; let is ← rngD [x.d, y.d]; some (is, ρ2))) : DI X pn tg (.Call (.Name "range" p) [a, b] [] pos) fi := by
  refine PI.imp (pi_range2 hg hm (pa_cons ha (pa_cons hb pa_nil hs2) (by rw [hs, hs2])) hs hs2) fun σ H Q ⟨B, Z, ρ, is, ρ', hp, rl, e1, q⟩ => ?_
  rw [hf] at e1
  cases c1 : fa ρ with
  | none => rw [c1] at e1; cases e1
  | some w =>
  obtain ⟨x, ρ1⟩ := w
  rw [c1] at e1
  simp only [Option.bind_eq_bind, Option.bind_some] at e1
  cases c2 : fb ρ1 with
  | none => rw [c2] at e1; cases e1
  | some w =>
  obtain ⟨y, ρ2⟩ := w
  rw [c2] at e1
  simp only [Option.bind_some] at e1
  cases c3 : rngD [x.d, y.d] with
  | none => rw [c3] at e1; cases e1
  | some js =>
  rw [c3] at e1; cases e1
  refine tD_d hp rl c1 fun v H1 Z1 rl1 sm1 dv => tD_d hp rl1 c2 fun w H2 Z2 rl2 sm2 dw => ?_
  unfold rngD at c3
  split at c3
  · rename_i n hn
    injection hn with hn h2
    cases h2
  · rename_i lo hi hn
    injection hn with hn h2
    injection h2 with h2 _
    rw [hn] at dv
    rw [h2] at dw
    cases dv; cases dw
    split at c3
    · rename_i c
      cases c3
      exact ⟨_, _, rfl, ⟨by omega, by omega, by omega, by omega⟩, q _ _ _ rl2 (sm1.trans sm2) okR⟩
    · cases c3
  · cases c3
theorem di_enum {a : Expr} {elts : List Expr} {kk : Nat} {tpos p pos : Pos} {fa : Env1 → Option (R × Env1)} {fi : Env1 → Option (List PyData × Env1)} (hg : Gl X "enumerate") (hm : X.mg "enumerate" = none) (ha : DE X pn a fa) (hs : starEach [a] X.env = [(false, eval a X.env)])
    (hf : ∀ ρ, fi ρ = (do let (x, ρ1) ← fa ρ; let xs ← seqD x.d; some (xs.mapIdx fun (i : Nat) x => .tuple [.int i, x], ρ1))) : DI X pn (.Tuple elts kk tpos) (.Call (.Name "enumerate" p) [a] [] pos) fi := by
  refine PI.imp (pi_enumT hg hm (pa_cons ha pa_nil hs) hs) fun σ H Q ⟨B, Z, ρ, is, ρ', hp, rl, e1, q⟩ => ?_
  rw [hf] at e1
  cases c1 : fa ρ with
  | none => rw [c1] at e1; cases e1
  | some w =>
  obtain ⟨x, ρ1⟩ := w
  rw [c1] at e1
  simp only [Option.bind_eq_bind, Option.bind_some] at e1
  cases c2 : seqD x.d with
  | none => rw [c2] at e1; cases e1
  | some xs =>
  rw [c2] at e1; cases e1
  refine tD_d hp rl c1 fun v H' Z' rl' sm dv => ?_
  unfold seqD at c2
  split at c2
  · rename_i ys hx
    cases c2
    rw [hx] at dv
    cases dv with | lst a b => exact ⟨_, _, rfl, .inl ⟨(Same.seq rl'.zh a), q _ _ _ rl' sm (okE a b)⟩⟩
  · rename_i ys hx
    cases c2
    rw [hx] at dv
    cases dv with | tup a b => exact ⟨_, _, rfl, .inr ⟨sameT rl'.zh a, q _ _ _ rl' sm (okET a b)⟩⟩
  · cases c2
theorem di_zip {a b : Expr} {elts : List Expr} {kk : Nat} {tpos p pos : Pos} {fa fb : Env1 → Option (R × Env1)} {fi : Env1 → Option (List PyData × Env1)} (hg : Gl X "zip") (hm : X.mg "zip" = none) (ha : DE X pn a fa) (hb : DE X pn b fb)
    (hs : starEach [a, b] X.env = (false, eval a X.env) :: starEach [b] X.env) (hs2 : starEach [b] X.env = (false, eval b X.env) :: starEach [] X.env) (hpl : (backTo pos (starEach [b] X.env)).any (·.1) = false)
    (hf : ∀ ρ, fi ρ = (do let (x, ρ1) ← fa ρ; let (y, ρ2) ← fb ρ1; let is ← zipD x.d y.d; some (is, ρ2))) : DI X pn (.Tuple elts kk tpos) (.Call (.Name "zip" p) [a, b] [] pos) fi := by
  refine PI.imp (RZ.pi_zipA hg hm (pa_cons ha (pa_cons hb pa_nil hs2) hs) hs hpl) fun σ H Q ⟨B, Z, ρ, is, ρ', hp, rl, e1, q⟩ => ?_
  rw [hf] at e1
  cases c1 : fa ρ with
  | none => rw [c1] at e1; cases e1
  | some w =>
  obtain ⟨x, ρ1⟩ := w
  rw [c1] at e1
  simp only [Option.bind_eq_bind, Option.bind_some] at e1
  cases c2 : fb ρ1 with
  | none => rw [c2] at e1; cases e1
  | some w =>
  obtain ⟨y, ρ2⟩ := w
  rw [c2] at e1
  simp only [Option.bind_some] at e1
  cases c3 : zipD x.d y.d with
  | none => rw [c3] at e1; cases e1
  | some js =>
  rw [c3] at e1; cases e1
  refine tD_d hp rl c1 fun v H1 Z1 rl1 sm1 dv => tD_d hp rl1 c2 fun w H2 Z2 rl2 sm2 dw => ?_
  have dv := dv.up sm2
  unfold zipD at c3
  split at c3
  · rename_i hx hy
    cases c3
    rw [hx] at dv; rw [hy] at dw
    cases dv with | lst a b => cases dw with | lst a' b' => exact ⟨_, _, _, _, rfl, .inl ⟨(Same.seq rl2.zh a), (Same.seq rl2.zh a'), q _ _ _ rl2 (sm1.trans sm2) (okZ a b a' b')⟩⟩
  · rename_i hx hy
    cases c3
    rw [hx] at dv; rw [hy] at dw
    cases dv with | tup a b => cases dw with | tup a' b' => exact ⟨_, _, _, _, rfl, .inr ⟨sameT rl2.zh a, sameT rl2.zh a', q _ _ _ rl2 (sm1.trans sm2) (okZT a b a' b')⟩⟩
  · cases c3
end
end Dx

namespace Dx
open PySem PySem.Spec PyProof.Rows L2
/-! ## Comprehensions -/
theorem wipe_out {σ : L2.St} {i : Nat} : ∀ {vs : List Nat}, i ∉ vs → (wipe σ vs)[i]? = σ[i]?
  | [], _ => rfl
  | v :: vs, h => by
    simp only [List.mem_cons, not_or] at h
    unfold wipe
    rw [List.getElem?_set_ne (Ne.symm h.1)]
    exact wipe_out h.2
theorem wipe_in {σ : L2.St} {i : Nat} : ∀ {vs : List Nat}, i ∈ vs → i < σ.length → (wipe σ vs)[i]? = some none
  | v :: vs, h, hl => by
    unfold wipe
    by_cases e : v = i
    · subst e; rw [List.getElem?_set_self (by rw [wipe_length]; exact hl)]
    · rw [List.getElem?_set_ne e]
      exact wipe_in ((List.mem_cons.mp h).resolve_left (Ne.symm e)) hl
theorem wipeE_len (ρ : Env1) : ∀ vs : List Nat, (wipeE ρ vs).length = ρ.length
  | [] => rfl
  | v :: vs => by unfold wipeE; rw [List.length_set, wipeE_len ρ vs]
theorem wipeE_some {ρ : Env1} {i : Nat} {s : Sl} : ∀ {vs : List Nat}, (wipeE ρ vs)[i]? = some (some s) → i ∉ vs ∧ ρ[i]? = some (some s)
  | [], h => ⟨by simp, h⟩
  | v :: vs, h => by
    unfold wipeE at h
    rcases set_get h with ⟨_, q, _⟩ | ⟨ne, h⟩
    · cases q
    · obtain ⟨h1, h2⟩ := wipeE_some h
      exact ⟨by simp only [List.mem_cons, not_or]; exact ⟨ne, h1⟩, h2⟩
theorem wipeE_out {ρ : Env1} {i : Nat} : ∀ {vs : List Nat}, i ∉ vs → (wipeE ρ vs)[i]? = ρ[i]?
  | [], _ => rfl
  | v :: vs, h => by
    simp only [List.mem_cons, not_or] at h
    unfold wipeE
    rw [List.getElem?_set_ne (Ne.symm h.1)]
    exact wipeE_out h.2
theorem backE_len (ρ0 ρ : Env1) : ∀ vs : List Nat, (backE ρ0 ρ vs).length = ρ.length
  | [] => rfl
  | v :: vs => by unfold backE; rw [List.length_set, backE_len ρ0 ρ vs]
theorem backE_some {ρ0 ρ : Env1} {i : Nat} {s : Sl} : ∀ {vs : List Nat}, (backE ρ0 ρ vs)[i]? = some (some s) → (i ∈ vs ∧ ρ0[i]? = some (some s)) ∨ (i ∉ vs ∧ ρ[i]? = some (some s))
  | [], h => .inr ⟨by simp, h⟩
  | v :: vs, h => by
    unfold backE at h
    rcases set_get h with ⟨e, q, _⟩ | ⟨ne, h⟩
    · subst e
      refine .inl ⟨List.mem_cons_self, ?_⟩
      cases z : ρ0[i]? with
      | none => rw [z] at q; cases q
      | some w => rw [z] at q; rw [← q]; rfl
    · rcases backE_some h with ⟨h1, h2⟩ | ⟨h1, h2⟩
      · exact .inl ⟨List.mem_cons_of_mem _ h1, h2⟩
      · exact .inr ⟨by simp only [List.mem_cons, not_or]; exact ⟨ne, h1⟩, h2⟩
theorem backE_out {ρ0 ρ : Env1} {i : Nat} : ∀ {vs : List Nat}, i ∉ vs → (backE ρ0 ρ vs)[i]? = ρ[i]?
  | [], _ => rfl
  | v :: vs, h => by
    simp only [List.mem_cons, not_or] at h
    unfold backE
    rw [List.getElem?_set_ne (Ne.symm h.1)]
    exact backE_out h.2
theorem wipe_eq {σ σ2 : L2.St} {vs : List Nat} (hl : σ2.length = σ.length) (h : ∀ i, i ∉ vs → σ2[i]? = (wipe σ vs)[i]?) : wipe σ2 vs = wipe σ vs := by
  refine List.ext_getElem? fun i => ?_
  by_cases hi : i ∈ vs
  · by_cases hlt : i < σ.length
    · rw [wipe_in hi hlt, wipe_in hi (by omega)]
    · rw [List.getElem?_eq_none (by rw [wipe_length]; omega), List.getElem?_eq_none (by rw [wipe_length]; omega)]
  · rw [wipe_out hi, h i hi]
section
variable {K : PySem.W.Frag} {B B' : Bs} {Z Z0 Z' H H0 H' : Hp} {σ σ2 : L2.St} {ρ ρ0 ρ3 : Env1} {vs : List Nat}
theorem Rl.wipe (r : Rl K B Z H σ ρ) (hv : ∀ v ∈ vs, ∀ ds, ρ[v]? ≠ some (some (.own ds))) : Rl K B Z H (L2.wipe σ vs) (wipeE ρ vs) := by
  have np : ∀ q ∈ B.pins, q.1 ∉ vs := fun q hq hm => by
    obtain ⟨_, ds, h⟩ := r.pin q hq
    exact hv q.1 hm ds h
  refine ⟨by rw [wipe_length, wipeE_len]; exact r.len, r.bz, r.zh, r.zn, r.kp, fun i d e => ?_, fun i ds e => ?_, fun i j ds es p h1 h2 h3 h4 => ?_, fun q hq => ?_, fun q hq => ?_⟩
  · obtain ⟨h1, h2⟩ := wipeE_some e
    obtain ⟨v, a1, a2⟩ := r.dat i d h2
    exact ⟨v, by rw [wipe_out h1]; exact a1, a2⟩
  · obtain ⟨h1, h2⟩ := wipeE_some e
    obtain ⟨p, xs, a1, a2⟩ := r.own i ds h2
    exact ⟨p, xs, by rw [wipe_out h1]; exact a1, a2⟩
  · obtain ⟨a1, a2⟩ := wipeE_some h1
    obtain ⟨b1, b2⟩ := wipeE_some h2
    rw [wipe_out a1] at h3
    rw [wipe_out b1] at h4
    exact r.apart i j ds es p a2 b2 h3 h4
  · obtain ⟨a1, ds, a2⟩ := r.pin q hq
    exact ⟨by rw [wipe_out (np q hq)]; exact a1, ds, by rw [wipeE_out (np q hq)]; exact a2⟩
  · obtain ⟨a1, a2, a3⟩ := r.pd q hq
    refine ⟨a1, a2, fun i ds e => ?_⟩
    obtain ⟨h1, h2⟩ := wipeE_some e
    rw [wipe_out h1]
    exact a3 i ds h2
theorem Rl.unwipe (r0 : Rl K B Z0 H0 σ ρ0) (hv : ∀ v ∈ vs, ∀ ds, ρ0[v]? ≠ some (some (.own ds))) (r : Rl K B' Z' H' σ2 ρ3) (sm : Same Z0 Z') (hp : B'.pins = B.pins) (ag : ∀ i, i ∉ vs → σ2[i]? = σ[i]?) (hl : σ2.length = σ.length) : Rl K B' Z' H' σ (backE ρ0 ρ3 vs) := by
  have np : ∀ q ∈ B.pins, q.1 ∉ vs := fun q hq hm => by
    obtain ⟨_, ds, h⟩ := r0.pin q hq
    exact hv q.1 hm ds h
  have ow : ∀ {i : Nat} {ds : List PyData}, (backE ρ0 ρ3 vs)[i]? = some (some (.own ds)) → i ∉ vs ∧ ρ3[i]? = some (some (.own ds)) := fun {i ds} e => by
    rcases backE_some e with ⟨h1, h2⟩ | h
    · exact absurd h2 (hv i h1 ds)
    · exact h
  refine ⟨by rw [backE_len, ← r.len, hl], r.bz, r.zh, r.zn, r.kp, fun i d e => ?_, fun i ds e => ?_, fun i j ds es p h1 h2 h3 h4 => ?_, fun q hq => ?_, fun q hq => ?_⟩
  · rcases backE_some e with ⟨h1, h2⟩ | ⟨h1, h2⟩
    · obtain ⟨v, a1, a2⟩ := r0.dat i d h2
      exact ⟨v, a1, a2.up sm⟩
    · obtain ⟨v, a1, a2⟩ := r.dat i d h2
      exact ⟨v, by rw [← ag i h1]; exact a1, a2⟩
  · obtain ⟨h1, h2⟩ := ow e
    obtain ⟨p, xs, a1, a2⟩ := r.own i ds h2
    exact ⟨p, xs, by rw [← ag i h1]; exact a1, a2⟩
  · obtain ⟨a1, a2⟩ := ow h1
    obtain ⟨b1, b2⟩ := ow h2
    rw [← ag i a1] at h3
    rw [← ag j b1] at h4
    exact r.apart i j ds es p a2 b2 h3 h4
  · have hq' : q ∈ B.pins := by rw [← hp]; exact hq
    obtain ⟨a1, ds, a2⟩ := r.pin q hq
    exact ⟨by rw [← ag _ (np q hq')]; exact a1, ds, by rw [backE_out (np q hq')]; exact a2⟩
  · obtain ⟨a1, a2, a3⟩ := r.pd q hq
    refine ⟨a1, a2, fun i ds e => ?_⟩
    obtain ⟨h1, h2⟩ := ow e
    rw [← ag i h1]
    exact a3 i ds h2
/-- the pending list changes -/
theorem Rl.repend {p : Addr} {xs ys : List V} (r : Rl K (B.push p xs) Z H σ ρ) (hb : B.H p = none) (hq : ∀ q ∈ B.pend, q.1 ≠ p) : Rl K (B.push p ys) Z (upd H p (.lst ys)) σ ρ := by
  obtain ⟨r1, h1, h2, h3⟩ := r.pop
  have nz : ∀ b o, Z b = some o → b ≠ p := fun b o e z => by rw [z, h2] at e; cases e
  have nown : ∀ (i : Nat) (ds : List PyData) (q : Addr), ρ[i]? = some (some (.own ds)) → σ[i]? = some (some (.ref q)) → q ≠ p := fun i ds q a b z => h3 i ds a (by rw [b, z])
  refine ⟨r.len, r.bz, fun b o e => by rw [upd_ne (nz b o e)]; exact r.zh b o e, r.zn, fun b o e n => ?_, r.dat, fun i ds e => ?_, r.apart, r.pin, fun q hm => ?_⟩
  · have ne : b ≠ p := fun z => by rw [z] at e; rw [show (B.push p ys).H p = B.H p from rfl, hb] at e; cases e
    rw [upd_ne ne]
    exact r.kp b o e n
  · obtain ⟨q, zs, a1, a2, a3⟩ := r.own i ds e
    exact ⟨q, zs, a1, by rw [upd_ne (nown i ds q e a1)]; exact a2, a3⟩
  · rcases List.mem_cons.mp hm with e | hm
    · subst e; exact ⟨upd_same, h2, h3⟩
    · obtain ⟨a1, a2, a3⟩ := r1.pd q hm
      exact ⟨by rw [upd_ne (hq q hm)]; exact a1, a2, a3⟩
end
section
variable {X : Cx} {pn : List Nat}
theorem lc_read {K : PySem.W.Frag} {vs : List Nat} {fi : Env1 → Option (List PyData × Env1)} {ft : PyData → Env1 → Option Env1} {fc fe f : Env1 → Option (R × Env1)}
    (hf : ∀ ρ, f ρ = (do
      let (xs, ρ1) ← fi ρ
      if (vs.all fun v => match ρ1[v]? with | some (some (.own _)) => false | _ => true) then do
        let (acc, ρ2) ← lcG vs ρ1 ft fc fe xs ρ1 []
        some (.frs acc, ρ2)
      else none)) (σ : L2.St) (H : Hp) (Q : VK) (h0 : tD K pn f σ H Q) : tLc (tDI K pn fi) (tDG K pn vs ft) (tDT K pn fc) (tD K pn fe) vs σ H Q := by
  obtain ⟨B, Z, ρ, r, ρ', hp, rl, e1, q⟩ := h0
  rw [hf] at e1
  cases c1 : fi ρ with
  | none => rw [c1] at e1; cases e1
  | some w =>
  obtain ⟨xs, ρ1⟩ := w
  rw [c1] at e1
  simp only [Option.bind_eq_bind, Option.bind_some] at e1
  split at e1
  case isFalse => cases e1
  case isTrue hall =>
  have hv : ∀ v ∈ vs, ∀ ds, ρ1[v]? ≠ some (some (.own ds)) := fun v hm ds e => by
    have := List.all_eq_true.mp hall v hm
    rw [e] at this; cases this
  cases c2 : lcG vs ρ1 ft fc fe xs ρ1 [] with
  | none => rw [c2] at e1; cases e1
  | some w =>
  obtain ⟨acc, ρ2⟩ := w
  rw [c2] at e1
  cases e1
  refine ⟨B, Z, ρ, xs, ρ1, hp, rl, c1, fun J H1 Z1 rl1 sm1 it D hD => ?_⟩
  obtain ⟨zD, nD⟩ := rl1.free hD
  have bD := rl1.bfree hD
  have qD := rl1.npend hD
  have rD : Rl K (B.push D []) Z1 (upd H1 D (.lst [])) σ ρ1 := (rl1.more hD).push upd_same zD nD
  refine ⟨fun i m H => m = xs.length - i ∧ i ≤ xs.length ∧ ∃ (Z' : Hp) (ρ' : Env1) (ys : List V) (a : List PyData), Rl K (B.push D ys) Z' H σ ρ' ∧ Same Z1 Z' ∧ DvAll K Z' ys a ∧ (∀ v ∈ vs, ∀ ds, ρ'[v]? ≠ some (some (.own ds))) ∧ lcG vs ρ1 ft fc fe (xs.drop i) ρ' a = some (acc, ρ2),
    ⟨xs.length, by simp, Nat.zero_le _, Z1, ρ1, [], [], rD, Same.refl _, .nil, hv, by simpa using c2⟩, ?_⟩
  rintro i m H2 ⟨rfl, hle, Z2, ρ3, ys, a, r2, sm2, hd, hv2, c3⟩
  by_cases hlt : i < xs.length
  · right
    have hx := List.getElem?_eq_getElem hlt
    generalize xs[i] = d at hx
    have hdrop : xs.drop i = d :: xs.drop (i + 1) := by
      rw [List.drop_eq_getElem_cons hlt]
      have : xs[i] = d := by rw [List.getElem?_eq_getElem hlt] at hx; exact Option.some.inj hx
      rw [this]
    rw [hdrop] at c3
    simp only [lcG, Option.bind_eq_bind] at c3
    have zh2 : Same Z1 H2 := sm2.trans r2.zh
    refine ⟨it.go i H2 zh2 hlt, fun H' => ∃ (Z' : Hp) (ρ' : Env1) (ys : List V) (a : List PyData), Rl K (B.push D ys) Z' H' σ ρ' ∧ Same Z1 Z' ∧ DvAll K Z' ys a ∧ (∀ v ∈ vs, ∀ ds, ρ'[v]? ≠ some (some (.own ds))) ∧ lcG vs ρ1 ft fc fe (xs.drop (i + 1)) ρ' a = some (acc, ρ2), fun H' hN => ⟨xs.length - (i + 1), by omega, rfl, hlt, hN⟩, fun x H3 hy => ?_⟩
    -- the item's value
    have item : ∃ Z3, Rl K (B.push D ys) Z3 H3 σ ρ3 ∧ Same Z2 Z3 ∧ Dv K Z3 x d := by
      rcases it.yld i d H2 x H3 zh2 hx hy with ⟨rfl, hv3⟩ | ⟨T, ts, es, hT, rfl, rfl, rfl, hd3⟩
      · exact ⟨Z2, r2, Same.refl _, hv3.up sm2⟩
      · obtain ⟨g1, g2, g3⟩ := r2.newT hT (hd3.up sm2)
        exact ⟨_, g1, g2, g3⟩
    obtain ⟨Z3, r3, sm3, dx⟩ := item
    cases c4 : ft d (wipeE ρ3 vs) with
    | none => rw [c4] at c3; cases c3
    | some ρ4 =>
    rw [c4] at c3
    simp only [Option.bind_some] at c3
    refine ⟨B.push D ys, Z3, wipeE ρ3 vs, d, ρ4, hp, r3.wipe hv2, dx, c4, fun σ2 H4 Z4 r4 sm4 ag l2 => ?_⟩
    have ag' : ∀ i, i ∉ vs → σ2[i]? = σ[i]? := fun i hi => by rw [ag i hi, wipe_out hi]
    rw [wipe_length] at l2
    refine ⟨wipe_eq l2 ag, ?_⟩
    cases c5 : fc ρ4 with
    | none => rw [c5] at c3; cases c3
    | some w =>
    obtain ⟨kr, ρ5⟩ := w
    rw [c5] at c3
    simp only [Option.bind_some] at c3
    cases c6 : truD kr.d with
    | none => rw [c6] at c3; cases c3
    | some kb =>
    rw [c6] at c3
    simp only [Option.bind_some] at c3
    refine tDT_k (B := B.push D ys) hp r4 c5 c6 fun H5 Z5 r5 sm5 => ?_
    cases kb with
    | false =>
      rw [if_neg Bool.false_ne_true]
      have z5 := sm3.trans (sm4.trans sm5)
      have r6 := Rl.unwipe rl1 hv r5 (sm2.trans z5) rfl ag' l2
      refine ⟨Z5, backE ρ1 ρ5 vs, ys, a, r6, sm2.trans z5, hd.up z5, fun v hm ds e => ?_, c3⟩
      rcases backE_some e with ⟨_, h⟩ | ⟨h, _⟩
      · exact hv v hm ds h
      · exact h hm
    | true =>
      rw [if_pos rfl]
      simp only at c3
      cases c7 : fe ρ5 with
      | none => rw [c7] at c3; cases c3
      | some w =>
      obtain ⟨yr, ρ6⟩ := w
      rw [c7] at c3
      simp only [Option.bind_some] at c3
      split at c3
      case isFalse => cases c3
      case isTrue hsz =>
      refine tD_d (B := B.push D ys) hp r5 c7 fun y H6 Z6 r6 sm6 dy => ?_
      have z6 := sm3.trans (sm4.trans (sm5.trans sm6))
      refine ⟨ys, r6.pop.2.1, by rw [hd.len]; exact hsz, ?_⟩
      have r7 := Rl.unwipe rl1 hv (r6.repend (ys := ys ++ [y]) bD qD) (sm2.trans z6) rfl ag' l2
      refine ⟨Z6, backE ρ1 ρ6 vs, ys ++ [y], a ++ [yr.d], r7, sm2.trans z6, (hd.up z6).append (DvAll.one dy), fun v hm ds e => ?_, c3⟩
      rcases backE_some e with ⟨_, h⟩ | ⟨h, _⟩
      · exact hv v hm ds h
      · exact h hm
  · left
    have e : i = xs.length := by omega
    subst e
    rw [List.drop_length] at c3
    cases c3
    obtain ⟨g1, g2, g3, g4⟩ := r2.pop
    refine ⟨it.stop H2 (sm2.trans r2.zh), q _ H2 Z2 g1 (sm1.trans sm2) ⟨D, ys, rfl, g2, g3, bD, qD, hd, g4⟩⟩
theorem de_lc {elt tg iter : Expr} {ifs : List Expr} {scope : Scope} {own : List (Str × Nat)} {pos : Pos} {vs : List Nat} {fi : Env1 → Option (List PyData × Env1)} {ft : PyData → Env1 → Option Env1} {fc fe f : Env1 → Option (R × Env1)}
    (hc : X.calm = true) (hN : X.N.Nodup) (hi : DI X pn tg iter fi) (ok : BlkOk X.N X.env.scope scope own) (hvs : own.map (·.2) = vs)
    (hg : ∀ (s : Shared) (H : Hp) (C : Addr) (cl : List (Str × Addr)) (fp : List Addr), DG (X.blk s H scope (compEnvC scope cl C X.env) fp) pn vs tg ft)
    (ht : ∀ (s : Shared) (H : Hp) (C : Addr) (cl : List (Str × Addr)) (fp : List Addr), PTs (X.blk s H scope (compEnvC scope cl C X.env) fp) ifs (tDT X.K pn fc))
    (he : ∀ (s : Shared) (H : Hp) (C : Addr) (cl : List (Str × Addr)) (fp : List Addr), DE (X.blk s H scope (compEnvC scope cl C X.env) fp) pn elt fe)
    (hs : ∀ x, foldedSetIterable iter X.env x = pure x)
    (hf : ∀ ρ, f ρ = (do
      let (xs, ρ1) ← fi ρ
      if (vs.all fun v => match ρ1[v]? with | some (some (.own _)) => false | _ => true) then do
        let (acc, ρ2) ← lcG vs ρ1 ft fc fe xs ρ1 []
        some (.frs acc, ρ2)
      else none)) : DE X pn (.ListComp elt [⟨tg, iter, ifs, 0⟩] scope pos) f :=
  PE.imp (pe_lc (g := tDG X.K pn vs ft) (tt := tDT X.K pn fc) (te := tD X.K pn fe) hc hN hi ok hg ht he hs) fun σ H Q h => by
    rw [hvs]
    exact lc_read hf σ H Q h
theorem set_lc {i : Nat} {y : Str} {py spos : Pos} {elt tg iter : Expr} {ifs : List Expr} {scope : Scope} {own : List (Str × Nat)} {pos : Pos} {vs : List Nat} {fi : Env1 → Option (List PyData × Env1)} {ft : PyData → Env1 → Option Env1} {fc fe f : Env1 → Option (R × Env1)}
    (hy : X.N[i]? = some y) (hyl : X.env.scope.names.lookup y = some .local) (hsw : swapsWith (.ListComp elt [⟨tg, iter, ifs, 0⟩] scope pos) (some (.Name y py)) spos.line X.env = pure true)
    (hc : X.calm = true) (hN : X.N.Nodup) (hi : DI X pn tg iter fi) (ok : BlkOk X.N X.env.scope scope own) (hvs : own.map (·.2) = vs)
    (hg : ∀ (s : Shared) (H : Hp) (C : Addr) (cl : List (Str × Addr)) (fp : List Addr), DG (X.blk s H scope (compEnvC scope cl C X.env) fp) pn vs tg ft)
    (ht : ∀ (s : Shared) (H : Hp) (C : Addr) (cl : List (Str × Addr)) (fp : List Addr), PTs (X.blk s H scope (compEnvC scope cl C X.env) fp) ifs (tDT X.K pn fc))
    (he : ∀ (s : Shared) (H : Hp) (C : Addr) (cl : List (Str × Addr)) (fp : List Addr), DE (X.blk s H scope (compEnvC scope cl C X.env) fp) pn elt fe)
    (hs : ∀ x, foldedSetIterable iter X.env x = pure x)
    (hf : ∀ ρ, f ρ = (do
      let (xs, ρ1) ← fi ρ
      if (vs.all fun v => match ρ1[v]? with | some (some (.own _)) => false | _ => true) then do
        let (acc, ρ2) ← lcG vs ρ1 ft fc fe xs ρ1 []
        some (.frs acc, ρ2)
      else none)) : PS X (.Assign [.Name y py] (.ListComp elt [⟨tg, iter, ifs, 0⟩] scope pos) spos) (tAsg (tD X.K pn f) (gName i)) :=
  PS.imp (ps_setLc (g := tDG X.K pn vs ft) (tt := tDT X.K pn fc) (te := tD X.K pn fe) hc hN hy hyl hsw hi ok hg ht he hs) fun D σ H h => by
    rw [hvs]
    exact lc_read hf σ H _ h
end
end Dx

namespace Dx
open PySem PySem.Spec PyProof.Rows L2
abbrev ME := Env1 → Option (R × Env1)
section
variable {X : Cx} {pn : List Nat} {G : Gx} {N : List Str} {k : Nat} {fa fb fc f : ME} {a b c : Expr} {pos : Pos}
theorem getD_dv {B : Bs} {Z H : Hp} {σ : L2.St} {ρ : Env1} {i : Nat} {d : PyData} (rl : Rl X.K B Z H σ ρ) (h : getD ρ i = some d) : ∃ v, σ[i]? = some (some v) ∧ Dv X.K H v d := by
  unfold getD at h
  split at h
  · rename_i e; cases h
    obtain ⟨v, h1, h2⟩ := rl.dat i _ e
    exact ⟨v, h1, h2.up rl.zh⟩
  · rename_i e; cases h
    obtain ⟨p, xs, h1, h2, h3, h4, _⟩ := rl.own i _ e
    exact ⟨_, h1, .lst (.inl (.inl h2)) (h4.up rl.zh)⟩
  · cases h
theorem de_var {i : Nat} {x : Str} (h : PE X (.Name x pos) (tVar i)) (hf : ∀ ρ, f ρ = (pubD pn ρ i).map fun p => (.dat p.1, p.2)) : DE X pn (.Name x pos) f := PE.imp h fun σ H Q ⟨B, Z, ρ, r, ρ', hp, rl, e, q⟩ => by
  rw [hf] at e
  unfold pubD at e
  split at e
  · rename_i d hd
    cases e
    obtain ⟨v, h1, h2⟩ := rl.dat i d hd
    exact ⟨v, h1, q v H Z rl (Same.refl _) h2⟩
  · rename_i ds hd
    split at e
    · cases e
    · rename_i hn
      cases e
      obtain ⟨v, Z', h1, r2, sm, dv⟩ := rl.give hd (by rw [hp]; simpa using hn)
      exact ⟨v, h1, q v H Z' r2 sm dv⟩
  · cases e
theorem de_c {e : Expr} {v : V} {d : PyData} (h : PE X e (tC v)) (hd : ∀ Z, Dv X.K Z v d) (hf : ∀ ρ, f ρ = some (.dat d, ρ)) : DE X pn e f := PE.imp h fun σ H Q ⟨B, Z, ρ, r, ρ', hp, rl, e, q⟩ => by
  rw [hf] at e; cases e
  exact q v H Z rl (Same.refl _) (hd Z)
theorem de_bin (g : Gd G N k X) {op : Operator} (ha : DE X pn a fa) (hb : DE X pn b fb) (hf : ∀ ρ, f ρ = (do
      let (x, ρ1) ← fa ρ
      let (y, ρ2) ← fb ρ1
      let r ← binD op x.d y.d
      some (r, ρ2))) : DE X pn (.BinOp a op b pos) f := PE.imp (pe_op (op_any X _) ha hb) fun σ H Q ⟨B, Z, ρ, r, ρ', hp, rl, e, q⟩ => by
  rw [hf] at e
  cases c1 : fa ρ with
  | none => rw [c1] at e; cases e
  | some w =>
  obtain ⟨x, ρ1⟩ := w
  rw [c1] at e
  simp only [Option.bind_eq_bind, Option.bind_some] at e
  cases c2 : fb ρ1 with
  | none => rw [c2] at e; cases e
  | some w =>
  obtain ⟨y, ρ2⟩ := w
  rw [c2] at e
  simp only [Option.bind_some] at e
  cases c3 : binD op x.d y.d with
  | none => rw [c3] at e; cases e
  | some r3 =>
  rw [c3] at e; cases e
  exact tD_d hp rl c1 fun v H1 Z1 rl1 sm1 dv => tD_d hp rl1 c2 fun w H2 Z2 rl2 sm2 dw =>
    bin_ok g c3 rl2 (dv.up sm2) dw fun u H3 Z3 rl3 sm3 rr => q u H3 Z3 rl3 (sm1.trans (sm2.trans sm3)) rr
theorem de_not (ha : DT X pn a fa) (hp' : PE X (.UnaryOp .Not a pos) (fun σ H Q => tDT X.K pn fa σ H fun k H1 => Q (.bl (!k)) H1)) (hf : ∀ ρ, f ρ = (do
      let (x, ρ1) ← fa ρ
      let k ← truD x.d
      some (.dat (.bool (!k)), ρ1))) : DE X pn (.UnaryOp .Not a pos) f := PE.imp hp' fun σ H Q ⟨B, Z, ρ, r, ρ', hp, rl, e, q⟩ => by
  rw [hf] at e
  cases c1 : fa ρ with
  | none => rw [c1] at e; cases e
  | some w =>
  obtain ⟨x, ρ1⟩ := w
  rw [c1] at e
  simp only [Option.bind_eq_bind, Option.bind_some] at e
  cases c2 : truD x.d with
  | none => rw [c2] at e; cases e
  | some kb =>
  rw [c2] at e; cases e
  exact tDT_k hp rl c1 c2 fun H1 Z1 rl1 sm1 => q _ H1 Z1 rl1 sm1 (.bl _)
theorem dt_not (ha : DT X pn a fa) (hf : ∀ ρ, f ρ = (do
      let (x, ρ1) ← fa ρ
      let k ← truD x.d
      some (.dat (.bool (!k)), ρ1))) : DT X pn (.UnaryOp .Not a pos) f := PT.imp (pt_not ha) fun σ H Q ⟨B, Z, ρ, r, ρ', k, hp, rl, e, hk, q⟩ => by
  rw [hf] at e
  cases c1 : fa ρ with
  | none => rw [c1] at e; cases e
  | some w =>
  obtain ⟨x, ρ1⟩ := w
  rw [c1] at e
  simp only [Option.bind_eq_bind, Option.bind_some] at e
  cases c2 : truD x.d with
  | none => rw [c2] at e; cases e
  | some kb =>
  rw [c2] at e; cases e
  cases hk
  exact tDT_k hp rl c1 c2 fun H1 Z1 rl1 sm1 => q H1 Z1 rl1 sm1
theorem dt_plain {e : Expr} (ha : DE X pn e f) (he : ∀ whole, isTrue e X.env whole = (do let v ← whole; standAt e.pos; holding [v] (truthy v))) : DT X pn e f := PT.imp (pt_truth ha he) fun σ H Q ⟨B, Z, ρ, r, ρ', k, hp, rl, e, hk, q⟩ => by
  refine tD_d hp rl e fun v H1 Z1 rl1 sm1 dv => ?_
  exact ⟨k, tru_D hk rl1.zh dv, q H1 Z1 rl1 sm1⟩
theorem de_neg (ha : DE X pn a fa) (hf : ∀ ρ, f ρ = (do
      let (x, ρ1) ← fa ρ
      match x.d with
      | .int i => some (.dat (.int (-i)), ρ1)
      | _ => none)) : DE X pn (.UnaryOp .USub a pos) f := PE.imp (pe_un un_neg ha) fun σ H Q ⟨B, Z, ρ, r, ρ', hp, rl, e, q⟩ => by
  rw [hf] at e
  cases c1 : fa ρ with
  | none => rw [c1] at e; cases e
  | some w =>
  obtain ⟨x, ρ1⟩ := w
  rw [c1] at e
  simp only [Option.bind_eq_bind, Option.bind_some] at e
  split at e
  · rename_i i hi
    cases e
    refine tD_d hp rl c1 fun v H1 Z1 rl1 sm1 dv => ?_
    rw [hi] at dv; cases dv
    exact ⟨_, rfl, q _ H1 Z1 rl1 sm1 (.int _)⟩
  · cases e
theorem de_cmp (g : Gd G N k X) {op : CmpOp} (ha : DE X pn a fa) (hb : DE X pn b fb) (hm : behindInMarks op b = false) (hf : ∀ ρ, f ρ = (do
      let (x, ρ1) ← fa ρ
      let (y, ρ2) ← fb ρ1
      let k ← cmpD op x.d y.d
      some (.dat (.bool k), ρ2))) : DE X pn (.Compare a [op] [b] pos) f ∧ DT X pn (.Compare a [op] [b] pos) f := by
  have core : ∀ {ρ r ρ'}, f ρ = some (r, ρ') → ∃ x ρ1 y kb, fa ρ = some (x, ρ1) ∧ fb ρ1 = some (y, ρ') ∧ cmpD op x.d y.d = some kb ∧ r = .dat (.bool kb) := fun {ρ r ρ'} e => by
    rw [hf] at e
    cases c1 : fa ρ with
    | none => rw [c1] at e; cases e
    | some w =>
    obtain ⟨x, ρ1⟩ := w
    rw [c1] at e
    simp only [Option.bind_eq_bind, Option.bind_some] at e
    cases c2 : fb ρ1 with
    | none => rw [c2] at e; cases e
    | some w =>
    obtain ⟨y, ρ2⟩ := w
    rw [c2] at e
    simp only [Option.bind_some] at e
    cases c3 : cmpD op x.d y.d with
    | none => rw [c3] at e; cases e
    | some kb =>
    rw [c3] at e; cases e
    exact ⟨x, ρ1, y, kb, rfl, c2, c3, rfl⟩
  refine ⟨PE.imp (pe_cmpR (op_any X _) ha hb hm) fun σ H Q ⟨B, Z, ρ, r, ρ', hp, rl, e, q⟩ => ?_, PT.imp (pt_cmpR (op_any X _) ha hb hm) fun σ H Q ⟨B, Z, ρ, r, ρ', k, hp, rl, e, hk, q⟩ => ?_⟩
  · obtain ⟨x, ρ1, y, kb, c1, c2, c3, rfl⟩ := core e
    exact tD_d hp rl c1 fun v H1 Z1 rl1 sm1 dv => tD_d hp rl1 c2 fun w H2 Z2 rl2 sm2 dw => cmp_ok g c3 rl2.zh (dv.up sm2) dw (q _ H2 Z2 rl2 (sm1.trans sm2) (.bl _))
  · obtain ⟨x, ρ1, y, kb, c1, c2, c3, rfl⟩ := core e
    cases hk
    exact tD_d hp rl c1 fun v H1 Z1 rl1 sm1 dv => tD_d hp rl1 c2 fun w H2 Z2 rl2 sm2 dw => cmp_ok g c3 rl2.zh (dv.up sm2) dw ⟨_, rfl, q H2 Z2 rl2 (sm1.trans sm2)⟩
theorem de_cmp2 (g : Gd G N k X) {op op' : CmpOp} (ha : DE X pn a fa) (hb : DE X pn b fb) (hc : DE X pn c fc) (hm : lastMarks [op, op'] [b, c] = false) (hf : ∀ ρ, f ρ = (do
      let (x, ρ1) ← fa ρ
      let (y, ρ2) ← fb ρ1
      match ← cmpD op x.d y.d with
      | true => do
        let (z, ρ3) ← fc ρ2
        let k ← cmpD op' y.d z.d
        some (.dat (.bool k), ρ3)
      | false => some (.dat (.bool false), ρ2))) : DE X pn (.Compare a [op, op'] [b, c] pos) f ∧ DT X pn (.Compare a [op, op'] [b, c] pos) f := by
  have core : ∀ {ρ r ρ'}, f ρ = some (r, ρ') → ∃ x ρ1 y ρ2 kb, fa ρ = some (x, ρ1) ∧ fb ρ1 = some (y, ρ2) ∧ cmpD op x.d y.d = some kb ∧
      ((kb = false ∧ r = .dat (.bool false) ∧ ρ' = ρ2) ∨ ∃ z k2, kb = true ∧ fc ρ2 = some (z, ρ') ∧ cmpD op' y.d z.d = some k2 ∧ r = .dat (.bool k2)) := fun {ρ r ρ'} e => by
    rw [hf] at e
    cases c1 : fa ρ with
    | none => rw [c1] at e; cases e
    | some w =>
    obtain ⟨x, ρ1⟩ := w
    rw [c1] at e
    simp only [Option.bind_eq_bind, Option.bind_some] at e
    cases c2 : fb ρ1 with
    | none => rw [c2] at e; cases e
    | some w =>
    obtain ⟨y, ρ2⟩ := w
    rw [c2] at e
    simp only [Option.bind_some] at e
    cases c3 : cmpD op x.d y.d with
    | none => rw [c3] at e; cases e
    | some kb =>
    rw [c3] at e
    simp only [Option.bind_some] at e
    cases kb with
    | false => cases e; exact ⟨x, ρ1, y, _, false, rfl, c2, c3, .inl ⟨rfl, rfl, rfl⟩⟩
    | true =>
      simp only at e
      cases c4 : fc ρ2 with
      | none => rw [c4] at e; cases e
      | some w =>
      obtain ⟨z, ρ3⟩ := w
      rw [c4] at e
      simp only [Option.bind_some] at e
      cases c5 : cmpD op' y.d z.d with
      | none => rw [c5] at e; cases e
      | some k2 =>
      rw [c5] at e; cases e
      exact ⟨x, ρ1, y, ρ2, true, rfl, c2, c3, .inr ⟨z, k2, rfl, c4, c5, rfl⟩⟩
  refine ⟨PE.imp (pe_chain (op_any X _) (op_any X _) ha hb hc hm) fun σ H Q ⟨B, Z, ρ, r, ρ', hp, rl, e, q⟩ => ?_, PT.imp (pt_chain (op_any X _) (op_any X _) ha hb hc hm) fun σ H Q ⟨B, Z, ρ, r, ρ', k, hp, rl, e, hk, q⟩ => ?_⟩
  · obtain ⟨x, ρ1, y, ρ2, kb, c1, c2, c3, c4⟩ := core e
    refine tD_d hp rl c1 fun v H1 Z1 rl1 sm1 dv => tD_d hp rl1 c2 fun w H2 Z2 rl2 sm2 dw => cmp_ok g c3 rl2.zh (dv.up sm2) dw ⟨kb, rfl, ?_⟩
    rcases c4 with ⟨rfl, rfl, rfl⟩ | ⟨z, k2, rfl, c4, c5, rfl⟩
    · rw [if_neg Bool.false_ne_true]; exact q _ H2 Z2 rl2 (sm1.trans sm2) (.bl _)
    · rw [if_pos rfl]
      exact tD_d hp rl2 c4 fun u H3 Z3 rl3 sm3 du => cmp_ok g c5 rl3.zh (dw.up sm3) du (q _ H3 Z3 rl3 (sm1.trans (sm2.trans sm3)) (.bl _))
  · obtain ⟨x, ρ1, y, ρ2, kb, c1, c2, c3, c4⟩ := core e
    refine tD_d hp rl c1 fun v H1 Z1 rl1 sm1 dv => tD_d hp rl1 c2 fun w H2 Z2 rl2 sm2 dw => cmp_ok g c3 rl2.zh (dv.up sm2) dw ⟨kb, rfl, ?_⟩
    rcases c4 with ⟨rfl, rfl, rfl⟩ | ⟨z, k2, rfl, c4, c5, rfl⟩
    · cases hk
      rw [if_neg Bool.false_ne_true]; exact ⟨_, rfl, q H2 Z2 rl2 (sm1.trans sm2)⟩
    · cases hk
      rw [if_pos rfl]
      exact tD_d hp rl2 c4 fun u H3 Z3 rl3 sm3 du => cmp_ok g c5 rl3.zh (dw.up sm3) du ⟨_, rfl, q H3 Z3 rl3 (sm1.trans (sm2.trans sm3))⟩
/-- x if t else y -/
theorem pt_ite {t u : TT} {tc : TT} (hc : PT X c tc) (ha : PT X a t) (hb : PT X b u) : PT X (.IfExp c a b pos) (fun σ H Q => tc σ H fun k H1 => if k = true then t σ H1 Q else u σ H1 Q) := by
  refine ⟨fun pins s σ H Q I h => ?_⟩
  show wpAny _ _ (do if ← isTrue c X.env (eval c X.env) then isTrue a X.env (eval a X.env) else isTrue b X.env (eval b X.env)) _ _ _
  refine wpAny_bind (thn (hc.run pins s σ H _ I h) fun d s1 ⟨H1, I1, q1⟩ => ?_)
  cases d with
  | true => exact ha.run pins s1 σ H1 Q I1 q1
  | false => exact hb.run pins s1 σ H1 Q I1 q1
theorem de_ite (hc : DT X pn c fc) (ha : DE X pn a fa ∧ DT X pn a fa) (hb : DE X pn b fb ∧ DT X pn b fb) (hf : ∀ ρ, f ρ = (do
      let (x, ρ1) ← fc ρ
      match ← truD x.d with
      | true => fa ρ1
      | false => fb ρ1)) : DE X pn (.IfExp c a b pos) f ∧ DT X pn (.IfExp c a b pos) f := by
  have core : ∀ {ρ r ρ'}, f ρ = some (r, ρ') → ∃ x ρ1 kb, fc ρ = some (x, ρ1) ∧ truD x.d = some kb ∧ (if kb = true then fa ρ1 else fb ρ1) = some (r, ρ') := fun {ρ r ρ'} e => by
    rw [hf] at e
    cases c1 : fc ρ with
    | none => rw [c1] at e; cases e
    | some w =>
    obtain ⟨x, ρ1⟩ := w
    rw [c1] at e
    simp only [Option.bind_eq_bind, Option.bind_some] at e
    cases c2 : truD x.d with
    | none => rw [c2] at e; cases e
    | some kb =>
    rw [c2] at e
    refine ⟨x, ρ1, kb, rfl, c2, ?_⟩
    cases kb <;> exact e
  refine ⟨PE.imp (pe_ifExp hc ha.1 hb.1) fun σ H Q ⟨B, Z, ρ, r, ρ', hp, rl, e, q⟩ => ?_, PT.imp (pt_ite hc ha.2 hb.2) fun σ H Q ⟨B, Z, ρ, r, ρ', k, hp, rl, e, hk, q⟩ => ?_⟩
  · obtain ⟨x, ρ1, kb, c1, c2, c3⟩ := core e
    refine tDT_k hp rl c1 c2 fun H1 Z1 rl1 sm1 => ?_
    cases kb with
    | true => rw [if_pos rfl] at c3 ⊢; exact ⟨B, Z1, ρ1, r, ρ', hp, rl1, c3, fun v H2 Z2 rl2 sm2 rr => q v H2 Z2 rl2 (sm1.trans sm2) rr⟩
    | false => rw [if_neg Bool.false_ne_true] at c3 ⊢; exact ⟨B, Z1, ρ1, r, ρ', hp, rl1, c3, fun v H2 Z2 rl2 sm2 rr => q v H2 Z2 rl2 (sm1.trans sm2) rr⟩
  · obtain ⟨x, ρ1, kb, c1, c2, c3⟩ := core e
    refine tDT_k hp rl c1 c2 fun H1 Z1 rl1 sm1 => ?_
    cases kb with
    | true => rw [if_pos rfl] at c3 ⊢; exact ⟨B, Z1, ρ1, r, ρ', k, hp, rl1, c3, hk, fun H2 Z2 rl2 sm2 => q H2 Z2 rl2 (sm1.trans sm2)⟩
    | false => rw [if_neg Bool.false_ne_true] at c3 ⊢; exact ⟨B, Z1, ρ1, r, ρ', k, hp, rl1, c3, hk, fun H2 Z2 rl2 sm2 => q H2 Z2 rl2 (sm1.trans sm2)⟩
end
end Dx

namespace Dx
open PySem PySem.Spec PyProof.Rows L2
section
variable {X : Cx} {pn : List Nat} {G : Gx} {N : List Str} {k : Nat} {fa fb fc f : ME} {a b c : Expr} {pos : Pos}
/-- a value whose own list stands in the heap, its items in the region -/
def Dw (K : PySem.W.Frag) (Z H : Hp) (v : V) (d : PyData) : Prop := Dv K Z v d ∨ ∃ p xs ds, v = .ref p ∧ d = .list ds ∧ H p = some (.lst xs) ∧ DvAll K Z xs ds
theorem getD_dw {B : Bs} {Z H : Hp} {σ : L2.St} {ρ : Env1} {i : Nat} {d : PyData} (rl : Rl X.K B Z H σ ρ) (h : getD ρ i = some d) : ∃ v, σ[i]? = some (some v) ∧ Dw X.K Z H v d := by
  unfold getD at h
  split at h
  · rename_i e; cases h
    obtain ⟨v, h1, h2⟩ := rl.dat i _ e
    exact ⟨v, h1, .inl h2⟩
  · rename_i e; cases h
    obtain ⟨p, xs, h1, h2, h3, h4, _⟩ := rl.own i _ e
    exact ⟨_, h1, .inr ⟨p, xs, _, rfl, rfl, h2, h4⟩⟩
  · cases h
theorem idx_ow (g : Gd G N k X) {Z H : Hp} {x y : V} {d e b : PyData} {Q : VK} (hb : idxD d e = some b) (zh : Same Z H) (h1 : Dw X.K Z H x d) (h2 : Dv X.K Z y e) (q : ∀ v, Dv X.K Z v b → Q v H) : ixAny X x y H Q := by
  rcases h1 with h1 | ⟨p, xs, ds, rfl, rfl, h3, h4⟩
  · exact idx_ok g hb zh h1 h2 q
  · unfold idxD at hb
    split at hb
    · rename_i ds' j hd
      cases hd
      cases h2
      obtain ⟨v, e1, e2⟩ := h4.atI hb
      exact ⟨_, ix_list, _, _, _, v, rfl, rfl, .inl (.inl h3), e1, q v e2⟩
    · rename_i hd; cases hd
    · cases hb
theorem slc_ow (g : Gd G N k X) {B : Bs} {Z H : Hp} {σ : L2.St} {ρ : Env1} {x : V} {d : PyData} {r : R} {Q : VK} {lo hi : Option Int} (hb : slcD d lo hi = some r) (rl : Rl X.K B Z H σ ρ) (h1 : Dw X.K Z H x d)
    (q : ∀ v H' Z', Rl X.K B Z' H' σ ρ → Same Z Z' → RR X.K B Z' H' σ ρ v r → Q v H') : slAny X x lo hi H Q := by
  rcases h1 with h1 | ⟨p, xs, ds, rfl, rfl, h3, h4⟩
  · exact slc_ok g hb rl h1 q
  · unfold slcD at hb
    cases hb
    refine ⟨_, sl_list, _, _, rfl, .inl (.inl h3), fun p hp => ?_⟩
    obtain ⟨r1, r2⟩ := rl.newL hp (h4.cut lo hi)
    exact q _ _ _ r1 (Same.refl _) r2
/-- a read of it, with what it is later -/
theorem late_ok {var : Option Nat} {e : Expr} (ha : DE X pn e fa) (hv : ∀ i, var = some i → PE X e (tVar i)) : PE X e (fun σ H Q => ∃ B Z ρ x ρ1, pnOf B = pn ∧ Rl X.K B Z H σ ρ ∧ eOr fa var ρ = some (x, ρ1) ∧
    ∀ v H1 Z1, Rl X.K B Z1 H1 σ ρ1 → Same Z Z1 → (∀ Z2 H2 ρ2 d, Rl X.K B Z2 H2 σ ρ2 → Same Z1 Z2 → late var x ρ2 = some d → Dw X.K Z2 H2 v d) → Q v H1) := by
  cases var with
  | none =>
    refine PE.imp ha fun σ H Q ⟨B, Z, ρ, x, ρ1, hp, rl, e, q⟩ => ?_
    unfold eOr at e
    cases c1 : fa ρ with
    | none => rw [c1] at e; cases e
    | some w =>
    obtain ⟨r, ρ'⟩ := w
    rw [c1] at e; cases e
    refine tD_d hp rl c1 fun v H1 Z1 rl1 sm1 dv => q v H1 Z1 rl1 sm1 fun Z2 H2 ρ2 d rl2 sm2 hl => ?_
    cases hl
    exact .inl (dv.up sm2)
  | some i =>
    refine PE.imp (hv i rfl) fun σ H Q ⟨B, Z, ρ, x, ρ1, hp, rl, e, q⟩ => ?_
    unfold eOr at e
    cases c1 : getD ρ i with
    | none => simp only [c1] at e; cases e
    | some d =>
    simp only [c1] at e; cases e
    obtain ⟨v, h1, _⟩ := getD_dw rl c1
    refine ⟨v, h1, q v H Z rl (Same.refl _) fun Z2 H2 ρ2 d2 rl2 sm2 hl => ?_⟩
    obtain ⟨w, h2, h3⟩ := getD_dw rl2 hl
    rw [h1] at h2; cases h2
    exact h3
theorem de_idx (g : Gd G N k X) {var : Option Nat} (ha : DE X pn a fa) (hv : ∀ i, var = some i → PE X a (tVar i)) (hb : DE X pn b fb) (hs : PlainIx b) (hf : ∀ ρ, f ρ = (do
      let (x, ρ1) ← eOr fa var ρ
      let (y, ρ2) ← fb ρ1
      let x ← late var x ρ2
      let d ← idxD x y.d
      some (.dat d, ρ2))) : DE X pn (.Subscript a b pos) f := PE.imp (pe_ix (ix_any X) (late_ok ha hv) hb hs) fun σ H Q ⟨B, Z, ρ, r, ρ', hp, rl, e, q⟩ => by
  rw [hf] at e
  cases c1 : eOr fa var ρ with
  | none => rw [c1] at e; cases e
  | some w =>
  obtain ⟨x, ρ1⟩ := w
  rw [c1] at e
  simp only [Option.bind_eq_bind, Option.bind_some] at e
  cases c2 : fb ρ1 with
  | none => rw [c2] at e; cases e
  | some w =>
  obtain ⟨y, ρ2⟩ := w
  rw [c2] at e
  simp only [Option.bind_some] at e
  cases c3 : late var x ρ2 with
  | none => rw [c3] at e; cases e
  | some x' =>
  rw [c3] at e
  simp only [Option.bind_some] at e
  cases c4 : idxD x' y.d with
  | none => rw [c4] at e; cases e
  | some d =>
  rw [c4] at e; cases e
  exact ⟨B, Z, ρ, x, ρ1, hp, rl, c1, fun v H1 Z1 rl1 sm1 lt => tD_d hp rl1 c2 fun w H2 Z2 rl2 sm2 dw =>
    idx_ow g c4 rl2.zh (lt Z2 H2 _ _ rl2 sm2 c3) dw fun u du => q u H2 Z2 rl2 (sm1.trans sm2) du⟩
def tDO (K : PySem.W.Frag) (pn : List Nat) (fo : Option ME) : TO := fun σ H Q => ∃ B Z ρ o ρ', pnOf B = pn ∧ Rl K B Z H σ ρ ∧ partD fo ρ = some (o, ρ') ∧ ∀ H' Z', Rl K B Z' H' σ ρ' → Same Z Z' → Q o H'
theorem po_imp {e : Option Expr} {t t' : TO} (h : PO X e t) (q : ∀ σ H Q, t' σ H Q → t σ H Q) : PO X e t' := ⟨fun pins s σ H Q I z => h.run pins s σ H Q I (q σ H Q z)⟩
theorem do_none : PO X none (tDO X.K pn none) := po_imp po_none fun σ H Q ⟨B, Z, ρ, o, ρ', hp, rl, e, q⟩ => by
  cases e; exact q H Z rl (Same.refl _)
theorem do_some {e : Expr} {fe : ME} (he : DE X pn e fe) : PO X (some e) (tDO X.K pn (some fe)) := po_imp (po_some he) fun σ H Q ⟨B, Z, ρ, o, ρ', hp, rl, e, q⟩ => by
  unfold partD at e
  simp only at e
  split at e
  · rename_i i ρ1 c1
    cases e
    refine tD_d hp rl c1 fun v H1 Z1 rl1 sm1 dv => ?_
    cases dv
    exact ⟨i, rfl, q H1 Z1 rl1 sm1⟩
  · cases e
theorem de_slc (g : Gd G N k X) {var : Option Nat} {lo hi : Option Expr} {fl fh : Option ME} {p2 : Pos} (ha : DE X pn a fa) (hv : ∀ i, var = some i → PE X a (tVar i)) (hl : PO X lo (tDO X.K pn fl)) (hh : PO X hi (tDO X.K pn fh)) (hf : ∀ ρ, f ρ = (do
      let (x, ρ1) ← eOr fa var ρ
      let (l, ρ2) ← partD fl ρ1
      let (h, ρ3) ← partD fh ρ2
      let x ← late var x ρ3
      let r ← slcD x l h
      some (r, ρ3))) : DE X pn (.Subscript a (.Slice lo hi none p2) pos) f := PE.imp (pe_slice (sl_any X) (late_ok ha hv) hl hh) fun σ H Q ⟨B, Z, ρ, r, ρ', hp, rl, e, q⟩ => by
  rw [hf] at e
  cases c1 : eOr fa var ρ with
  | none => rw [c1] at e; cases e
  | some w =>
  obtain ⟨x, ρ1⟩ := w
  rw [c1] at e
  simp only [Option.bind_eq_bind, Option.bind_some] at e
  cases c2 : partD fl ρ1 with
  | none => rw [c2] at e; cases e
  | some w =>
  obtain ⟨l, ρ2⟩ := w
  rw [c2] at e
  simp only [Option.bind_some] at e
  cases c3 : partD fh ρ2 with
  | none => rw [c3] at e; cases e
  | some w =>
  obtain ⟨h, ρ3⟩ := w
  rw [c3] at e
  simp only [Option.bind_some] at e
  cases c4 : late var x ρ3 with
  | none => rw [c4] at e; cases e
  | some x' =>
  rw [c4] at e
  simp only [Option.bind_some] at e
  cases c5 : slcD x' l h with
  | none => rw [c5] at e; cases e
  | some d =>
  rw [c5] at e; cases e
  exact ⟨B, Z, ρ, x, ρ1, hp, rl, c1, fun v H1 Z1 rl1 sm1 lt => ⟨B, Z1, ρ1, l, ρ2, hp, rl1, c2, fun H2 Z2 rl2 sm2 => ⟨B, Z2, ρ2, h, _, hp, rl2, c3, fun H3 Z3 rl3 sm3 =>
    slc_ow g c5 rl3 (lt Z3 H3 _ _ rl3 (sm2.trans sm3) c4) fun u H4 Z4 rl4 sm4 rr => q u H4 Z4 rl4 (sm1.trans (sm2.trans (sm3.trans sm4))) rr⟩⟩⟩
theorem de_rev {kk : Nat} {p1 p2 p3 : Pos} (ha : DE X pn a fa) (hf : ∀ ρ, f ρ = (do
      let (x, ρ1) ← fa ρ
      match x.d with
      | .list xs => some (.frs xs.reverse, ρ1)
      | _ => none)) : DE X pn (.Subscript a (.Slice none none (some (.UnaryOp .USub (.Constant (.int 1) kk p1) p2)) p3) pos) f := PE.imp (pe_revL ha) fun σ H Q ⟨B, Z, ρ, r, ρ', hp, rl, e, q⟩ => by
  rw [hf] at e
  cases c1 : fa ρ with
  | none => rw [c1] at e; cases e
  | some w =>
  obtain ⟨x, ρ1⟩ := w
  rw [c1] at e
  simp only [Option.bind_eq_bind, Option.bind_some] at e
  split at e
  · rename_i xs hx
    cases e
    refine tD_d hp rl c1 fun v H1 Z1 rl1 sm1 dv => ?_
    rw [hx] at dv
    cases dv with | lst a b =>
    refine ⟨_, _, rfl, (Same.seq rl1.zh a), fun p hp => ?_⟩
    obtain ⟨r1, r2⟩ := rl1.newL hp b.rev
    exact q _ _ _ r1 sm1 r2
  · cases e
/-! displays, built-ins -/
theorem da_all {es : List Expr} {fs : List Bool → Env1 → Option (List Ar × Env1)} (ha : DA X pn es fs) {B : Bs} {Z H : Hp} {σ : L2.St} {ρ ρ' : Env1} {as : List Ar} {ds : List PyData} {Q : List V → Hp → Prop} (hp : pnOf B = pn) (rl : Rl X.K B Z H σ ρ) (e : fs [] ρ = some (as, ρ')) (hd : arsD as = some ds)
    (q : ∀ vs H' Z', Rl X.K B Z' H' σ ρ' → Same Z Z' → DvAll X.K Z' vs ds → Q vs H') : tDA X.K pn [] fs σ H Q := ⟨B, Z, ρ, as, ρ', hp, rl, e, fun vs H' Z' rl' sm ar => q vs H' Z' rl' sm (ar.data hd)⟩
theorem de_tup {es : List Expr} {kk : Nat} {fs : List Bool → Env1 → Option (List Ar × Env1)} (ha : DA X pn es fs) (hf : ∀ ρ, f ρ = (do
      let (xs, ρ1) ← fs [] ρ
      let ds ← arsD xs
      if ds.length ≤ sizeLine then some (.dat (.tuple ds), ρ1) else none)) : DE X pn (.Tuple es kk pos) f := PE.imp (pe_tup (ha [])) fun σ H Q ⟨B, Z, ρ, r, ρ', hp, rl, e, q⟩ => by
  rw [hf] at e
  cases c1 : fs [] ρ with
  | none => rw [c1] at e; cases e
  | some w =>
  obtain ⟨xs, ρ1⟩ := w
  rw [c1] at e
  simp only [Option.bind_eq_bind, Option.bind_some] at e
  cases c2 : arsD xs with
  | none => rw [c2] at e; cases e
  | some ds =>
  rw [c2] at e
  simp only [Option.bind_some] at e
  split at e
  · rename_i hz
    cases e
    refine da_all ha hp rl c1 c2 fun vs H1 Z1 rl1 sm1 dv => ⟨by rw [dv.len]; exact hz, fun p hp => ?_⟩
    obtain ⟨g1, g2, g3⟩ := rl1.newT hp dv
    exact q _ _ _ g1 (sm1.trans g2) g3
  · cases e
theorem de_lst {es : List Expr} {fs : List Bool → Env1 → Option (List Ar × Env1)} (ha : DA X pn es fs) (hf : ∀ ρ, f ρ = (do
      let (xs, ρ1) ← fs [] ρ
      let ds ← arsD xs
      if ds.length ≤ sizeLine then some (.frs ds, ρ1) else none)) : DE X pn (.List es pos) f := PE.imp (pe_lst (ha [])) fun σ H Q ⟨B, Z, ρ, r, ρ', hp, rl, e, q⟩ => by
  rw [hf] at e
  cases c1 : fs [] ρ with
  | none => rw [c1] at e; cases e
  | some w =>
  obtain ⟨xs, ρ1⟩ := w
  rw [c1] at e
  simp only [Option.bind_eq_bind, Option.bind_some] at e
  cases c2 : arsD xs with
  | none => rw [c2] at e; cases e
  | some ds =>
  rw [c2] at e
  simp only [Option.bind_some] at e
  split at e
  · rename_i hz
    cases e
    refine da_all ha hp rl c1 c2 fun vs H1 Z1 rl1 sm1 dv => ⟨by rw [dv.len]; exact hz, fun p hp => ?_⟩
    obtain ⟨g1, g2⟩ := rl1.newL hp dv
    exact q _ _ _ g1 sm1 g2
  · cases e
theorem de_blt (g : Gd G N k X) {x : Str} {p : Pos} {u : Value} {e : Expr} {es : List Expr} {fs : List Bool → Env1 → Option (List Ar × Env1)} (hu : bltV x = some u) (hr : PE X (.Call (.Name x p) (e :: es) [] pos) (tCB (cAny X u) (tDA X.K pn [] fs))) (ha : DA X pn (e :: es) fs) (hf : ∀ ρ, f ρ = (do
      let (xs, ρ1) ← fs [] ρ
      let ds ← arsD xs
      let r ← bltD x ds
      some (r, ρ1))) : DE X pn (.Call (.Name x p) (e :: es) [] pos) f := PE.imp hr fun σ H Q ⟨B, Z, ρ, r, ρ', hp, rl, e, q⟩ => by
  rw [hf] at e
  cases c1 : fs [] ρ with
  | none => rw [c1] at e; cases e
  | some w =>
  obtain ⟨xs, ρ1⟩ := w
  rw [c1] at e
  simp only [Option.bind_eq_bind, Option.bind_some] at e
  cases c2 : arsD xs with
  | none => rw [c2] at e; cases e
  | some ds =>
  rw [c2] at e
  simp only [Option.bind_some] at e
  cases c3 : bltD x ds with
  | none => rw [c3] at e; cases e
  | some r3 =>
  rw [c3] at e; cases e
  exact da_all ha hp rl c1 c2 fun vs H1 Z1 rl1 sm1 dv => blt_ok g hu c3 rl1 dv fun v H2 Z2 rl2 sm2 rr => q v H2 Z2 rl2 (sm1.trans sm2) rr
theorem de_isi (g : Gd G N k X) {x : Str} {p p2 : Pos} {t : Str} (hx : x = "isinstance") (hg : Gl X x) (ha : DE X pn a fa) (ht : PE X (.Name t p2) (tC (.ty (tyN t)))) (hs1 : starEach [a, .Name t p2] X.env = (false, eval a X.env) :: starEach [.Name t p2] X.env) (hf : ∀ ρ, f ρ = (do
      let (x, ρ1) ← fa ρ
      let k ← isiL x.d [t]
      some (.dat (.bool k), ρ1))) : DE X pn (.Call (.Name x p) [a, .Name t p2] [] pos) f := by
  subst hx
  refine PE.imp (pe_callB call_isi hg (g.mg (by decide +kernel)) (by decide +kernel) (pa_cons ha (pa_cons ht pa_nil rfl) hs1) (by decide) (by decide) hs1 rfl) fun σ H Q ⟨B, Z, ρ, r, ρ', hp, rl, e, q⟩ => ?_
  rw [hf] at e
  cases c1 : fa ρ with
  | none => rw [c1] at e; cases e
  | some w =>
  obtain ⟨y, ρ1⟩ := w
  rw [c1] at e
  simp only [Option.bind_eq_bind, Option.bind_some] at e
  cases c2 : isiL y.d [t] with
  | none => rw [c2] at e; cases e
  | some kb =>
  rw [c2] at e; cases e
  refine tD_d hp rl c1 fun v H1 Z1 rl1 sm1 dv => ?_
  have z := isi_any (K := X.K) [t] kb c2
  have z2 : PySem.W.kitOne X.K (.type (tyD y.d)) (.type (tyN t)) = some kb := by
    have z : PySem.W.kitAny X.K (.type (tyD y.d)) [.type (tyN t)] = some kb := z
    unfold PySem.W.kitAny at z
    split at z
    · rename_i h; cases z; exact h
    · rename_i h; rw [kitAny_nil] at z; cases z; exact h
    · cases z
  exact ⟨v, .ty (tyN t), _, _, kb, rfl, .ty _, tyX_of rl1.zh dv, z2, q _ H1 Z1 rl1 sm1 (.bl _)⟩
end
end Dx

namespace Dx
open PySem PySem.Spec PyProof.Rows L2
/-! ## Targets -/
def tDGs (K : PySem.W.Frag) (pn : List Nat) (S : List Nat) (f : PyData → Env1 → Option Env1) : TGs := fun vs σ H Q =>
  ∃ B Z ρ ds ρ', pnOf B = pn ∧ Rl K B Z H σ ρ ∧ DvAll K Z vs ds ∧ f (.tuple ds) ρ = some ρ' ∧ ∀ σ' H' Z', Rl K B Z' H' σ' ρ' → Same Z Z' → (∀ i, i ∉ S → σ'[i]? = σ[i]?) → σ'.length = σ.length → Q σ' H'
theorem pg_imp {X : Cx} {e : Expr} {t t' : TG} (h : PG X e t) (q : ∀ v σ H Q, t' v σ H Q → t v σ H Q) : PG X e t' := ⟨fun pins s σ H v u Q I r z => h.run pins s σ H v u Q I r (q v σ H Q z)⟩
theorem pgs_imp {X : Cx} {e : List Expr} {t t' : TGs} (h : PGs X e t) (q : ∀ v σ H Q, t' v σ H Q → t v σ H Q) : PGs X e t' := ⟨fun pins s σ H v u Q I r z => h.run pins s σ H v u Q I r (q v σ H Q z)⟩
section
variable {X : Cx} {pn : List Nat} {N : List Str}
theorem setS_some {ρ ρ' : Env1} {i : Nat} {s : Sl} (h : setS pn ρ i s = some ρ') : i ∉ pn ∧ i < ρ.length ∧ ρ' = ρ.set i (some s) := by
  unfold setS at h
  split at h
  · cases h
  · rename_i h1
    split at h
    · cases h; exact ⟨by simpa using h1, by assumption, rfl⟩
    · cases h
theorem dg_name {i : Nat} {x : Str} {pos : Pos} {f : PyData → Env1 → Option Env1} (hN : X.N.Nodup) (hi : X.N[i]? = some x) (hx : Loc X.env.scope x) (hfn : X.fn x = true ∨ X.env.scope.names.lookup x = some .local)
    (hf : ∀ d ρ, f d ρ = setS pn ρ i (.dat d)) : DG X pn [i] (.Name x pos) f := pg_imp (pg_name hN hi hx hfn) fun v σ H Q ⟨B, Z, ρ, d, ρ', hp, rl, dv, e, q⟩ => by
  rw [hf] at e
  obtain ⟨h1, h2, rfl⟩ := setS_some e
  refine q _ H Z (rl.setDat h2 (by rw [hp]; exact h1) dv) (Same.refl _) (fun j hj => ?_) (by simp)
  rw [List.getElem?_set_ne]
  intro z; exact hj (by simp [z])
theorem dgs_nil {f : PyData → Env1 → Option Env1} (hf : ∀ d ρ, f d ρ = match d with | .tuple [] => some ρ | _ => none) : PGs X [] (tDGs X.K pn [] f) := pgs_imp pgs_nil fun vs σ H Q ⟨B, Z, ρ, ds, ρ', hp, rl, dv, e, q⟩ => by
  rw [hf] at e
  cases ds with
  | cons d ds => cases e
  | nil =>
    cases e
    cases dv
    exact ⟨rfl, q σ H Z rl (Same.refl _) (fun _ _ => rfl) rfl⟩
theorem dgs_cons {e : Expr} {es : List Expr} {S S' : List Nat} {f g h : PyData → Env1 → Option Env1} (h1 : DG X pn S e f) (h2 : PGs X es (tDGs X.K pn S' g)) (hs : (assignEach (e :: es) X.env).map (·.2) = assign e X.env :: (assignEach es X.env).map (·.2))
    (hf : ∀ d ρ, h d ρ = match d with
        | .tuple (x :: xs) => do
          let ρ1 ← f x ρ
          g (.tuple xs) ρ1
        | _ => none) : PGs X (e :: es) (tDGs X.K pn (S ++ S') h) := pgs_imp (pgs_cons h1 h2 hs) fun vs σ H Q ⟨B, Z, ρ, ds, ρ', hp, rl, dv, e, q⟩ => by
  rw [hf] at e
  cases ds with
  | nil => cases e
  | cons d ds =>
    cases dv with | cons d1 d2 =>
    simp only [Option.bind_eq_bind] at e
    cases c1 : f d ρ with
    | none => rw [c1] at e; cases e
    | some ρ1 =>
    rw [c1] at e
    simp only [Option.bind_some] at e
    refine ⟨_, _, rfl, B, Z, ρ, d, ρ1, hp, rl, d1, c1, fun σ1 H1 Z1 rl1 sm1 ag1 l1 => ?_⟩
    refine ⟨B, Z1, ρ1, ds, ρ', hp, rl1, d2.up sm1, e, fun σ2 H2 Z2 rl2 sm2 ag2 l2 => ?_⟩
    refine q σ2 H2 Z2 rl2 (sm1.trans sm2) (fun i hi => ?_) (l2.trans l1)
    rw [List.mem_append, not_or] at hi
    rw [ag2 i hi.2, ag1 i hi.1]
theorem dg_tup {es : List Expr} {kk : Nat} {pos : Pos} {S : List Nat} {f g : PyData → Env1 → Option Env1} (hc : X.calm = true) (h : PGs X es (tDGs X.K pn S g)) (hst : (assignEach es X.env).findIdx? (·.1) = none) (hlen : ∀ ds ρ ρ', g (.tuple ds) ρ = some ρ' → ds.length = (assignEach es X.env).length)
    (hno : ∀ d ρ ρ', g d ρ = some ρ' → ∃ ds, d = .tuple ds) (hf : ∀ d ρ, f d ρ = g d ρ) : DG X pn S (.Tuple es kk pos) f := pg_imp (pg_tup (n := (assignEach es X.env).length) hc h rfl hst) fun v σ H Q ⟨B, Z, ρ, d, ρ', hp, rl, dv, e, q⟩ => by
  rw [hf] at e
  obtain ⟨ds, rfl⟩ := hno _ _ _ e
  cases dv with | tup a b =>
  refine ⟨_, _, rfl, sameT rl.zh a, by rw [b.len]; exact hlen _ _ _ e, B, Z, ρ, ds, ρ', hp, rl, b, e, q⟩
end
theorem ixN?_some {N : List Str} {x : Str} {i : Nat} (h : ixN? N x = some i) : N[i]? = some x := by
  unfold ixN? at h
  obtain ⟨h1, h2, _⟩ := List.findIdx?_eq_some_iff_getElem.mp h
  rw [List.getElem?_eq_getElem h1]
  have : N[i] = x := by simpa using h2
  rw [this]
theorem okN_debug {x : Str} (h : okN x = true) : (x == ("__debug__" : Str)) = false ∧ (x == ("__classdict__" : Str)) = false := by
  unfold okN at h
  simpa using h
theorem vis_of {sc : Scope} {x : Str} (h : visB sc x = true) : okN x = true ∧ Vis sc x := by
  unfold visB at h
  obtain ⟨h1, h2⟩ := Bool.and_eq_true_iff.mp h
  refine ⟨h1, ?_⟩
  split at h2
  · exact .inl (by assumption)
  · exact .inr (.inl (by assumption))
  · exact .inr (.inr (by assumption))
  · cases h2
theorem gl_of {sc : Scope} {x : Str} (h : glB sc x = true) : okN x = true ∧ sc.names.lookup x = some .globalImplicit := by
  unfold glB at h
  obtain ⟨h1, h2⟩ := Bool.and_eq_true_iff.mp h
  refine ⟨h1, ?_⟩
  split at h2
  · assumption
  · cases h2
theorem loc_of {fnb : Str → Bool} {sc : Scope} {x : Str} (h : locB fnb sc x = true) : Loc sc x ∧ (fnb x = true ∨ sc.names.lookup x = some .local) := by
  unfold locB at h
  split at h
  · exact ⟨.inl (by assumption), .inr (by assumption)⟩
  · exact ⟨.inr (by assumption), .inl h⟩
  · cases h
/-- targets' trees mean what the text's targets do -/
theorem cT_ok {G : Gx} {wf : Nat} {X : Cx} {pn : List Nat} (hN : X.N.Nodup) (hc : X.calm = true) : ∀ (n : Nat) (e : Expr) (t : I) (S : List Nat), cT X.N X.fn X.env.scope n e = some (t, S) → DG X pn S e (sm G pn wf t).t ∧ (∀ es, (assignEach (e :: es) X.env) = (false, assign e X.env) :: assignEach es X.env)
  | 0, _, _, _, h => by unfold cT at h; cases h
  | n + 1, e, t, S, h => by
    have step : ∀ (es : List Expr) (t : I) (S : List Nat), cT.go X.N X.fn X.env.scope n es = some (t, S) → PGs X es (tDGs X.K pn S (sm G pn wf t).t) ∧ (assignEach es X.env).findIdx? (·.1) = none ∧
        (∀ ds ρ ρ', (sm G pn wf t).t (.tuple ds) ρ = some ρ' → ds.length = (assignEach es X.env).length) ∧ (∀ d ρ ρ', (sm G pn wf t).t d ρ = some ρ' → ∃ ds, d = .tuple ds) := by
      intro es
      induction es with
      | nil =>
        intro t S h
        unfold cT.go at h
        cases h
        refine ⟨dgs_nil fun d ρ => rfl, rfl, fun ds ρ ρ' h => ?_, fun d ρ ρ' h => ?_⟩
        · cases ds with
          | nil => rfl
          | cons a b => cases h
        · cases d <;> first | exact ⟨_, rfl⟩ | cases h
      | cons e es ih =>
        intro t S h
        unfold cT.go at h
        cases c1 : cT X.N X.fn X.env.scope n e with
        | none => rw [c1] at h; cases h
        | some a =>
        obtain ⟨a1, a2⟩ := a
        rw [c1] at h
        cases c2 : cT.go X.N X.fn X.env.scope n es with
        | none => rw [c2] at h; cases h
        | some b =>
        obtain ⟨b1, b2⟩ := b
        rw [c2] at h
        cases h
        obtain ⟨g1, g2⟩ := cT_ok hN hc n e a1 a2 c1
        obtain ⟨i1, i2, i3, i4⟩ := ih b1 b2 c2
        refine ⟨dgs_cons g1 i1 (by rw [g2 es]; rfl) fun d ρ => rfl, ?_, fun ds ρ ρ' h => ?_, fun d ρ ρ' h => ?_⟩
        · rw [g2 es, List.findIdx?_cons]
          simp [i2]
        · cases ds with
          | nil => cases h
          | cons d ds =>
            rw [g2 es]
            have h : ((sm G pn wf a1).t d ρ >>= fun ρ1 => (sm G pn wf b1).t (.tuple ds) ρ1) = some ρ' := h
            cases c3 : (sm G pn wf a1).t d ρ with
            | none => rw [c3] at h; cases h
            | some ρ1 =>
              rw [c3] at h
              have := i3 ds ρ1 ρ' h
              simp [this]
        · cases d with
          | tuple ds => exact ⟨_, rfl⟩
          | _ => cases h
    cases e with
    | Name x pos =>
      unfold cT at h
      cases c1 : ixN? X.N x with
      | none => rw [c1] at h; cases h
      | some i =>
      rw [c1] at h
      simp only [Option.bind_eq_bind, Option.bind_some] at h
      split at h
      · rename_i hl
        cases h
        obtain ⟨l1, l2⟩ := loc_of (Bool.and_eq_true_iff.mp hl).1
        exact ⟨dg_name hN (ixN?_some c1) l1 l2 fun d ρ => rfl, fun es => rfl⟩
      · cases h
    | Tuple es kk pos =>
      unfold cT at h
      cases c1 : cT.go X.N X.fn X.env.scope n es with
      | none => rw [c1] at h; cases h
      | some a =>
      obtain ⟨a1, a2⟩ := a
      rw [c1] at h
      cases h
      obtain ⟨i1, i2, i3, i4⟩ := step es a1 a2 c1
      exact ⟨dg_tup hc i1 i2 i3 i4 fun d ρ => rfl, fun es => rfl⟩
    | _ => unfold cT at h; cases h
end Dx

namespace Dx
open PySem PySem.Spec PyProof.Rows L2
section
variable {c : Cc} {G : Gx} {wf : Nat} {pn : List Nat} {k : Nat}
theorem Gd.blk {X : Cx} (g : Gd G c.N k X) (s : Shared) (H : Hp) (scope : Scope) (cenv : Env) (fp : List Addr) : Gd G c.N k (X.blk s H scope cenv fp) :=
  ⟨g.hN, g.nd, g.calm, g.room, g.fns, g.cons, g.blt, PassesOwn.never⟩
/-- what a served expression is: a reading, a test, a slot -/
def Ok (X : Cx) (pn : List Nat) (G : Gx) (wf : Nat) (e : Expr) (i : I) : Prop := (DE X pn e (sm G pn wf i).e ∧ DT X pn e (sm G pn wf i).e) ∧ ∀ j, varI i = some j → PE X e (tVar j)
theorem Ok.plain {X : Cx} {e : Expr} {i : I} (h : DE X pn e (sm G pn wf i).e) (he : ∀ whole, isTrue e X.env whole = (do let v ← whole; standAt e.pos; holding [v] (truthy v))) (hv : varI i = none) : Ok X pn G wf e i :=
  ⟨⟨h, dt_plain h he⟩, fun j z => by rw [hv] at z; cases z⟩
theorem bool_none {α : Type} {a b : Option α} : (a >>= fun _ => b) = none → a = none ∨ b = none := by cases a <;> simp
/-- a list of served expressions as arguments -/
theorem lsG_ok {X : Cx} {f : Expr → Option I} (hf : ∀ v p, f (.Starred v p) = none) (ok : ∀ e i, f e = some i → Ok X pn G wf e i) : ∀ (es : List Expr) (i : I), lsG f es = some i → DA X pn es (sm G pn wf i).a
  | [], i, h => by cases h; exact da_nil fun ks ρ => rfl
  | e :: es, i, h => by
    unfold lsG at h
    cases h1 : f e with
    | none => rw [h1] at h; cases h
    | some a =>
    rw [h1] at h
    cases h2 : lsG f es with
    | none => rw [h2] at h; cases h
    | some b =>
    rw [h2] at h; cases h
    exact da_cons (ok e a h1).1.1 (lsG_ok hf ok es b h2) (ok e a h1).2 (noStar hf h1 es X.env) fun ks ρ => rfl
theorem boG_ok {X : Cx} {op : BoolOp} {f : Expr → Option I} {pos : Pos} (ok : ∀ e i, f e = some i → Ok X pn G wf e i) : ∀ (es : List Expr) (i : I), boG op f es = some i →
    DE X pn (.BoolOp op es pos) (sm G pn wf i).e ∧ PW X (.BoolOp op es pos) (tDT X.K pn (sm G pn wf i).e)
  | [], i, h => by cases h
  | [e], i, h => by
    have h : f e = some i := h
    refine ⟨pe_one (ok e i h).1.1, ?_⟩
    cases op with
    | And => exact pw_and1 (ok e i h).1.2
    | Or => exact pw_or1 (ok e i h).1.2
  | e :: e2 :: es, i, h => by
    unfold boG at h
    cases h1 : f e with
    | none => rw [h1] at h; cases h
    | some a =>
    rw [h1] at h
    cases h2 : boG op f (e2 :: es) with
    | none => rw [h2] at h; cases h
    | some b =>
    rw [h2] at h
    obtain ⟨i1, i2⟩ := boG_ok (pos := pos) ok (e2 :: es) b h2
    have oa := ok e a h1
    cases op with
    | And =>
      cases h
      have core : ∀ {ρ r ρ'}, (sm G pn wf (.and a b)).e ρ = some (r, ρ') → ∃ x ρ1 kb, (sm G pn wf a).e ρ = some (x, ρ1) ∧ truD x.d = some kb ∧ ((kb = true ∧ (sm G pn wf b).e ρ1 = some (r, ρ')) ∨ (kb = false ∧ r = .dat x.d ∧ ρ' = ρ1)) := fun {ρ r ρ'} e => by
        have e : ((sm G pn wf a).e ρ >>= fun p => truD p.1.d >>= fun kb => match kb with | true => (sm G pn wf b).e p.2 | false => some (.dat p.1.d, p.2)) = some (r, ρ') := e
        cases c1 : (sm G pn wf a).e ρ with
        | none => rw [c1] at e; cases e
        | some w =>
        obtain ⟨x, ρ1⟩ := w
        rw [c1] at e
        simp only [Option.bind_eq_bind, Option.bind_some] at e
        cases c2 : truD x.d with
        | none => rw [c2] at e; cases e
        | some kb =>
        rw [c2] at e
        cases kb with
        | true => exact ⟨x, ρ1, true, rfl, c2, .inl ⟨rfl, e⟩⟩
        | false => cases e; exact ⟨x, _, false, rfl, c2, .inr ⟨rfl, rfl, rfl⟩⟩
      refine ⟨PE.imp (pe_andT oa.1.1 i1) fun σ H Q ⟨B, Z, ρ, r, ρ', hp, rl, e, q⟩ => ?_, ⟨fun wh pins s σ H Q I z => (pw_and oa.1.2 i2).run wh pins s σ H Q I ?_⟩⟩
      · obtain ⟨x, ρ1, kb, c1, c2, c3⟩ := core e
        refine tD_d hp rl c1 fun v H1 Z1 rl1 sm1 dv => ⟨kb, tru_D c2 rl1.zh dv, ?_⟩
        rcases c3 with ⟨rfl, c3⟩ | ⟨rfl, rfl, rfl⟩
        · rw [if_pos rfl]; exact ⟨B, Z1, ρ1, r, ρ', hp, rl1, c3, fun u H2 Z2 rl2 sm2 rr => q u H2 Z2 rl2 (sm1.trans sm2) rr⟩
        · rw [if_neg Bool.false_ne_true]; exact q v H1 Z1 rl1 sm1 dv
      · obtain ⟨B, Z, ρ, r, ρ', k, hp, rl, e, hk, q⟩ := z
        obtain ⟨x, ρ1, kb, c1, c2, c3⟩ := core e
        refine tDT_k hp rl c1 c2 fun H1 Z1 rl1 sm1 => ?_
        rcases c3 with ⟨rfl, c3⟩ | ⟨rfl, rfl, rfl⟩
        · rw [if_pos rfl]; exact ⟨B, Z1, ρ1, r, ρ', k, hp, rl1, c3, hk, fun H2 Z2 rl2 sm2 => q H2 Z2 rl2 (sm1.trans sm2)⟩
        · rw [if_neg Bool.false_ne_true]
          have : k = false := by
            have hk : truD x.d = some k := hk
            rw [c2] at hk; cases hk; rfl
          rw [this] at q
          exact q H1 Z1 rl1 sm1
    | Or =>
      cases h
      have core : ∀ {ρ r ρ'}, (sm G pn wf (.or a b)).e ρ = some (r, ρ') → ∃ x ρ1 kb, (sm G pn wf a).e ρ = some (x, ρ1) ∧ truD x.d = some kb ∧ ((kb = false ∧ (sm G pn wf b).e ρ1 = some (r, ρ')) ∨ (kb = true ∧ r = .dat x.d ∧ ρ' = ρ1)) := fun {ρ r ρ'} e => by
        have e : ((sm G pn wf a).e ρ >>= fun p => truD p.1.d >>= fun kb => match kb with | true => some (.dat p.1.d, p.2) | false => (sm G pn wf b).e p.2) = some (r, ρ') := e
        cases c1 : (sm G pn wf a).e ρ with
        | none => rw [c1] at e; cases e
        | some w =>
        obtain ⟨x, ρ1⟩ := w
        rw [c1] at e
        simp only [Option.bind_eq_bind, Option.bind_some] at e
        cases c2 : truD x.d with
        | none => rw [c2] at e; cases e
        | some kb =>
        rw [c2] at e
        cases kb with
        | false => exact ⟨x, ρ1, false, rfl, c2, .inl ⟨rfl, e⟩⟩
        | true => cases e; exact ⟨x, _, true, rfl, c2, .inr ⟨rfl, rfl, rfl⟩⟩
      refine ⟨PE.imp (pe_orT oa.1.1 i1) fun σ H Q ⟨B, Z, ρ, r, ρ', hp, rl, e, q⟩ => ?_, ⟨fun wh pins s σ H Q I z => (pw_or oa.1.2 i2).run wh pins s σ H Q I ?_⟩⟩
      · obtain ⟨x, ρ1, kb, c1, c2, c3⟩ := core e
        refine tD_d hp rl c1 fun v H1 Z1 rl1 sm1 dv => ⟨kb, tru_D c2 rl1.zh dv, ?_⟩
        rcases c3 with ⟨rfl, c3⟩ | ⟨rfl, rfl, rfl⟩
        · rw [if_neg Bool.false_ne_true]; exact ⟨B, Z1, ρ1, r, ρ', hp, rl1, c3, fun u H2 Z2 rl2 sm2 rr => q u H2 Z2 rl2 (sm1.trans sm2) rr⟩
        · rw [if_pos rfl]; exact q v H1 Z1 rl1 sm1 dv
      · obtain ⟨B, Z, ρ, r, ρ', k, hp, rl, e, hk, q⟩ := z
        obtain ⟨x, ρ1, kb, c1, c2, c3⟩ := core e
        refine tDT_k hp rl c1 c2 fun H1 Z1 rl1 sm1 => ?_
        rcases c3 with ⟨rfl, c3⟩ | ⟨rfl, rfl, rfl⟩
        · rw [if_neg Bool.false_ne_true]; exact ⟨B, Z1, ρ1, r, ρ', k, hp, rl1, c3, hk, fun H2 Z2 rl2 sm2 => q H2 Z2 rl2 (sm1.trans sm2)⟩
        · rw [if_pos rfl]
          have : k = true := by
            have hk : truD x.d = some k := hk
            rw [c2] at hk; cases hk; rfl
          rw [this] at q
          exact q H1 Z1 rl1 sm1
theorem cE_star {n : Nat} {fb : Str → Bool} {sc : Scope} (v : Expr) (p : Pos) : cE c n fb sc (.Starred v p) = none := by
  cases n <;> rfl
theorem tyN_ok {X : Cx} {t : Str} {p : Pos} (g : Gd G c.N k X) (h : (glB X.env.scope t && tyNames.contains t) = true) : PE X (.Name t p) (tC (.ty (tyN t))) := by
  obtain ⟨h1, h2⟩ := Bool.and_eq_true_iff.mp h
  obtain ⟨h3, h4⟩ := gl_of h1
  have hd := (okN_debug h3).1
  have h2 : t ∈ tyNames := by simpa using h2
  simp only [tyNames, List.mem_cons, List.not_mem_nil, or_false] at h2
  rcases h2 with e | e | e | e | e | e <;> subst e
  · exact pe_bltn h4 (g.mg (by decide +kernel)) (show bootBuiltins "int" = some (.type "int") by decide +kernel) rfl
  · exact pe_bltn h4 (g.mg (by decide +kernel)) (show bootBuiltins "bool" = some (.type "bool") by decide +kernel) rfl
  · exact pe_bltn h4 (g.mg (by decide +kernel)) (show bootBuiltins "tuple" = some (.type "tuple") by decide +kernel) rfl
  · exact pe_bltn h4 (g.mg (by decide +kernel)) (show bootBuiltins "list" = some (.type "list") by decide +kernel) rfl
  · exact pe_bltn h4 (g.mg (by decide +kernel)) (show bootBuiltins "str" = some (.type "str") by decide +kernel) rfl
  · exact pe_bltn h4 (g.mg (by decide +kernel)) (show bootBuiltins "dict" = some (.type "dict") by decide +kernel) rfl
end
end Dx

namespace Dx
open PySem PySem.Spec PyProof.Rows L2
section
variable {c : Cc} {G : Gx} {wf : Nat} {pn : List Nat} {k : Nat}
theorem blt_pe {X : Cx} {N : List Str} (g : Gd G N k X) (hgcd : c.gcd = true → X.mg "gcd" = some (.builtin "math.gcd")) {x : Str} {u : Value} {e : Expr} {es : List Expr} {p pos : Pos} {t : TA} (hu : bltV x = some u) (hx : (bltNames.contains x || (x = "gcd" && c.gcd)) = true) (hg : Gl X x)
    (ha : PA X (e :: es) t) (he : starEach (e :: es) X.env = (false, eval e X.env) :: starEach es X.env) (hpl : (backTo pos (starEach es X.env)).any (·.1) = false) : PE X (.Call (.Name x p) (e :: es) [] pos) (tCB (cAny X u) t) := by
  unfold bltV at hu
  split at hu; · cases hu; subst x; exact pe_callB (call_any X _) hg (g.mg (by decide +kernel)) (by decide +kernel) ha (by decide) (by decide) he hpl
  split at hu; · cases hu; subst x; exact pe_callB (call_any X _) hg (g.mg (by decide +kernel)) (by decide +kernel) ha (by decide) (by decide) he hpl
  split at hu; · cases hu; subst x; exact pe_callTy (call_any X _) hg (g.mg (by decide +kernel)) (by decide +kernel) ha (by decide) (by decide) he hpl
  split at hu; · cases hu; subst x; exact pe_callB (call_any X _) hg (g.mg (by decide +kernel)) (by decide +kernel) ha (by decide) (by decide) he hpl
  split at hu; · cases hu; subst x; exact pe_callB (call_any X _) hg (g.mg (by decide +kernel)) (by decide +kernel) ha (by decide) (by decide) he hpl
  split at hu
  · cases hu; subst x
    have : c.gcd = true := by
      rcases Bool.or_eq_true_iff.mp hx with h | h
      · exact absurd h (by decide +kernel)
      · exact (Bool.and_eq_true_iff.mp h).2
    exact pe_callBfun (call_any X _) hg (hgcd this) ha (by decide) he hpl
  split at hu; · cases hu; subst x; exact pe_callB (call_any X _) hg (g.mg (by decide +kernel)) (by decide +kernel) ha (by decide) (by decide) he hpl
  split at hu; · cases hu; subst x; exact pe_callB (call_any X _) hg (g.mg (by decide +kernel)) (by decide +kernel) ha (by decide) (by decide) he hpl
  split at hu; · cases hu; subst x; exact pe_callB (call_any X _) hg (g.mg (by decide +kernel)) (by decide +kernel) ha (by decide) (by decide) he hpl
  split at hu; · cases hu; subst x; exact pe_callTy (call_any X _) hg (g.mg (by decide +kernel)) (by decide +kernel) ha (by decide) (by decide) he hpl
  split at hu; · cases hu; subst x; exact pe_callB (call_any X _) hg (g.mg (by decide +kernel)) (by decide +kernel) ha (by decide) (by decide) he hpl
  split at hu; · cases hu; subst x; exact pe_callTy (call_any X _) hg (g.mg (by decide +kernel)) (by decide +kernel) ha (by decide) (by decide) he hpl
  cases hu
theorem folded_ok {e : Expr} (env : Env) (h : ∀ a b p, e ≠ .Set a b p) : ∀ x, foldedSetIterable e env x = pure x := by
  intro x
  cases e <;> first | rfl | exact absurd rfl (h _ _ _)
/-- an iterable -/
theorem cI_ok {X : Cx} (g : Gd G c.N k X) {f : Expr → Option I} (hf : ∀ v p, f (.Starred v p) = none) (ok : ∀ e i, f e = some i → Ok X pn G wf e i) {tg e : Expr} {i : I} (h : cE.cI f (isTup tg) X.env.scope e = some i) : DI X pn tg e (sm G pn wf i).i := by
  have plain : ∀ {j : I}, (f e).map I.iv = some j → DI X pn tg e (sm G pn wf j).i := fun {j} h => by
    cases c1 : f e with
    | none => rw [c1] at h; cases h
    | some a => rw [c1] at h; cases h; exact di_iv (ok e a c1).1.1 fun ρ => rfl
  unfold cE.cI at h
  split at h
  case h_2 => exact plain h
  case h_1 x p as q =>
  split at h
  · rename_i hx
    obtain ⟨hx, hg⟩ := Bool.and_eq_true_iff.mp hx
    have hx := of_decide_eq_true hx
    subst hx
    obtain ⟨_, hg⟩ := gl_of hg
    split at h
    · rename_i a
      cases c1 : f a with
      | none => rw [c1] at h; cases h
      | some i1 => rw [c1] at h; cases h; exact di_rng1 hg (g.mg (by decide +kernel)) (ok a i1 c1).1.1 (noStar hf c1 [] X.env) fun ρ => rfl
    · rename_i a b
      cases c1 : f a with
      | none => rw [c1] at h; cases h
      | some i1 =>
        rw [c1] at h
        cases c2 : f b with
        | none => rw [c2] at h; cases h
        | some i2 =>
          rw [c2] at h; cases h
          have s2 := noStar hf c2 [] X.env
          have s1 := noStar hf c1 [b] X.env
          exact di_rng2 hg (g.mg (by decide +kernel)) (ok a i1 c1).1.1 (ok b i2 c2).1.1 (by rw [s1, s2]; rfl) s2 fun ρ => rfl
    · cases h
  split at h
  · rename_i hx
    obtain ⟨hx, hg⟩ := Bool.and_eq_true_iff.mp hx
    have hx := of_decide_eq_true hx
    subst hx
    obtain ⟨_, hg⟩ := gl_of hg
    split at h
    · rename_i a
      split at h
      · rename_i ht
        cases tg <;> first | (cases ht; done) | skip
        cases c1 : f a with
        | none => rw [c1] at h; cases h
        | some i1 => rw [c1] at h; cases h; exact di_enum hg (g.mg (by decide +kernel)) (ok a i1 c1).1.1 (noStar hf c1 [] X.env) fun ρ => rfl
      · cases h
    · cases h
  split at h
  · rename_i hx
    obtain ⟨hx, hg⟩ := Bool.and_eq_true_iff.mp hx
    have hx := of_decide_eq_true hx
    subst hx
    obtain ⟨_, hg⟩ := gl_of hg
    split at h
    · rename_i a b
      split at h
      · rename_i ht
        cases tg <;> first | (cases ht; done) | skip
        cases c1 : f a with
        | none => rw [c1] at h; cases h
        | some i1 =>
          rw [c1] at h
          cases c2 : f b with
          | none => rw [c2] at h; cases h
          | some i2 =>
            rw [c2] at h; cases h
            have s2 := noStar hf c2 [] X.env
            exact di_zip hg (g.mg (by decide +kernel)) (ok a i1 c1).1.1 (ok b i2 c2).1.1 (noStar hf c1 [b] X.env) s2 (by rw [s2]; rfl) fun ρ => rfl
      · cases h
    · cases h
  · exact plain h
/-- what a served comprehension is -/
def LcP (X : Cx) (pn : List Nat) (elt tg iter : Expr) (ifs : List Expr) (scope : Scope) (f : Env1 → Option (R × Env1)) : Prop := ∃ (own : List (Str × Nat)) (vs : List Nat) (fi : Env1 → Option (List PyData × Env1)) (ft : PyData → Env1 → Option Env1) (fc fe : Env1 → Option (R × Env1)),
    DI X pn tg iter fi ∧ BlkOk X.N X.env.scope scope own ∧ own.map (·.2) = vs ∧
    (∀ (s : Shared) (H : Hp) (C : Addr) (cl : List (Str × Addr)) (fp : List Addr), DG (X.blk s H scope (compEnvC scope cl C X.env) fp) pn vs tg ft) ∧
    (∀ (s : Shared) (H : Hp) (C : Addr) (cl : List (Str × Addr)) (fp : List Addr), PTs (X.blk s H scope (compEnvC scope cl C X.env) fp) ifs (tDT X.K pn fc)) ∧
    (∀ (s : Shared) (H : Hp) (C : Addr) (cl : List (Str × Addr)) (fp : List Addr), DE (X.blk s H scope (compEnvC scope cl C X.env) fp) pn elt fe) ∧
    (∀ x, foldedSetIterable iter X.env x = pure x) ∧
    (∀ ρ, f ρ = (do
      let (xs, ρ1) ← fi ρ
      if (vs.all fun v => match ρ1[v]? with | some (some (.own _)) => false | _ => true) then do
        let (acc, ρ2) ← lcG vs ρ1 ft fc fe xs ρ1 []
        some (.frs acc, ρ2)
      else none))
theorem cE_lc {n : Nat} (ihn : ∀ (X : Cx) (e : Expr) (i : I), Gd G c.N k X → (c.gcd = true → X.mg "gcd" = some (.builtin "math.gcd")) → cE c n X.fn X.env.scope e = some i → Ok X pn G wf e i) {X : Cx} {elt tg iter : Expr} {ifs : List Expr} {scope : Scope} {i : I} (g : Gd G c.N k X) (hgcd : c.gcd = true → X.mg "gcd" = some (.builtin "math.gcd"))
    (h : (do
      let it ← cE.cI (cE c n X.fn X.env.scope) (isTup tg) X.env.scope iter
      let fb' := fun x => scope.names.lookup x == some .cell
      let (t, vs) ← cT c.N fb' (relS scope X.env.scope) 20 tg
      let own := vs.map fun i => (c.N.getD i (⟨#[]⟩ : Str), i)
      if blkC c.N X.env.scope scope own then do
        let k ← match ifs with | [] => some (.bl true) | [d] => cE c n fb' (relS scope X.env.scope) d | _ => none
        let x ← cE c n fb' (relS scope X.env.scope) elt
        some (.lc x t it k vs)
      else none) = some i) : LcP X pn elt tg iter ifs scope (sm G pn wf i).e ∧ varI i = none := by
  have ih : ∀ e i, cE c n X.fn X.env.scope e = some i → Ok X pn G wf e i := fun e i h => ihn X e i g hgcd h
  cases c1 : cE.cI (cE c n X.fn X.env.scope) (isTup tg) X.env.scope iter with
  | none => rw [c1] at h; cases h
  | some it =>
  rw [c1] at h
  simp only [Option.bind_eq_bind, Option.bind_some] at h
  cases c2 : cT c.N (fun x => scope.names.lookup x == some .cell) (relS scope X.env.scope) 20 tg with
  | none => rw [c2] at h; cases h
  | some w =>
  obtain ⟨t, vs⟩ := w
  rw [c2] at h
  simp only [Option.bind_some] at h
  split at h
  case isFalse => cases h
  case isTrue hb =>
  have okB : BlkOk X.N X.env.scope scope (vs.map fun i => (c.N.getD i (⟨#[]⟩ : Str), i)) := by rw [g.hN]; exact blkOk_by hb
  have gB : ∀ (s : Shared) (H : Hp) (C : Addr) (cl : List (Str × Addr)) (fp : List Addr), Gd G c.N k (X.blk s H scope (compEnvC scope cl C X.env) fp) := fun s H C cl fp => g.blk s H scope _ fp
  have ihB : ∀ (s : Shared) (H : Hp) (C : Addr) (cl : List (Str × Addr)) (fp : List Addr) (e : Expr) (i : I), cE c n (fun x => scope.names.lookup x == some .cell) (relS scope X.env.scope) e = some i → Ok (X.blk s H scope (compEnvC scope cl C X.env) fp) pn G wf e i :=
    fun s H C cl fp e i h => ihn (X.blk s H scope (compEnvC scope cl C X.env) fp) e i (gB s H C cl fp) hgcd h
  have tB : ∀ (s : Shared) (H : Hp) (C : Addr) (cl : List (Str × Addr)) (fp : List Addr), DG (X.blk s H scope (compEnvC scope cl C X.env) fp) pn vs tg (sm G pn wf t).t := fun s H C cl fp =>
    (cT_ok (X := X.blk s H scope (compEnvC scope cl C X.env) fp) (G := G) (wf := wf) (pn := pn) g.nd' g.calm 20 tg t vs (by rw [← g.hN] at c2; exact c2)).1
  have done : ∀ {kk x : I}, (∀ (s : Shared) (H : Hp) (C : Addr) (cl : List (Str × Addr)) (fp : List Addr), PTs (X.blk s H scope (compEnvC scope cl C X.env) fp) ifs (tDT X.K pn (sm G pn wf kk).e)) →
      cE c n (fun x => scope.names.lookup x == some .cell) (relS scope X.env.scope) elt = some x → LcP X pn elt tg iter ifs scope (sm G pn wf (.lc x t it kk vs)).e ∧ varI (.lc x t it kk vs) = none := fun {kk x} hk hx =>
    ⟨⟨_, _, (sm G pn wf it).i, (sm G pn wf t).t, (sm G pn wf kk).e, (sm G pn wf x).e, cI_ok g cE_star ih c1, okB, (by rw [List.map_map]; exact List.map_id' vs), tB, hk, (fun s H C cl fp => (ihB s H C cl fp elt x hx).1.1),
      (folded_ok X.env fun a b p z => by
        subst z
        unfold cE.cI at c1
        cases n <;> cases c1), fun ρ => rfl⟩, rfl⟩
  cases ifs with
  | nil =>
    simp only [Option.bind_some] at h
    cases c3 : cE c n (fun x => scope.names.lookup x == some .cell) (relS scope X.env.scope) elt with
    | none => rw [c3] at h; cases h
    | some x =>
    rw [c3] at h; cases h
    exact done (fun s H C cl fp => ⟨fun pins s σ H Q I z => by
      obtain ⟨B, Z, ρ, r, ρ', k, hp, rl, e, hk, q⟩ := z
      cases e; cases hk
      exact pts_nil.run pins s σ H Q I (q H Z rl (Same.refl _))⟩) c3
  | cons d r =>
    cases r with
    | cons _ _ => cases h
    | nil =>
      simp only at h
      cases c4 : cE c n (fun x => scope.names.lookup x == some .cell) (relS scope X.env.scope) d with
      | none => rw [c4] at h; cases h
      | some kk =>
      rw [c4] at h
      simp only [Option.bind_some] at h
      cases c3 : cE c n (fun x => scope.names.lookup x == some .cell) (relS scope X.env.scope) elt with
      | none => rw [c3] at h; cases h
      | some x =>
      rw [c3] at h; cases h
      exact done (fun s H C cl fp => pts_one (ihB s H C cl fp d kk c4).1.2) c3
/-- THE EXPRESSIONS -/
theorem kwV_ok {X : Cx} {f : Expr → Option I} (ok : ∀ e i, f e = some i → Ok X pn G wf e i) : ∀ (kws : List Keyword) (i : I), lsG f (kwV kws) = some i → PK X kws (tDA X.K pn [] (sm G pn wf i).a)
  | [], i, h => by
    cases h
    exact pk_imp pk_nil fun σ H Q ⟨B, Z, ρ, as, ρ', hp, rl, e, q⟩ => by
      cases e
      exact q [] H Z rl (Same.refl Z) True.intro
  | ⟨nm, e, p⟩ :: r, i, h => by
    unfold kwV lsG at h
    cases h1 : f e with
    | none => rw [h1] at h; cases h
    | some a =>
    rw [h1] at h
    cases h2 : lsG f (kwV r) with
    | none => rw [h2] at h; cases h
    | some b =>
    rw [h2] at h; cases h
    exact dk_cons (ok e a h1).1.1 (kwV_ok ok r b h2) fun ks ρ => rfl
theorem pmOf_mem {kw : List (Str × List Str × List Nat)} {f : Str} {ks : List Str} {pm : List Nat} (h : pmOf kw f ks = some pm) : (f, ks, pm) ∈ kw := by
  unfold pmOf at h
  cases q : kw.find? fun q => q.1 == f && q.2.1 == ks with
  | none => rw [q] at h; cases h
  | some w =>
    rw [q] at h; cases h
    have h1 := List.find?_some q
    have h2 := List.mem_of_find?_eq_some q
    obtain ⟨h3, h4⟩ := Bool.and_eq_true_iff.mp h1
    obtain ⟨a, b, d⟩ := w
    have e1 : a = f := by simpa using h3
    have e2 : b = ks := by simpa using h4
    subst e1 e2
    exact h2
theorem cE_ok (hkw : c.kw = G.kw) : ∀ (n : Nat) (X : Cx) (e : Expr) (i : I), Gd G c.N k X → (c.gcd = true → X.mg "gcd" = some (.builtin "math.gcd")) → cE c n X.fn X.env.scope e = some i → Ok X pn G wf e i
  | 0, _, _, _, _, _, h => by cases h
  | n + 1, X, e, i, g, hgcd, h => by
    have ih : ∀ e i, cE c n X.fn X.env.scope e = some i → Ok X pn G wf e i := fun e i h => cE_ok hkw n X e i g hgcd h
    have two : ∀ {a b : Expr} {F : I → I → I}, (do let x ← cE c n X.fn X.env.scope a; let y ← cE c n X.fn X.env.scope b; some (F x y)) = some i → ∃ x y, Ok X pn G wf a x ∧ Ok X pn G wf b y ∧ i = F x y := fun {a b F} h => by
      cases c1 : cE c n X.fn X.env.scope a with
      | none => rw [c1] at h; cases h
      | some x =>
      rw [c1] at h
      cases c2 : cE c n X.fn X.env.scope b with
      | none => rw [c2] at h; cases h
      | some y =>
      rw [c2] at h; cases h
      exact ⟨x, y, ih a x c1, ih b y c2, rfl⟩
    have three : ∀ {a b d : Expr} {F : I → I → I → I}, (do let x ← cE c n X.fn X.env.scope a; let y ← cE c n X.fn X.env.scope b; let z ← cE c n X.fn X.env.scope d; some (F x y z)) = some i → ∃ x y z, Ok X pn G wf a x ∧ Ok X pn G wf b y ∧ Ok X pn G wf d z ∧ i = F x y z := fun {a b d F} h => by
      cases c1 : cE c n X.fn X.env.scope a with
      | none => rw [c1] at h; cases h
      | some x =>
      rw [c1] at h
      cases c2 : cE c n X.fn X.env.scope b with
      | none => rw [c2] at h; cases h
      | some y =>
      rw [c2] at h
      cases c3 : cE c n X.fn X.env.scope d with
      | none => rw [c3] at h; cases h
      | some z =>
      rw [c3] at h; cases h
      exact ⟨x, y, z, ih a x c1, ih b y c2, ih d z c3, rfl⟩
    unfold cE at h
    split at h
    · cases h; exact .plain (de_c pe_int (fun Z => .int _) fun ρ => rfl) (fun _ => rfl) rfl
    · cases h; exact .plain (de_c pe_str (fun Z => .str _) fun ρ => rfl) (fun _ => rfl) rfl
    · cases h; exact .plain (de_c pe_bl (fun Z => .bl _) fun ρ => rfl) (fun _ => rfl) rfl
    · cases h; exact .plain (de_c pe_non (fun Z => .non) fun ρ => rfl) (fun _ => rfl) rfl
    · -- a name
      rename_i x p
      split at h
      · rename_i j hj
        split at h
        · rename_i hv
          cases h
          obtain ⟨h1, h2⟩ := vis_of hv
          obtain ⟨d1, d2⟩ := okN_debug h1
          have pv : PE X (.Name x p) (tVar j) := pe_var (by rw [g.hN]; exact ixN?_some hj) h2 d1 d2
          have de : DE X pn (.Name x p) (sm G pn wf (.var j)).e := de_var pv fun ρ => rfl
          exact ⟨⟨de, dt_plain de fun _ => rfl⟩, fun q z => by cases z; exact pv⟩
        · cases h
      · split at h
        · rename_i hv
          cases h
          obtain ⟨h1, _⟩ := Bool.and_eq_true_iff.mp hv
          obtain ⟨h2, h3⟩ := gl_of h1
          refine .plain (?_ : DE X pn (.Name x p) _) (fun _ => rfl) rfl
          cases c1 : G.cons x with
          | none =>
            refine ⟨fun pins s σ H Q I z => ?_⟩
            obtain ⟨B, Z, ρ, r, ρ', _, _, e, _⟩ := z
            have e : (G.cons x).map (fun d => (R.dat d, ρ)) = some (r, ρ') := e
            rw [c1] at e; cases e
          | some d =>
            obtain ⟨v, u, a1, a2, a3⟩ := g.cons x d c1
            exact de_c (pe_glob h3 a1 a2 (okN_debug h2).1) a3 fun ρ => by
              show (G.cons x).map (fun d => (R.dat d, ρ)) = _
              rw [c1]; rfl
        · cases h
    · obtain ⟨x, y, o1, o2, rfl⟩ := two h
      exact .plain (de_bin g o1.1.1 o2.1.1 fun ρ => rfl) (fun _ => rfl) rfl
    · -- not
      rename_i a p
      cases c1 : cE c n X.fn X.env.scope a with
      | none => rw [c1] at h; cases h
      | some x =>
      rw [c1] at h; cases h
      have o := ih a x c1
      refine ⟨⟨PE.imp (pe_notT o.1.1) fun σ H Q ⟨B, Z, ρ, r, ρ', hp, rl, e, q⟩ => ?_, dt_not o.1.2 fun ρ => rfl⟩, fun j z => by cases z⟩
      have e : ((sm G pn wf x).e ρ >>= fun p => truD p.1.d >>= fun kb => some (R.dat (.bool (!kb)), p.2)) = some (r, ρ') := e
      cases c2 : (sm G pn wf x).e ρ with
      | none => rw [c2] at e; cases e
      | some w =>
      obtain ⟨y, ρ1⟩ := w
      rw [c2] at e
      simp only [Option.bind_eq_bind, Option.bind_some] at e
      cases c3 : truD y.d with
      | none => rw [c3] at e; cases e
      | some kb =>
      rw [c3] at e; cases e
      exact tD_d hp rl c2 fun v H1 Z1 rl1 sm1 dv => ⟨kb, tru_D c3 rl1.zh dv, q _ H1 Z1 rl1 sm1 (.bl _)⟩
    · -- -a
      rename_i a p
      cases c1 : cE c n X.fn X.env.scope a with
      | none => rw [c1] at h; cases h
      | some x =>
      rw [c1] at h; cases h
      exact .plain (de_neg (ih a x c1).1.1 fun ρ => rfl) (fun _ => rfl) rfl
    · -- and, or
      rename_i op vs p
      split at h
      · obtain ⟨i1, i2⟩ := boG_ok (pos := p) ih _ i h
        refine ⟨⟨i1, i2.pt⟩, fun j z => ?_⟩
        exfalso
        rename_i a b r
        unfold boG at h
        cases c1 : cE c n X.fn X.env.scope a with
        | none => rw [c1] at h; cases h
        | some x =>
        rw [c1] at h
        cases c2 : boG op (cE c n X.fn X.env.scope) (b :: r) with
        | none => rw [c2] at h; cases h
        | some y =>
        rw [c2] at h
        cases op <;> (cases h; cases z)
      · cases h
    · obtain ⟨x, y, z, o1, o2, o3, rfl⟩ := three h
      exact ⟨de_ite o1.1.2 o2.1 o3.1 fun ρ => rfl, fun j z => by cases z⟩
    · -- one comparison
      split at h
      · cases h
      · rename_i hm
        obtain ⟨x, y, o1, o2, rfl⟩ := two h
        exact ⟨de_cmp g o1.1.1 o2.1.1 (by simpa using hm) fun ρ => rfl, fun j z => by cases z⟩
    · split at h
      · cases h
      · rename_i hm
        obtain ⟨x, y, z, o1, o2, o3, rfl⟩ := three h
        exact ⟨de_cmp2 g o1.1.1 o2.1.1 o3.1.1 (by simpa using hm) fun ρ => rfl, fun j z => by cases z⟩
    · rename_i es kk p
      cases c1 : lsG (cE c n X.fn X.env.scope) es with
      | none => rw [c1] at h; cases h
      | some x =>
      rw [c1] at h; cases h
      exact .plain (de_tup (lsG_ok cE_star ih es x c1) fun ρ => rfl) (fun _ => rfl) rfl
    · rename_i es p
      cases c1 : lsG (cE c n X.fn X.env.scope) es with
      | none => rw [c1] at h; cases h
      | some x =>
      rw [c1] at h; cases h
      exact .plain (de_lst (lsG_ok cE_star ih es x c1) fun ρ => rfl) (fun _ => rfl) rfl
    · -- a call
      rename_i f p a as pos
      split at h
      case isFalse => cases h
      case isTrue hg =>
      obtain ⟨h1, h2⟩ := gl_of hg
      have hd := (okN_debug h1).1
      have star : ∀ {j : I}, lsG (cE c n X.fn X.env.scope) (a :: as) = some j → starEach (a :: as) X.env = (false, eval a X.env) :: starEach as X.env ∧ (backTo pos (starEach as X.env)).any (·.1) = false := fun {j} hj => by
        unfold lsG at hj
        cases c1 : cE c n X.fn X.env.scope a with
        | none => rw [c1] at hj; cases hj
        | some x =>
        rw [c1] at hj
        cases c2 : lsG (cE c n X.fn X.env.scope) as with
        | none => rw [c2] at hj; cases hj
        | some y => exact ⟨noStar cE_star c1 as X.env, noStars cE_star pos X.env as y c2⟩
      split at h
      · split at h
        · cases c1 : lsG (cE c n X.fn X.env.scope) (a :: as) with
          | none => rw [c1] at h; cases h
          | some x =>
          rw [c1] at h; cases h
          obtain ⟨s1, s2⟩ := star c1
          refine .plain (?_ : DE X pn _ _) (fun _ => rfl) rfl
          cases c2 : G.fns f with
          | none =>
            refine ⟨fun pins s σ H Q I z => ?_⟩
            obtain ⟨B, Z, ρ, r, ρ', _, _, e, _⟩ := z
            simp only [sm] at e
            rw [c2] at e; cases e
          | some gf =>
            refine de_call g c2 (lsG_ok cE_star ih _ x c1) h2 hd s1 s2 fun ρ => ?_
            simp only [sm, c2]
            rfl
        · cases h
      · split at h
        · rename_i hx
          split at h
          · rename_i t p2
            split at h
            · rename_i ht
              cases c1 : cE c n X.fn X.env.scope a with
              | none => rw [c1] at h; cases h
              | some x =>
              rw [c1] at h; cases h
              exact .plain (de_isi g hx h2 (ih a x c1).1.1 (tyN_ok g ht) (noStar cE_star c1 _ X.env) fun ρ => rfl) (fun _ => rfl) rfl
            · cases h
          · cases h
        · split at h
          · rename_i hb
            obtain ⟨hb1, hb2⟩ := Bool.and_eq_true_iff.mp hb
            cases c1 : lsG (cE c n X.fn X.env.scope) (a :: as) with
            | none => rw [c1] at h; cases h
            | some x =>
            rw [c1] at h; cases h
            obtain ⟨s1, s2⟩ := star c1
            cases c2 : bltV f with
            | none => rw [c2] at hb1; cases hb1
            | some u =>
            have da := lsG_ok (pn := pn) (G := G) (wf := wf) cE_star ih _ x c1
            exact .plain (de_blt g c2 (blt_pe g hgcd c2 hb2 h2 (da []) s1 s2) da fun ρ => rfl) (fun _ => rfl) rfl
          · cases h
    · -- a call by keywords alone
      rename_i f p q qs p2
      split at h
      case isFalse => cases h
      rename_i hg
      obtain ⟨h1, h2⟩ := gl_of hg
      have hd := (okN_debug h1).1
      cases c1 : kwN (q :: qs) with
      | none => rw [c1] at h; cases h
      | some ks =>
      rw [c1] at h
      simp only [Option.bind_eq_bind, Option.bind_some] at h
      cases c2 : pmOf c.kw f ks with
      | none => rw [c2] at h; cases h
      | some pm =>
      rw [c2] at h
      simp only [Option.bind_some] at h
      split at h
      · cases h
      · rename_i hpm
        cases c3 : lsG (cE c n X.fn X.env.scope) (kwV (q :: qs)) with
        | none => rw [c3] at h; cases h
        | some x =>
        rw [c3] at h; cases h
        have hne : pm ≠ [] := fun z => hpm (by rw [z]; rfl)
        refine .plain (?_ : DE X pn _ _) (fun _ => rfl) rfl
        cases c4 : G.fns f with
        | none =>
          refine ⟨fun pins s σ H Q I z => ?_⟩
          obtain ⟨B, Z, ρ, r, ρ', _, _, e, _⟩ := z
          simp only [sm] at e
          rw [c4] at e; cases e
        | some gf =>
          refine de_callK g c4 (kwV_ok ih _ x c3) h2 hd c1 (by rw [← hkw]; exact pmOf_mem c2) fun ρ => ?_
          simp only [sm, c4, if_neg hne]
          rfl
    · -- [::-1]
      rename_i a _ _ _ _ _
      cases c1 : cE c n X.fn X.env.scope a with
      | none => rw [c1] at h; cases h
      | some x =>
      rw [c1] at h; cases h
      exact .plain (de_rev (ih a x c1).1.1 fun ρ => rfl) (fun _ => rfl) rfl
    · -- a slice
      rename_i a lo hi _ _
      cases c1 : cE c n X.fn X.env.scope a with
      | none => rw [c1] at h; cases h
      | some x =>
      rw [c1] at h
      cases c2 : optG (cE c n X.fn X.env.scope) lo with
      | none => rw [c2] at h; cases h
      | some y =>
      rw [c2] at h
      cases c3 : optG (cE c n X.fn X.env.scope) hi with
      | none => rw [c3] at h; cases h
      | some z =>
      rw [c3] at h; cases h
      have part : ∀ {o : Option Expr} {j : I}, optG (cE c n X.fn X.env.scope) o = some j → PO X o (tDO X.K pn (if isAbs j then none else some (sm G pn wf j).e)) := fun {o j} h => by
        cases o with
        | none => cases h; exact do_none
        | some e =>
          have h : (do let i ← cE c n X.fn X.env.scope e; if isAbs i then none else some i) = some j := h
          cases c4 : cE c n X.fn X.env.scope e with
          | none => rw [c4] at h; cases h
          | some j' =>
          rw [c4] at h
          simp only [Option.bind_eq_bind, Option.bind_some] at h
          split at h
          · cases h
          · rename_i ha
            cases h
            rw [if_neg ha]; exact do_some (ih e _ c4).1.1
      have o := ih a x c1
      exact .plain (de_slc g o.1.1 o.2 (part c2) (part c3) fun ρ => rfl) (fun _ => rfl) rfl
    · -- a[b]
      rename_i a b p _ _
      split at h
      · cases h
      · rename_i hs
        obtain ⟨x, y, o1, o2, rfl⟩ := two h
        refine .plain (de_idx g o1.1.1 o1.2 o2.1.1 ?_ fun ρ => rfl) (fun _ => rfl) rfl
        intro o i
        cases b <;> first | rfl | exact absurd rfl hs
    · -- a comprehension
      obtain ⟨⟨own, vs, fi, ft, fc, fe, h1, h2, h3, h4, h5, h6, h7, h8⟩, hv⟩ := cE_lc (wf := wf) (fun X e i g hg hh => cE_ok hkw n X e i g hg hh) g hgcd h
      exact .plain (de_lc g.calm g.nd' h1 h2 h3 h4 h5 h6 h7 h8) (fun _ => rfl) hv
    · cases h
theorem cE_lcs (hkw : c.kw = G.kw) {n : Nat} {X : Cx} {elt : Expr} {gs : List Comprehension} {scope : Scope} {p : Pos} {i : I} (g : Gd G c.N k X) (hgcd : c.gcd = true → X.mg "gcd" = some (.builtin "math.gcd"))
    (h : cE c n X.fn X.env.scope (.ListComp elt gs scope p) = some i) : ∃ tg iter ifs, gs = [⟨tg, iter, ifs, 0⟩] ∧ LcP X pn elt tg iter ifs scope (sm G pn wf i).e := by
  cases n with
  | zero => cases h
  | succ n =>
  match gs, h with
  | [], h => cases h
  | ⟨_, _, _, .ofNat 0⟩ :: _ :: _, h => cases h
  | ⟨_, _, _, .ofNat (_ + 1)⟩ :: _ :: _, h => cases h
  | ⟨_, _, _, .negSucc _⟩ :: _ :: _, h => cases h
  | [⟨tg, iter, ifs, .ofNat 0⟩], h => exact ⟨tg, iter, ifs, rfl, (cE_lc (fun X e i g hg hh => cE_ok hkw n X e i g hg hh) g hgcd h).1⟩
  | [⟨tg, iter, ifs, .ofNat (m + 1)⟩], h => cases h
  | [⟨tg, iter, ifs, .negSucc m⟩], h => cases h
end
end Dx

namespace Dx
open PySem PySem.Spec PyProof.Rows L2
/-! ## Statements -/
abbrev MS := Env1 → Option Out
section
variable {X : Cx} {pn : List Nat} {G : Gx} {N : List Str} {k : Nat} {fe fa fb fc : ME} {f f1 f2 : MS} {e a b c : Expr} {pos : Pos}
theorem OutP.up {K : PySem.W.Frag} {B : Bs} {Z Z' : Hp} {D : Ends} {o : Out} (h : OutP K B Z D o) (e : Same Z Z') : OutP K B Z' D o := by
  cases o with
  | nx ρ => exact fun σ' H' Z2 r s => h σ' H' Z2 r (e.trans s)
  | rt r ρ => exact fun v σ' H' Z2 r s => h v σ' H' Z2 r (e.trans s)
  | bk ρ => exact fun σ' H' Z2 r s => h σ' H' Z2 r (e.trans s)
  | ct ρ => exact fun σ' H' Z2 r s => h σ' H' Z2 r (e.trans s)
theorem dss_nil (hf : ∀ ρ, f ρ = some (.nx ρ)) : DSs X pn [] f := PSs.imp pss_nil fun D σ H ⟨B, Z, ρ, o, hp, rl, e, q⟩ => by
  rw [hf] at e; cases e
  exact q σ H Z rl (Same.refl Z)
theorem dss_cons {s : Stmt} {ss : List Stmt} (h1 : DS X pn s f1) (h2 : DSs X pn ss f2) (hf : ∀ ρ, f ρ = (do
      match ← f1 ρ with
      | .nx ρ1 => f2 ρ1
      | o => some o)) : DSs X pn (s :: ss) f := PSs.imp (pss_cons h1 h2) fun D σ H ⟨B, Z, ρ, o, hp, rl, e, q⟩ => by
  rw [hf] at e
  cases c1 : f1 ρ with
  | none => rw [c1] at e; cases e
  | some o1 =>
  rw [c1] at e
  simp only [Option.bind_eq_bind, Option.bind_some] at e
  refine ⟨B, Z, ρ, o1, hp, rl, c1, ?_⟩
  cases o1 with
  | nx ρ1 => exact fun σ' H' Z' rl' sm' => ⟨B, Z', ρ1, o, hp, rl', e, q.up sm'⟩
  | rt r ρ1 => cases e; exact q
  | bk ρ1 => cases e; exact q
  | ct ρ1 => cases e; exact q
theorem ds_pass (hf : ∀ ρ, f ρ = some (.nx ρ)) : DS X pn (.Pass pos) f := PS.imp ps_pass fun D σ H ⟨B, Z, ρ, o, hp, rl, e, q⟩ => by
  rw [hf] at e; cases e
  exact q σ H Z rl (Same.refl Z)
theorem ds_never {s : Stmt} (hf : ∀ ρ, f ρ = none) : DS X pn s f := ⟨fun pins s σ H D I ⟨B, Z, ρ, o, hp, rl, e, q⟩ => by rw [hf] at e; cases e⟩
theorem ds_ret (he : DE X pn e fe) (hf : ∀ ρ, f ρ = (do
      let (x, ρ1) ← fe ρ
      some (.rt x ρ1))) : DS X pn (.Return (some e) pos) f := PS.imp (ps_ret he) fun D σ H ⟨B, Z, ρ, o, hp, rl, e, q⟩ => by
  rw [hf] at e
  cases c1 : fe ρ with
  | none => rw [c1] at e; cases e
  | some w =>
  obtain ⟨x, ρ1⟩ := w
  rw [c1] at e; cases e
  exact tD_r hp rl c1 fun v H1 Z1 rl1 sm1 rr => q v σ H1 Z1 rl1 sm1 rr
theorem ds_retN (hf : ∀ ρ, f ρ = some (.rt (.dat .none) ρ)) : DS X pn (.Return none pos) f := PS.imp ps_retN fun D σ H ⟨B, Z, ρ, o, hp, rl, e, q⟩ => by
  rw [hf] at e; cases e
  exact q .non σ H Z rl (Same.refl Z) .non
theorem ds_retv {i : Nat} {x : Str} {p : Pos} (hv : PE X (.Name x p) (tVar i)) (hf : ∀ ρ, f ρ = match ρ[i]? with
      | some (some (.dat d)) => some (.rt (.dat d) ρ)
      | some (some (.own ds)) => if pn.contains i then none else some (.rt (.frs ds) (ρ.set i none))
      | _ => none) : DS X pn (.Return (some (.Name x p)) pos) f := PS.imp (ps_ret hv) fun D σ H ⟨B, Z, ρ, o, hp, rl, e, q⟩ => by
  rw [hf] at e
  split at e
  · rename_i d hd
    cases e
    obtain ⟨v, h1, h2⟩ := rl.dat i d hd
    exact ⟨v, h1, q v σ H Z rl (Same.refl Z) h2⟩
  · rename_i ds hd
    split at e
    · cases e
    · rename_i hn
      cases e
      obtain ⟨v, h1, r2, rr⟩ := rl.give0 hd (by rw [hp]; simpa using hn)
      exact ⟨v, h1, q v σ H Z r2 (Same.refl Z) rr⟩
  · cases e
theorem ds_exp (he : DE X pn e fe) (hs : swapsWith e none pos.line X.env = pure false) (hf : ∀ ρ, f ρ = (do
      let (_, ρ1) ← fe ρ
      some (.nx ρ1))) : DS X pn (.Expr e pos) f := PS.imp (ps_expr he hs) fun D σ H ⟨B, Z, ρ, o, hp, rl, e, q⟩ => by
  rw [hf] at e
  cases c1 : fe ρ with
  | none => rw [c1] at e; cases e
  | some w =>
  obtain ⟨x, ρ1⟩ := w
  rw [c1] at e; cases e
  exact tD_r hp rl c1 fun v H1 Z1 rl1 sm1 rr => q σ H1 Z1 rl1 sm1
theorem ds_doc {x : Str} {j : Nat} {p : Pos} (hf : ∀ ρ, f ρ = some (.nx ρ)) : DS X pn (.Expr (.Constant (.str x) j p) pos) f := PS.imp ps_doc fun D σ H ⟨B, Z, ρ, o, hp, rl, e, q⟩ => by
  rw [hf] at e; cases e
  exact q σ H Z rl (Same.refl Z)
theorem ds_set {i : Nat} {s : Stmt} (hA : PS X s (tAsg (tD X.K pn fe) (gName i))) (hf : ∀ ρ, f ρ = (do
      let (x, ρ1) ← fe ρ
      let ρ2 ← setS pn ρ1 i (.dat x.d)
      some (.nx ρ2))) : DS X pn s f := PS.imp hA fun D σ H ⟨B, Z, ρ, o, hp, rl, e, q⟩ => by
  rw [hf] at e
  cases c1 : fe ρ with
  | none => rw [c1] at e; cases e
  | some w =>
  obtain ⟨x, ρ1⟩ := w
  rw [c1] at e
  simp only [Option.bind_eq_bind, Option.bind_some] at e
  cases c2 : setS pn ρ1 i (.dat x.d) with
  | none => rw [c2] at e; cases e
  | some ρ2 =>
  rw [c2] at e; cases e
  obtain ⟨h1, h2, rfl⟩ := setS_some c2
  exact tD_d hp rl c1 fun v H1 Z1 rl1 sm1 dv => q _ H1 Z1 (rl1.setDat h2 (by rw [hp]; exact h1) dv) sm1
theorem ds_own {i : Nat} {s : Stmt} (hA : PS X s (tAsg (tD X.K pn fe) (gName i))) (hf : ∀ ρ, f ρ = (do
      let (x, ρ1) ← fe ρ
      match x with
      | .frs ds => do let ρ2 ← setS pn ρ1 i (.own ds); some (.nx ρ2)
      | .dat _ => none)) : DS X pn s f := PS.imp hA fun D σ H ⟨B, Z, ρ, o, hp, rl, e, q⟩ => by
  rw [hf] at e
  cases c1 : fe ρ with
  | none => rw [c1] at e; cases e
  | some w =>
  obtain ⟨x, ρ1⟩ := w
  rw [c1] at e
  simp only [Option.bind_eq_bind, Option.bind_some] at e
  cases x with
  | dat d => cases e
  | frs ds =>
  simp only at e
  cases c2 : setS pn ρ1 i (.own ds) with
  | none => rw [c2] at e; cases e
  | some ρ2 =>
  rw [c2] at e; cases e
  obtain ⟨h1, h2, rfl⟩ := setS_some c2
  exact tD_r hp rl c1 fun v H1 Z1 rl1 sm1 rr => q _ H1 Z1 (rl1.setOwn h2 (by rw [hp]; exact h1) rr) sm1
theorem ds_tg {tg : Expr} {S : List Nat} {ft : PyData → Env1 → Option Env1} (he : DE X pn e fe) (hg : DG X pn S tg ft) (hs : swapsWithSole [tg] e pos.line X.env = pure false) (hw : swappedStores [tg] e X.env = pure none)
    (h1 : (assignEach [tg] X.env).map (·.2) = [assign tg X.env]) (hf : ∀ ρ, f ρ = (do
      let (x, ρ1) ← fe ρ
      let ρ2 ← ft x.d ρ1
      some (.nx ρ2))) : DS X pn (.Assign [tg] e pos) f := PS.imp (ps_asg he hg hs hw h1) fun D σ H ⟨B, Z, ρ, o, hp, rl, e, q⟩ => by
  rw [hf] at e
  cases c1 : fe ρ with
  | none => rw [c1] at e; cases e
  | some w =>
  obtain ⟨x, ρ1⟩ := w
  rw [c1] at e
  simp only [Option.bind_eq_bind, Option.bind_some] at e
  cases c2 : ft x.d ρ1 with
  | none => rw [c2] at e; cases e
  | some ρ2 =>
  rw [c2] at e; cases e
  exact tD_d hp rl c1 fun v H1 Z1 rl1 sm1 dv => ⟨B, Z1, ρ1, x.d, ρ2, hp, rl1, dv, c2, fun σ' H' Z' rl' sm' _ _ => q σ' H' Z' rl' (sm1.trans sm')⟩
theorem ds_if {as bs : List Stmt} (hc : DT X pn c fc) (ha : DSs X pn as f1) (hb : DSs X pn bs f2) (hf : ∀ ρ, f ρ = (do
      let (x, ρ1) ← fc ρ
      match ← truD x.d with
      | true => f1 ρ1
      | false => f2 ρ1)) : DS X pn (.If c as bs pos) f := PS.imp (ps_if hc ha hb) fun D σ H ⟨B, Z, ρ, o, hp, rl, e, q⟩ => by
  rw [hf] at e
  cases c1 : fc ρ with
  | none => rw [c1] at e; cases e
  | some w =>
  obtain ⟨x, ρ1⟩ := w
  rw [c1] at e
  simp only [Option.bind_eq_bind, Option.bind_some] at e
  cases c2 : truD x.d with
  | none => rw [c2] at e; cases e
  | some kb =>
  rw [c2] at e
  refine tDT_k hp rl c1 c2 fun H1 Z1 rl1 sm1 => ?_
  cases kb with
  | true => rw [if_pos rfl]; exact ⟨B, Z1, ρ1, o, hp, rl1, e, q.up sm1⟩
  | false => rw [if_neg Bool.false_ne_true]; exact ⟨B, Z1, ρ1, o, hp, rl1, e, q.up sm1⟩
theorem ds_for {tg it : Expr} {body : List Stmt} {S : List Nat} {fi : Env1 → Option (List PyData × Env1)} {ft : PyData → Env1 → Option Env1} (hp' : PassesOwn (model X.prog X.w) X.A X.env X.xe) (hc : X.calm = true) (hi : DI X pn tg it fi) (hg : DG X pn S tg ft) (hb : DSs X pn body f1)
    (hs : ∀ x, foldedSetIterable it X.env x = pure x) (hf : ∀ ρ, f ρ = (do
      let (xs, ρ1) ← fi ρ
      forG ft f1 xs ρ1)) : DS X pn (.For tg it body [] pos) f := PS.imp (ps_for hp' hc hi hg hb hs) fun D σ H ⟨B, Z, ρ, o, hp, rl, e, q⟩ => by
  rw [hf] at e
  cases c1 : fi ρ with
  | none => rw [c1] at e; cases e
  | some w =>
  obtain ⟨xs, ρ1⟩ := w
  rw [c1] at e
  simp only [Option.bind_eq_bind, Option.bind_some] at e
  refine ⟨B, Z, ρ, xs, ρ1, hp, rl, c1, fun J H1 Z1 rl1 sm1 it => ?_⟩
  refine ⟨fun i m σ H => m = xs.length - i ∧ i ≤ xs.length ∧ ∃ (Z' : Hp) (ρ' : Env1), Rl X.K B Z' H σ ρ' ∧ Same Z1 Z' ∧ forG ft f1 (xs.drop i) ρ' = some o, ⟨xs.length, by simp, Nat.zero_le _, Z1, ρ1, rl1, Same.refl _, by simpa using e⟩, ?_⟩
  rintro i m σ2 H2 ⟨rfl, hle, Z2, ρ2, r2, sm2, c3⟩
  have zh2 : Same Z1 H2 := sm2.trans r2.zh
  by_cases hlt : i < xs.length
  · right
    have hx := List.getElem?_eq_getElem hlt
    generalize xs[i] = d at hx
    have hdrop : xs.drop i = d :: xs.drop (i + 1) := by
      rw [List.drop_eq_getElem_cons hlt]
      have : xs[i] = d := by rw [List.getElem?_eq_getElem hlt] at hx; exact Option.some.inj hx
      rw [this]
    rw [hdrop] at c3
    simp only [forG, Option.bind_eq_bind] at c3
    refine ⟨it.go i H2 zh2 hlt, fun σ' H' => ∃ (Z' : Hp) (ρ' : Env1), Rl X.K B Z' H' σ' ρ' ∧ Same Z1 Z' ∧ forG ft f1 (xs.drop (i + 1)) ρ' = some o, fun σ' H' hN => ⟨xs.length - (i + 1), by omega, rfl, hlt, hN⟩, fun x H3 hy => ?_⟩
    have item : ∃ Z3, Rl X.K B Z3 H3 σ2 ρ2 ∧ Same Z2 Z3 ∧ Dv X.K Z3 x d := by
      rcases it.yld i d H2 x H3 zh2 hx hy with ⟨rfl, hv3⟩ | ⟨T, ts, es, hT, rfl, rfl, rfl, hd3⟩
      · exact ⟨Z2, r2, Same.refl _, hv3.up sm2⟩
      · obtain ⟨g1, g2, g3⟩ := r2.newT hT (hd3.up sm2)
        exact ⟨_, g1, g2, g3⟩
    obtain ⟨Z3, r3, sm3, dx⟩ := item
    cases c4 : ft d ρ2 with
    | none => rw [c4] at c3; cases c3
    | some ρ4 =>
    rw [c4] at c3
    simp only [Option.bind_some] at c3
    refine ⟨B, Z3, ρ2, d, ρ4, hp, r3, dx, c4, fun σ4 H4 Z4 r4 sm4 _ _ => ?_⟩
    cases c5 : f1 ρ4 with
    | none => rw [c5] at c3; cases c3
    | some o1 =>
    rw [c5] at c3
    simp only [Option.bind_some] at c3
    have sm14 : Same Z1 Z4 := ((sm2.trans sm3).trans sm4)
    refine ⟨B, Z4, ρ4, o1, hp, r4, c5, ?_⟩
    cases o1 with
    | nx ρ5 => exact fun σ5 H5 Z5 r5 sm5 => ⟨Z5, ρ5, r5, sm14.trans sm5, c3⟩
    | ct ρ5 => exact fun σ5 H5 Z5 r5 sm5 => ⟨Z5, ρ5, r5, sm14.trans sm5, c3⟩
    | bk ρ5 => cases c3; exact fun σ5 H5 Z5 r5 sm5 => q σ5 H5 Z5 r5 ((sm1.trans sm14).trans sm5)
    | rt r ρ5 => cases c3; exact fun v σ5 H5 Z5 r5 sm5 => q v σ5 H5 Z5 r5 ((sm1.trans sm14).trans sm5)
  · left
    have ei : i = xs.length := by omega
    subst ei
    rw [List.drop_length] at c3
    cases c3
    exact ⟨it.stop H2 zh2, q σ2 H2 Z2 r2 (sm1.trans sm2)⟩
theorem ds_while {body : List Stmt} {wf : Nat} (hp' : PassesOwn (model X.prog X.w) X.A X.env X.xe) (hc : DT X pn c fc) (hb : DSs X pn body f1) (hf : ∀ ρ, f ρ = whileG fc f1 wf ρ) : DS X pn (.While c body [] pos) f := PS.imp (ps_while hp' hc hb) fun D σ H ⟨B, Z, ρ, o, hp, rl, e, q⟩ => by
  rw [hf] at e
  refine ⟨fun m σ H => ∃ (Z' : Hp) (ρ' : Env1), Rl X.K B Z' H σ ρ' ∧ Same Z Z' ∧ whileG fc f1 m ρ' = some o, ⟨wf, Z, ρ, rl, Same.refl Z, e⟩, ?_⟩
  rintro m σ2 H2 ⟨Z2, ρ2, r2, sm2, c3⟩
  cases m with
  | zero => cases c3
  | succ m =>
  unfold whileG at c3
  cases c4 : fc ρ2 with
  | none => rw [c4] at c3; cases c3
  | some w =>
  obtain ⟨x, ρ3⟩ := w
  rw [c4] at c3
  simp only [Option.bind_eq_bind, Option.bind_some] at c3
  cases c5 : truD x.d with
  | none => rw [c5] at c3; cases c3
  | some kb =>
  rw [c5] at c3
  refine tDT_k hp r2 c4 c5 fun H3 Z3 r3 sm3 => ?_
  cases kb with
  | false => 
    cases c3
    rw [if_neg Bool.false_ne_true]; exact q σ2 H3 Z3 r3 (sm2.trans sm3)
  | true =>
    rw [if_pos rfl]
    simp only [Option.bind_some] at c3
    cases c6 : f1 ρ3 with
    | none => rw [c6] at c3; cases c3
    | some o1 =>
    rw [c6] at c3
    simp only [Option.bind_some] at c3
    refine ⟨fun σ' H' => ∃ (Z' : Hp) (ρ' : Env1), Rl X.K B Z' H' σ' ρ' ∧ Same Z Z' ∧ whileG fc f1 m ρ' = some o, fun σ' H' hN => ⟨m, Nat.lt_succ_self m, hN⟩, B, Z3, ρ3, o1, hp, r3, c6, ?_⟩
    have sm4 := sm2.trans sm3
    cases o1 with
    | nx ρ5 => exact fun σ5 H5 Z5 r5 sm5 => ⟨Z5, ρ5, r5, sm4.trans sm5, c3⟩
    | ct ρ5 => exact fun σ5 H5 Z5 r5 sm5 => ⟨Z5, ρ5, r5, sm4.trans sm5, c3⟩
    | bk ρ5 => cases c3; exact fun σ5 H5 Z5 r5 sm5 => q σ5 H5 Z5 r5 (sm4.trans sm5)
    | rt r ρ5 => cases c3; exact fun v σ5 H5 Z5 r5 sm5 => q v σ5 H5 Z5 r5 (sm4.trans sm5)
end
end Dx

namespace Dx
open PySem PySem.Spec PyProof.Rows L2
/-! ## Several stores in one statement, stores into lists, methods of lists -/
def setAll : L2.St → List (Nat × Bool) → List V → L2.St
  | σ, i :: is, v :: vs => setAll (σ.set i.1 (some v)) is vs
  | σ, _, _ => σ
section
variable {K : PySem.W.Frag} {B : Bs} {Z H : Hp} {pn : List Nat}
theorem ArR.other {σ σ' : L2.St} {ρ ρ' : Env1} : ∀ {as : List Ar} {vs : List V} {B' : Bs}, refs as = [] → ArR K Z H σ ρ B' vs as →
    (∀ (j : Nat) (es : List PyData) (p : Addr), ρ'[j]? = some (some (.own es)) → σ'[j]? = some (some (.ref p)) → (∃ es', ρ[j]? = some (some (.own es')) ∧ σ[j]? = some (some (.ref p))) ∨ ∃ q ∈ B'.pend, q.1 = p) → ArR K Z H σ' ρ' B' vs as
  | [], [], _, _, h, _ => h
  | [], _ :: _, _, _, h, _ => h.elim
  | .dat _ :: _, [], _, _, h, _ => h.elim
  | .frs _ :: _, [], _, _, h, _ => h.elim
  | .ref _ :: _, _, _, e, _, _ => by cases e
  | .dat d :: as, v :: vs, B', e, h, a => ⟨h.1, ArR.other (as := as) e h.2 a⟩
  | .frs ds :: as, v :: vs, B', e, h, a => by
    obtain ⟨p, xs, h1, h2, h3, h4, h5, h6, h7, h8⟩ := h
    refine ⟨p, xs, h1, h2, h3, h4, h5, h6, fun i es g1 g2 => ?_, ArR.other (as := as) e h8 fun j es q g1 g2 => ?_⟩
    · rcases a i es p g1 g2 with ⟨es', g3, g4⟩ | ⟨q, g3, g4⟩
      · exact h7 i es' g3 g4
      · exact h5 q g3 g4
    · rcases a j es q g1 g2 with g3 | ⟨w, g3, g4⟩
      · exact .inl g3
      · exact .inr ⟨w, List.mem_cons_of_mem _ g3, g4⟩
theorem parG_refs : ∀ {is : List (Nat × Bool)} {as : List Ar} {ρ ρ' : Env1}, parG pn is as ρ = some ρ' → refs as = []
  | [], [], _, _, _ => rfl
  | [], _ :: _, _, _, e => by simp [parG] at e
  | (i, false) :: is, [], _, _, e => by simp [parG] at e
  | (i, true) :: is, [], _, _, e => by simp [parG] at e
  | (i, false) :: is, .dat d :: as, ρ, ρ', e => by
    simp only [parG, Option.bind_eq_bind] at e
    cases c : setS pn ρ i (.dat d) with
    | none => rw [c] at e; cases e
    | some ρ1 => rw [c] at e; exact parG_refs (as := as) e
  | (i, true) :: is, .frs d :: as, ρ, ρ', e => by
    simp only [parG, Option.bind_eq_bind] at e
    cases c : setS pn ρ i (.own d) with
    | none => rw [c] at e; cases e
    | some ρ1 => rw [c] at e; exact parG_refs (as := as) e
  | (i, false) :: is, .frs d :: as, _, _, e => by simp [parG] at e
  | (i, true) :: is, .dat d :: as, _, _, e => by simp [parG] at e
  | (i, false) :: is, .ref d :: as, _, _, e => by simp [parG] at e
  | (i, true) :: is, .ref d :: as, _, _, e => by simp [parG] at e
theorem par_ok (hp : pnOf B = pn) : ∀ {is : List (Nat × Bool)} {as : List Ar} {vs : List V} {B' : Bs} {σ : L2.St} {ρ ρ' : Env1}, Rl K B Z H σ ρ → B'.H = B.H → (∀ q ∈ B.pend, q ∈ B'.pend) → ArR K Z H σ ρ B' vs as → parG pn is as ρ = some ρ' →
    Rl K B Z H (setAll σ is vs) ρ'
  | [], [], [], _, σ, _, _, rl, _, _, _, e => by cases e; exact rl
  | [], [], _ :: _, _, σ, _, _, rl, _, _, h, e => h.elim
  | [], _ :: _, _, _, _, _, _, _, _, _, _, e => by simp [parG] at e
  | (i, false) :: is, [], _, _, _, _, _, _, _, _, _, e => by simp [parG] at e
  | (i, true) :: is, [], _, _, _, _, _, _, _, _, _, e => by simp [parG] at e
  | (i, b) :: is, .dat d :: as, [], _, _, _, _, _, _, _, h, _ => h.elim
  | (i, b) :: is, .frs d :: as, [], _, _, _, _, _, _, _, h, _ => h.elim
  | (i, b) :: is, .ref d :: as, [], _, _, _, _, _, _, _, h, _ => h.elim
  | (i, false) :: is, .dat d :: as, v :: vs, B', σ, ρ, ρ', rl, hH, hq, h, e => by
    simp only [parG, Option.bind_eq_bind] at e
    cases c : setS pn ρ i (.dat d) with
    | none => rw [c] at e; cases e
    | some ρ1 =>
      rw [c] at e
      have e : parG pn is as ρ1 = some ρ' := e
      obtain ⟨c1, c2, rfl⟩ := setS_some c
      obtain ⟨h1, h2⟩ := h
      show Rl K B Z H (setAll (σ.set i (some v)) is vs) ρ'
      refine par_ok hp (vs := vs) (rl.setDat c2 (by rw [hp]; exact c1) h1) hH hq (ArR.other (parG_refs e) h2 fun j es p g1 g2 => .inl ?_) e
      rcases set_get g1 with ⟨_, z, _⟩ | ⟨ne, g1⟩
      · cases z
      · rw [List.getElem?_set_ne (Ne.symm ne)] at g2
        exact ⟨es, g1, g2⟩
  | (i, true) :: is, .frs ds :: as, v :: vs, B', σ, ρ, ρ', rl, hH, hq, h, e => by
    simp only [parG, Option.bind_eq_bind] at e
    cases c : setS pn ρ i (.own ds) with
    | none => rw [c] at e; cases e
    | some ρ1 =>
      rw [c] at e
      have e : parG pn is as ρ1 = some ρ' := e
      obtain ⟨c1, c2, rfl⟩ := setS_some c
      obtain ⟨p, xs, rfl, h2, h3, h4, h5, h6, h7, h8⟩ := h
      show Rl K B Z H (setAll (σ.set i (some (.ref p))) is vs) ρ'
      refine par_ok hp (vs := vs) (B' := B'.push p xs) (rl.setOwn c2 (by rw [hp]; exact c1) ⟨p, xs, rfl, h2, h3, by rw [← hH]; exact h4, fun q hm => h5 q (hq q hm), h6, h7⟩) hH (fun q hm => List.mem_cons_of_mem _ (hq q hm))
        (ArR.other (parG_refs e) h8 fun j es q g1 g2 => ?_) e
      rcases set_get g1 with ⟨rfl, z, hl⟩ | ⟨ne, g1⟩
      · rw [List.getElem?_set_self (by rw [rl.len]; exact hl)] at g2; cases g2
        exact .inr ⟨(p, xs), List.mem_cons_self, rfl⟩
      · rw [List.getElem?_set_ne (Ne.symm ne)] at g2
        exact .inl ⟨es, g1, g2⟩
  | (i, false) :: is, .frs d :: as, _ :: _, _, _, _, _, _, _, _, _, e => by simp [parG] at e
  | (i, true) :: is, .dat d :: as, _ :: _, _, _, _, _, _, _, _, _, e => by simp [parG] at e
  | (i, false) :: is, .ref d :: as, _ :: _, _, _, _, _, _, _, _, _, e => by simp [parG] at e
  | (i, true) :: is, .ref d :: as, _ :: _, _, _, _, _, _, _, _, _, e => by simp [parG] at e
theorem parG_len : ∀ {is : List (Nat × Bool)} {as : List Ar} {ρ ρ' : Env1}, parG pn is as ρ = some ρ' → as.length = is.length
  | [], [], _, _, _ => rfl
  | [], _ :: _, _, _, e => by simp [parG] at e
  | (i, false) :: is, [], _, _, e => by simp [parG] at e
  | (i, true) :: is, [], _, _, e => by simp [parG] at e
  | (i, false) :: is, .dat d :: as, ρ, ρ', e => by
    simp only [parG, Option.bind_eq_bind] at e
    cases c : setS pn ρ i (.dat d) with
    | none => rw [c] at e; cases e
    | some ρ1 => rw [c] at e; simp [parG_len (as := as) e]
  | (i, true) :: is, .frs d :: as, ρ, ρ', e => by
    simp only [parG, Option.bind_eq_bind] at e
    cases c : setS pn ρ i (.own d) with
    | none => rw [c] at e; cases e
    | some ρ1 => rw [c] at e; simp [parG_len (as := as) e]
  | (i, false) :: is, .frs d :: as, _, _, e => by simp [parG] at e
  | (i, true) :: is, .dat d :: as, _, _, e => by simp [parG] at e
  | (i, false) :: is, .ref d :: as, _, _, e => by simp [parG] at e
  | (i, true) :: is, .ref d :: as, _, _, e => by simp [parG] at e
theorem ArR.len {σ : L2.St} {ρ : Env1} : ∀ {as : List Ar} {vs : List V} {B' : Bs}, ArR K Z H σ ρ B' vs as → vs.length = as.length
  | [], [], _, _ => rfl
  | [], _ :: _, _, h => h.elim
  | .dat _ :: _, [], _, h => h.elim
  | .frs _ :: _, [], _, h => h.elim
  | .ref _ :: _, [], _, h => h.elim
  | .dat d :: as, v :: vs, B', h => by simp [ArR.len (as := as) h.2]
  | .ref d :: as, v :: vs, B', h => by simp [ArR.len (as := as) h.2]
  | .frs ds :: as, v :: vs, B', h => by
    obtain ⟨p, xs, h1, h2, h3, h4, h5, h6, h7, h8⟩ := h
    simp [ArR.len (as := as) h8]
end
section
variable {X : Cx} {pn : List Nat} {G : Gx} {N : List Str} {k : Nat} {fe fa fb fc : ME} {f f1 f2 : MS} {e a b c : Expr} {pos : Pos}
theorem tDA_mono {K : PySem.W.Frag} {ks : List Bool} {fs : List Bool → Env1 → Option (List Ar × Env1)} {σ : L2.St} {H : Hp} {Q Q' : List V → Hp → Prop} (h : tDA K pn ks fs σ H Q) (q : ∀ vs H, Q vs H → Q' vs H) : tDA K pn ks fs σ H Q' := by
  obtain ⟨B, Z, ρ, as, ρ', hp, rl, e, z⟩ := h
  exact ⟨B, Z, ρ, as, ρ', hp, rl, e, fun vs H' Z' r s a => q _ _ (z vs H' Z' r s a)⟩
theorem par_core {is : List (Nat × Bool)} {fs : List Bool → Env1 → Option (List Ar × Env1)} (hf : ∀ ρ, f ρ = (do
      let (xs, ρ1) ← fs (is.map (·.2)) ρ
      let ρ2 ← parG pn is xs ρ1
      some (.nx ρ2))) {D : Ends} {σ : L2.St} {H : Hp} (h : tDS X.K pn f D σ H) : tDA X.K pn (is.map (·.2)) fs σ H fun vs H1 => vs.length = is.length ∧ D.nx (setAll σ is vs) H1 := by
  obtain ⟨B, Z, ρ, o, hp, rl, e, q⟩ := h
  rw [hf] at e
  cases c1 : fs (is.map (·.2)) ρ with
  | none => rw [c1] at e; cases e
  | some w =>
  obtain ⟨xs, ρ1⟩ := w
  rw [c1] at e
  simp only [Option.bind_eq_bind, Option.bind_some] at e
  cases c2 : parG pn is xs ρ1 with
  | none => rw [c2] at e; cases e
  | some ρ2 =>
  rw [c2] at e; cases e
  exact ⟨B, Z, ρ, xs, ρ1, hp, rl, c1, fun vs H1 Z1 rl1 sm1 ar => ⟨by rw [ar.len, parG_len c2], q _ H1 Z1 (par_ok hp rl1 rfl (fun _ h => h) ar c2) sm1⟩⟩
/-- a, b = x, y -/
theorem ds_par2 {i j : Nat} {u v : Bool} {x y : Str} {a b : Expr} {px py pt : Pos} {kt k2 pt2} {fs : List Bool → Env1 → Option (List Ar × Env1)} (hc : X.calm = true) (hN : X.N.Nodup) (hi : X.N[i]? = some x) (hj : X.N[j]? = some y) (hij : i ≠ j)
    (hx : X.env.scope.names.lookup x = some .local) (hy : X.env.scope.names.lookup y = some .local)
    (hw : swappedStores [.Tuple [.Name x px, .Name y py] kt pt] (.Tuple [a, b] k2 pt2) X.env = pure (some [x, y])) (ha : DA X pn [a, b] fs) (hf : ∀ ρ, f ρ = (do
      let (xs, ρ1) ← fs ([(i, u), (j, v)].map (·.2)) ρ
      let ρ2 ← parG pn [(i, u), (j, v)] xs ρ1
      some (.nx ρ2))) : DS X pn (.Assign [.Tuple [.Name x px, .Name y py] kt pt] (.Tuple [a, b] k2 pt2) pos) f :=
  PS.imp (ps_par hc hN hi hj hij hx hy (ha _) hw) fun D σ H h => tDA_mono (par_core hf h) fun vs H1 ⟨l, q⟩ => by
    match vs, l with
    | [v, w], _ => exact ⟨v, w, rfl, q⟩
/-- a, b, c = x, y, z -/
theorem ds_par3 {i j l : Nat} {u v w : Bool} {x y z : Str} {a b c : Expr} {px py pz pt : Pos} {kt k2 pt2} {fs : List Bool → Env1 → Option (List Ar × Env1)} (hc : X.calm = true) (hN : X.N.Nodup) (hi : X.N[i]? = some x) (hj : X.N[j]? = some y) (hl : X.N[l]? = some z) (hij : i ≠ j) (hil : i ≠ l) (hjl : j ≠ l)
    (hx : X.env.scope.names.lookup x = some .local) (hy : X.env.scope.names.lookup y = some .local) (hz : X.env.scope.names.lookup z = some .local)
    (hw : swappedStores [.Tuple [.Name x px, .Name y py, .Name z pz] kt pt] (.Tuple [a, b, c] k2 pt2) X.env = pure (some [x, y, z])) (ha : DA X pn [a, b, c] fs) (hf : ∀ ρ, f ρ = (do
      let (xs, ρ1) ← fs ([(i, u), (j, v), (l, w)].map (·.2)) ρ
      let ρ2 ← parG pn [(i, u), (j, v), (l, w)] xs ρ1
      some (.nx ρ2))) : DS X pn (.Assign [.Tuple [.Name x px, .Name y py, .Name z pz] kt pt] (.Tuple [a, b, c] k2 pt2) pos) f :=
  PS.imp (ps_par3 hc hN hi hj hl hij hil hjl hx hy hz (ha _) hw) fun D σ H h => tDA_mono (par_core hf h) fun vs H1 ⟨l, q⟩ => by
    match vs, l with
    | [v, w, u], _ => exact ⟨v, w, u, rfl, q⟩
theorem getO_some {ρ : Env1} {i : Nat} {ds : List PyData} (h : getO ρ i = some ds) : ρ[i]? = some (some (.own ds)) := by
  unfold getO at h
  split at h
  · cases h; assumption
  · cases h
/-- x.append(e) -/
theorem ds_app {i : Nat} {x : Str} {px pa pc : Pos} (hv : PE X (.Name x px) (tVar i)) (he : DE X pn e fe) (hst : starEach [e] X.env = [(false, eval e X.env)]) (hl : (pa.endLine == pc.line) = true) (hf : ∀ ρ, f ρ = (do
      let _ ← getO ρ i
      let (x, ρ1) ← fe ρ
      let ds ← getO ρ1 i
      if ds.length < sizeLine then some (.nx (ρ1.set i (some (.own (ds ++ [x.d]))))) else none)) (hb : attributeBase (.Name x px) "append" X.env (eval (.Name x px) X.env) = eval (.Name x px) X.env) : DS X pn (.Expr (.Call (.Attribute (.Name x px) "append" pa) [e] [] pc) pos) f := PS.imp (ps_expr (pe_bm F.plainAttrs_list F.slot_list_append F.type_list_append mt_append hv (pa_cons he pa_nil hst) hb (by rw [hst]; rfl) hl hst rfl)) fun D σ H ⟨B, Z, ρ, o, hp, rl, e1, q⟩ => by
  rw [hf] at e1
  cases c0 : getO ρ i with
  | none => rw [c0] at e1; cases e1
  | some ds0 =>
  rw [c0] at e1
  simp only [Option.bind_eq_bind, Option.bind_some] at e1
  cases c1 : fe ρ with
  | none => rw [c1] at e1; cases e1
  | some w =>
  obtain ⟨y, ρ1⟩ := w
  rw [c1] at e1
  simp only [Option.bind_some] at e1
  cases c2 : getO ρ1 i with
  | none => rw [c2] at e1; cases e1
  | some ds =>
  rw [c2] at e1
  simp only [Option.bind_some] at e1
  split at e1
  · rename_i hlen
    cases e1
    obtain ⟨p0, xs0, h1, h2, h3, h4, h5⟩ := rl.own i ds0 (getO_some c0)
    refine ⟨.ref p0, h1, .inl ⟨rfl, xs0, .inl (.inl h2)⟩, ?_⟩
    refine tD_d hp rl c1 fun v H1 Z1 rl1 sm1 dv => ?_
    obtain ⟨p, xs, g1, g2, g3, g4, g5⟩ := rl1.own i ds (getO_some c2)
    rw [h1] at g1; cases g1
    exact ⟨p0, xs, v, rfl, rfl, g2, by rw [g4.len]; exact hlen, q _ _ Z1 (rl1.turn (getO_some c2) h1 (g4.append (.one dv))) sm1⟩
  · cases e1
/-- x.extend(e) -/
theorem ds_ext {i : Nat} {x : Str} {px pa pc : Pos} (hv : PE X (.Name x px) (tVar i)) (he : DE X pn e fe) (hst : starEach [e] X.env = [(false, eval e X.env)]) (hl : (pa.endLine == pc.line) = true) (hf : ∀ ρ, f ρ = (do
      let _ ← getO ρ i
      let (x, ρ1) ← fe ρ
      let ds ← getO ρ1 i
      match x with
      | .frs xs => if ds.length + xs.length ≤ sizeLine then some (.nx (ρ1.set i (some (.own (ds ++ xs))))) else none
      | .dat _ => none)) (hb : attributeBase (.Name x px) "extend" X.env (eval (.Name x px) X.env) = eval (.Name x px) X.env) : DS X pn (.Expr (.Call (.Attribute (.Name x px) "extend" pa) [e] [] pc) pos) f := PS.imp (ps_expr (pe_bm F.plainAttrs_list F.slot_list_extend F.type_list_extend mt_extend hv (pa_cons he pa_nil hst) hb (by rw [hst]; rfl) hl hst rfl)) fun D σ H ⟨B, Z, ρ, o, hp, rl, e1, q⟩ => by
  rw [hf] at e1
  cases c0 : getO ρ i with
  | none => rw [c0] at e1; cases e1
  | some ds0 =>
  rw [c0] at e1
  simp only [Option.bind_eq_bind, Option.bind_some] at e1
  cases c1 : fe ρ with
  | none => rw [c1] at e1; cases e1
  | some w =>
  obtain ⟨y, ρ1⟩ := w
  rw [c1] at e1
  simp only [Option.bind_some] at e1
  cases c2 : getO ρ1 i with
  | none => rw [c2] at e1; cases e1
  | some ds =>
  rw [c2] at e1
  simp only [Option.bind_some] at e1
  cases y with
  | dat d => cases e1
  | frs ws =>
  simp only at e1
  split at e1
  · rename_i hlen
    cases e1
    obtain ⟨p0, xs0, h1, h2, h3, h4, h5⟩ := rl.own i ds0 (getO_some c0)
    refine ⟨.ref p0, h1, .inl ⟨rfl, xs0, .inl (.inl h2)⟩, ?_⟩
    refine tD_r hp rl c1 fun v H1 Z1 rl1 sm1 rr => ?_
    obtain ⟨b, zs, rfl, r1, r2, r3, r4, r5, r6⟩ := rr
    obtain ⟨p, xs, g1, g2, g3, g4, g5⟩ := rl1.own i ds (getO_some c2)
    rw [h1] at g1; cases g1
    exact ⟨p0, b, xs, zs, rfl, rfl, g2, r1, by rw [g4.len, r5.len]; exact hlen, q _ _ Z1 (rl1.turn (getO_some c2) h1 (g4.append r5)) sm1⟩
  · cases e1
/-- x[k] = e -/
theorem ds_idx {i : Nat} {x : Str} {px pt : Pos} (hv : PE X (.Name x px) (tVar i)) (hk : DE X pn a fa) (he : DE X pn e fe) (hs : swapsWithSole [.Subscript (.Name x px) a pt] e pos.line X.env = pure false) (hw : swappedStores [.Subscript (.Name x px) a pt] e X.env = pure none)
    (h1 : (assignEach [.Subscript (.Name x px) a pt] X.env).map (·.2) = [assign (.Subscript (.Name x px) a pt) X.env])
    (hg : ∀ v, assign (.Subscript (.Name x px) a pt) X.env v = (do
      let ov ← holding [v] (eval (.Name x px) X.env)
      let iv ← holding [v, ov] (eval a X.env)
      standAt pt
      holding [v, ov, iv] (setItem ov iv v)
      release [v, ov, iv] [])) (hf : ∀ ρ, f ρ = (do
      let _ ← getO ρ i
      let (x, ρ1) ← fe ρ
      let (z, ρ2) ← fa ρ1
      match z with
      | .dat (.int q) => do
        let ds ← getO ρ2 i
        let p ← ixN ds.length q
        some (.nx (ρ2.set i (some (.own (ds.set p x.d)))))
      | _ => none)) : DS X pn (.Assign [.Subscript (.Name x px) a pt] e pos) f := PS.imp (ps_asg he (pg_sub hv hk set_list hg) hs hw h1) fun D σ H ⟨B, Z, ρ, o, hp, rl, e1, q⟩ => by
  rw [hf] at e1
  cases c0 : getO ρ i with
  | none => rw [c0] at e1; cases e1
  | some ds0 =>
  rw [c0] at e1
  simp only [Option.bind_eq_bind, Option.bind_some] at e1
  cases c1 : fe ρ with
  | none => rw [c1] at e1; cases e1
  | some w =>
  obtain ⟨y, ρ1⟩ := w
  rw [c1] at e1
  simp only [Option.bind_some] at e1
  cases c2 : fa ρ1 with
  | none => rw [c2] at e1; cases e1
  | some w =>
  obtain ⟨z, ρ2⟩ := w
  rw [c2] at e1
  simp only [Option.bind_some] at e1
  split at e1
  · rename_i n
    cases c3 : getO ρ2 i with
    | none => rw [c3] at e1; cases e1
    | some ds =>
    rw [c3] at e1
    simp only [Option.bind_some] at e1
    cases c4 : ixN ds.length n with
    | none => rw [c4] at e1; cases e1
    | some j =>
    rw [c4] at e1; cases e1
    refine tD_d hp rl c1 fun v H1 Z1 rl1 sm1 dv => ?_
    obtain ⟨p, _, hσ, _⟩ := rl.own i ds0 (getO_some c0)
    refine ⟨.ref p, hσ, tD_r hp rl1 c2 fun u H2 Z2 rl2 sm2 dw => ?_⟩
    obtain ⟨p', xs, g1, g2, g3, g4, g5⟩ := rl2.own i ds (getO_some c3)
    rw [hσ] at g1; cases g1
    cases dw
    exact ⟨p, xs, n, j, rfl, rfl, g2, by rw [g4.len]; exact c4, q _ _ Z2 (rl2.turn (getO_some c3) hσ (g4.set (dv.up sm2) j)) (sm1.trans sm2)⟩
  · cases e1
/-- x[k], y = divmod(a, b) -/
theorem ds_dm {i j : Nat} {x y df : Str} {px py pt pd pf pc : Pos} {kt : Nat} (hy0 : df = "divmod") (g : Gd G N k X) (hv : PE X (.Name x px) (tVar i)) (hk : DE X pn c fc) (hyN : X.N[j]? = some y) (hyl : Loc X.env.scope y) (hyf : X.fn y = true ∨ X.env.scope.names.lookup y = some .local)
    (ha : DE X pn a fa) (hb : DE X pn b fb) (hgl : Gl X df) (hst1 : starEach [a, b] X.env = (false, eval a X.env) :: starEach [b] X.env) (hst2 : starEach [b] X.env = [(false, eval b X.env)])
    (hg : ∀ v, assign (.Subscript (.Name x px) c pt) X.env v = (do
      let ov ← holding [v] (eval (.Name x px) X.env)
      let iv ← holding [v, ov] (eval c X.env)
      standAt pt
      holding [v, ov, iv] (setItem ov iv v)
      release [v, ov, iv] [])) 
    (he1 : (assignEach [.Subscript (.Name x px) c pt, .Name y py] X.env).map (·.2) = [assign (.Subscript (.Name x px) c pt) X.env, assign (.Name y py) X.env])
    (he2 : (assignEach [.Subscript (.Name x px) c pt, .Name y py] X.env).findIdx? (·.1) = none) (hf : ∀ ρ, f ρ = (do
      let _ ← getO ρ i
      let (x, ρ1) ← fa ρ
      let (y, ρ2) ← fb ρ1
      match x, y with
      | .dat (.int m), .dat (.int n) =>
        if 0 < n ∧ n < 2 ^ 29 then do
          let (z, ρ3) ← fc ρ2
          match z with
          | .dat (.int q) => do
            let ds ← getO ρ3 i
            let p ← ixN ds.length q
            let ρ4 ← setS pn (ρ3.set i (some (.own (ds.set p (.int (m / n)))))) j (.dat (.int (m % n)))
            some (.nx ρ4)
          | _ => none
        else none
      | _, _ => none)) : DS X pn (.Assign [.Tuple [.Subscript (.Name x px) c pt, .Name y py] kt pd] (.Call (.Name df pf) [a, b] [] pc) pos) f := by
  subst hy0
  refine PS.imp (ps_asg (pe_callB call_divmod hgl (g.mg (by decide +kernel)) (by decide +kernel) (pa_cons ha (pa_cons hb pa_nil hst2) hst1) (by decide) (by decide) hst1 (by rw [hst2]; rfl))
    (pg_tup (n := 2) g.calm (pgs_cons (pg_sub hv hk set_list hg) (pgs_cons (pg_name g.nd' hyN hyl hyf) pgs_nil rfl) (by rw [he1]; rfl)) rfl he2) rfl rfl rfl) fun D σ H ⟨B, Z, ρ, o, hp, rl, e1, q⟩ => ?_
  rw [hf] at e1
  cases c0 : getO ρ i with
  | none => rw [c0] at e1; cases e1
  | some ds0 =>
  rw [c0] at e1
  simp only [Option.bind_eq_bind, Option.bind_some] at e1
  cases c1 : fa ρ with
  | none => rw [c1] at e1; cases e1
  | some w =>
  obtain ⟨r1, ρ1⟩ := w
  rw [c1] at e1
  simp only [Option.bind_some] at e1
  cases c2 : fb ρ1 with
  | none => rw [c2] at e1; cases e1
  | some w =>
  obtain ⟨r2, ρ2⟩ := w
  rw [c2] at e1
  simp only [Option.bind_some] at e1
  split at e1
  case h_2 => cases e1
  rename_i m n
  split at e1
  case isFalse => cases e1
  rename_i hn
  cases c3 : fc ρ2 with
  | none => rw [c3] at e1; cases e1
  | some w =>
  obtain ⟨r3, ρ3⟩ := w
  rw [c3] at e1
  simp only [Option.bind_some] at e1
  split at e1
  case h_2 => cases e1
  rename_i t
  cases c4 : getO ρ3 i with
  | none => rw [c4] at e1; cases e1
  | some ds =>
  rw [c4] at e1
  simp only [Option.bind_some] at e1
  cases c5 : ixN ds.length t with
  | none => rw [c5] at e1; cases e1
  | some p =>
  rw [c5] at e1
  simp only [Option.bind_some] at e1
  cases c6 : setS pn (ρ3.set i (some (.own (ds.set p (.int (m / n)))))) j (.dat (.int (m % n))) with
  | none => rw [c6] at e1; cases e1
  | some ρ4 =>
  rw [c6] at e1; cases e1
  obtain ⟨s1, s2, rfl⟩ := setS_some c6
  obtain ⟨p0, _, hσ, _⟩ := rl.own i ds0 (getO_some c0)
  refine tD_r hp rl c1 fun v1 H1 Z1 rl1 sm1 d1 => ?_
  refine tD_r hp rl1 c2 fun v2 H2 Z2 rl2 sm2 d2 => ?_
  cases d1; cases d2
  refine ⟨m, n, rfl, ⟨hn.1, by have := hn.2; omega⟩, fun a0 ha0 => ?_⟩
  obtain ⟨g1, g2, g3⟩ := rl2.newT ha0 (.cons (.int (m / n)) (.cons (.int (m % n)) .nil) : DvAll X.K Z2 [.int (m / n), .int (m % n)] [.int (m / n), .int (m % n)])
  refine ⟨a0, _, rfl, .inl (.inl upd_same), rfl, .int (m / n), [.int (m % n)], rfl, .ref p0, hσ, ?_⟩
  refine tD_r hp g1 c3 fun v3 H3 Z3 rl3 sm3 d3 => ?_
  cases d3
  obtain ⟨p', xs, f1, f2, f3, f4, f5⟩ := rl3.own i ds (getO_some c4)
  rw [hσ] at f1; cases f1
  refine ⟨p0, xs, t, p, rfl, rfl, f2, by rw [f4.len]; exact c5, .int (m % n), [], rfl, rfl, ?_⟩
  exact q _ _ Z3 ((rl3.turn (getO_some c4) hσ (f4.set (.int (m / n)) p)).setDat s2 (by rw [hp]; exact s1) (.int _)) (((sm1.trans sm2).trans g2).trans sm3)
end
end Dx

namespace Dx
open PySem PySem.Spec PyProof.Rows L2
def isStar : Expr → Bool
  | .Starred .. => true
  | _ => false
theorem block_fn {env : Env} (h : env.scope.kind = .function) : env.blockKind = .function := by
  unfold Env.blockKind; rw [h]; rfl
theorem dd2 {x y : Str} (h : (y == x) = false) : [x, y].eraseDups = [x, y] := by
  rw [List.eraseDups_cons]
  have : [y].filter (fun b => !b == x) = [y] := by simp [h]
  rw [this]; rfl
theorem dd3 {x y z : Str} (h : (y == x) = false) (h1 : (z == x) = false) (h2 : (z == y) = false) : [x, y, z].eraseDups = [x, y, z] := by
  rw [List.eraseDups_cons]
  have : [y, z].filter (fun b => !b == x) = [y, z] := by simp [h, h1]
  rw [this, dd2 h2]
theorem sw2 {env : Env} {x y : Str} {px py pt pt2 : Pos} {kt k2 : Nat} {a b : Expr} (hk : env.scope.kind = .function) (hx : env.scope.names.lookup x = some .local) (hy : env.scope.names.lookup y = some .local) (hl : (py.line == px.line) = true) (hne : (y == x) = false)
    (ha : isStar a = false) (hb : isStar b = false) (hf : [a, b].all (foldedForSure 8) = false) (hc : [a, b].all (constantsAlone 8) = false) :
    swappedStores [.Tuple [.Name x px, .Name y py] kt pt] (.Tuple [a, b] k2 pt2) env = pure (some [x, y]) := by
  have kx : env.kindOf x = some .local := hx
  have ky : env.kindOf y = some .local := hy
  have hb := block_fn hk
  have hl' : py.line = px.line := by simpa using hl
  unfold swappedStores
  simp only [hf, hc, hb, kx, ky, List.length_cons, List.length_nil, List.head?_cons, Option.map_some, Option.getD_some, Expr.pos, List.filterMap_cons, List.filterMap_nil, hl']
  simp only [beq_self_eq_true, Bool.and_self, Bool.true_and, if_true, dd2 hne]
  simp
  rintro (h | h)
  · have h : isStar a = true := h
    simp_all
  · have h : isStar b = true := h
    simp_all
theorem sw3 {env : Env} {x y z : Str} {px py pz pt pt2 : Pos} {kt k2 : Nat} {a b c : Expr} (hk : env.scope.kind = .function) (hx : env.scope.names.lookup x = some .local) (hy : env.scope.names.lookup y = some .local) (hz : env.scope.names.lookup z = some .local) (hl : (py.line == px.line) = true) (hl2 : (pz.line == px.line) = true)
    (hne : (y == x) = false) (hne1 : (z == x) = false) (hne2 : (z == y) = false)
    (ha : isStar a = false) (hb : isStar b = false) (hcs : isStar c = false) (hf : [a, b, c].all (foldedForSure 8) = false) (hc : [a, b, c].all (constantsAlone 8) = false) :
    swappedStores [.Tuple [.Name x px, .Name y py, .Name z pz] kt pt] (.Tuple [a, b, c] k2 pt2) env = pure (some [x, y, z]) := by
  have kx : env.kindOf x = some .local := hx
  have ky : env.kindOf y = some .local := hy
  have kz : env.kindOf z = some .local := hz
  have hb := block_fn hk
  have hl' : py.line = px.line := by simpa using hl
  have hl2' : pz.line = px.line := by simpa using hl2
  unfold swappedStores
  simp only [hf, hc, hb, kx, ky, kz, List.length_cons, List.length_nil, List.head?_cons, Option.map_some, Option.getD_some, Expr.pos, List.filterMap_cons, List.filterMap_nil, hl', hl2']
  simp only [beq_self_eq_true, Bool.and_self, Bool.true_and, if_true, dd3 hne hne1 hne2]
  simp
  rintro (h | h | h)
  · have h : isStar a = true := h
    simp_all
  · have h : isStar b = true := h
    simp_all
  · have h : isStar c = true := h
    simp_all
/-- the pair is made and taken apart -/
theorem swN {env : Env} {ts vs : List Expr} {kt k2 : Nat} {pt pt2 : Pos} (h : (decide (vs.length ≠ ts.length) || !(decide (ts.length = 2) || decide (ts.length = 3)) || vs.all (foldedForSure 8)) = true) : swappedStores [.Tuple ts kt pt] (.Tuple vs k2 pt2) env = pure none := by
  unfold swappedStores
  simp only
  rcases Bool.or_eq_true_iff.mp h with h | h
  · rw [if_pos]
    rcases Bool.or_eq_true_iff.mp h with h | h
    · have h := of_decide_eq_true h
      simp [h]
    · simp at h
      simp [h]
  · simp only [h, if_true]
    split
    · rfl
    · split
      · rfl
      · split <;> rfl
theorem swT {env : Env} {t e : Expr} (h : (match e with | .Tuple .. => true | _ => false) = false) : swappedStores [t] e env = pure none := by
  cases e <;> first | (cases t <;> rfl) | cases h
theorem swS {env : Env} {t e : Expr} (h : (match t with | .Tuple .. => true | .List .. => true | _ => false) = false) : swappedStores [t] e env = pure none := by
  cases t <;> first | (cases e <;> rfl) | cases h
def noComp : Expr → Bool
  | .ListComp .. => false
  | .SetComp .. => false
  | .DictComp .. => false
  | _ => true
theorem sw_no {env : Env} {e : Expr} {t : Option Expr} {l : Nat} (h : noComp e = true) : swapsWith e t l env = pure false := by
  cases e <;> first | rfl | cases h
theorem sws_no {env : Env} {e t : Expr} {l : Nat} (h : noComp e = true) : swapsWithSole [t] e l env = pure false := sw_no h

/-! ## Statements to trees -/
def fb1 : Str → Bool := fun _ => true
def isFn (sc : Scope) : Bool := match sc.kind with | .function => true | _ => false
theorem isFn_eq {sc : Scope} (h : isFn sc = true) : sc.kind = .function := by
  unfold isFn at h
  split at h
  · assumption
  · cases h
def lclB (sc : Scope) (x : Str) : Bool := sc.names.lookup x == some .local
/-- a name's slot -/
def slotOf (c : Cc) (sc : Scope) (x : Str) : Option Nat := do let i ← ixN? c.N x; if locB fb1 sc x && okN x then some i else none
/-- a name that is read and written -/
def visOf (c : Cc) (sc : Scope) (x : Str) : Option Nat := do let i ← ixN? c.N x; if visB sc x then some i else none
def setOk (sc : Scope) (x : Str) (px : Pos) (e : Expr) : Bool := noComp e || (match e with | .ListComp _ _ scope q => isFn sc && lclB sc x && (px.line == q.line) && !(scope.names.any fun (n, k) => n == x && (k == .local || k == .cell)) | _ => false)
/-- name = e -/
def cSet (c : Cc) (m : Nat) (sc : Scope) (x : Str) (px : Pos) (e : Expr) (p : Pos) : Option I := do
  let i ← slotOf c sc x
  let y ← cE c m fb1 sc e
  if setOk sc x px e then
    some (if c.mv.contains i then .sown i y else .sset i y)
  else none
/-- a, b = x, y at once -/
def cPar (c : Cc) (m : Nat) (sc : Scope) : List Expr → List Expr → Option I
  | [.Name x px, .Name y py], [a, b] => do
    let i ← slotOf c sc x
    let j ← slotOf c sc y
    if isFn sc && lclB sc x && lclB sc y && (py.line == px.line) && !(y == x) && !([a, b].all (foldedForSure 8)) && !([a, b].all (constantsAlone 8)) then do
      let as ← lsG (cE c m fb1 sc) [a, b]
      some (.spar [(i, c.mv.contains i), (j, c.mv.contains j)] as)
    else none
  | [.Name x px, .Name y py, .Name z pz], [a, b, d] => do
    let i ← slotOf c sc x
    let j ← slotOf c sc y
    let l ← slotOf c sc z
    if isFn sc && lclB sc x && lclB sc y && lclB sc z && (py.line == px.line) && (pz.line == px.line) && !(y == x) && !(z == x) && !(z == y) && !([a, b, d].all (foldedForSure 8)) && !([a, b, d].all (constantsAlone 8)) then do
      let as ← lsG (cE c m fb1 sc) [a, b, d]
      some (.spar [(i, c.mv.contains i), (j, c.mv.contains j), (l, c.mv.contains l)] as)
    else none
  | _, _ => none
/-- a target tuple, taken apart -/
def cUnp (c : Cc) (m : Nat) (sc : Scope) (t e : Expr) : Option I := do
  let tg ← cT c.N fb1 sc m t
  let y ← cE c m fb1 sc e
  some (.stg tg.1 y)
def cStm (c : Cc) (m : Nat) (sc : Scope) : Stmt → Option I
  | .Pass _ => some .snil
  | .Raise _ _ _ => some .sno
  | .Return none _ => some (.sret .non)
  | .Return (some (.Name x p)) _ => match visOf c sc x with
    | some i => some (.sretv i)
    | none => (cE c m fb1 sc (.Name x p)).map .sret
  | .Return (some e) _ => (cE c m fb1 sc e).map .sret
  | .Expr (.Constant (.str _) _ _) _ => some .snil
  | .Expr (.Call (.Attribute (.Name x _) mth pa) [a] [] pc) _ => do
    let i ← visOf c sc x
    let y ← cE c m fb1 sc a
    if pa.endLine == pc.line then
      if mth = "append" then some (.sapp i y) else if mth = "extend" then some (.sext i y) else none
    else none
  | .Expr e _ => if noComp e then (cE c m fb1 sc e).map .sexp else none
  | .Assign [.Name x px] e p => cSet c m sc x px e p
  | .Assign [.Tuple ts kt pt] (.Tuple vs k2 p2) _ =>
    if (decide (vs.length ≠ ts.length) || !(decide (ts.length = 2) || decide (ts.length = 3)) || vs.all (foldedForSure 8)) = true then cUnp c m sc (.Tuple ts kt pt) (.Tuple vs k2 p2) else cPar c m sc ts vs
  | .Assign [.Tuple [.Subscript (.Name x _) k _, .Name y _] _ _] (.Call (.Name d _) [a, b] [] _) _ =>
    if d = "divmod" && glB sc d && !isSlice k then do
      let i ← visOf c sc x
      let j ← slotOf c sc y
      let q ← cE c m fb1 sc k
      let u ← cE c m fb1 sc a
      let v ← cE c m fb1 sc b
      some (.sdm i q j u v)
    else none
  | .Assign [.Tuple ts kt pt] e _ => if noComp e && !isTup e then cUnp c m sc (.Tuple ts kt pt) e else none
  | .Assign [.Subscript (.Name x _) k _] e _ => if noComp e && !isSlice k then do
      let i ← visOf c sc x
      let q ← cE c m fb1 sc k
      let y ← cE c m fb1 sc e
      some (.sidx i q y)
    else none
  | _ => none
def stG (f : Stmt → Option I) : List Stmt → Option I
  | [] => some .snil
  | s :: r => do let a ← f s; let b ← stG f r; some (.scons a b)
def cS (c : Cc) (m : Nat) (sc : Scope) : Nat → Stmt → Option I
  | 0, _ => none
  | n + 1, s => match s with
    | .If t as bs _ => do
      let x ← cE c m fb1 sc t
      let a ← stG (cS c m sc n) as
      let b ← stG (cS c m sc n) bs
      some (.sif x a b)
    | .For tg it body [] _ => do
      let t ← cT c.N fb1 sc m tg
      let i ← cE.cI (cE c m fb1 sc) (isTup tg) sc it
      let b ← stG (cS c m sc n) body
      some (.sfor t.1 i b)
    | .While t body [] _ => do
      let x ← cE c m fb1 sc t
      let b ← stG (cS c m sc n) body
      some (.swh x b)
    | s => cStm c m sc s

/-! ### what they mean -/
section
variable {c : Cc} {G : Gx} {wf : Nat} {pn : List Nat} {k : Nat} {X : Cx}
structure Fx (c : Cc) (G : Gx) (k : Nat) (X : Cx) : Prop where
  g : Gd G c.N k X
  gcd : c.gcd = true → X.mg "gcd" = some (.builtin "math.gcd")
  fn : X.fn = fb1
  kw : c.kw = G.kw
theorem Fx.e (F : Fx c G k X) {m : Nat} {e : Expr} {i : I} (h : cE c m fb1 X.env.scope e = some i) : Ok X pn G wf e i := cE_ok F.kw m X e i F.g F.gcd (by rw [F.fn]; exact h)
theorem Fx.t (F : Fx c G k X) {m : Nat} {e : Expr} {i : I × List Nat} (h : cT c.N fb1 X.env.scope m e = some i) : DG X pn i.2 e (sm G pn wf i.1).t ∧ (∀ es, (assignEach (e :: es) X.env) = (false, assign e X.env) :: assignEach es X.env) :=
  cT_ok F.g.nd' F.g.calm m e i.1 i.2 (by rw [F.fn, F.g.hN]; exact h)
theorem slotOf_ok (F : Fx c G k X) {x : Str} {i : Nat} (h : slotOf c X.env.scope x = some i) : X.N[i]? = some x ∧ Loc X.env.scope x ∧ (X.fn x = true ∨ X.env.scope.names.lookup x = some .local) := by
  unfold slotOf at h
  cases q : ixN? c.N x with
  | none => rw [q] at h; cases h
  | some j =>
    rw [q] at h
    simp only [Option.bind_eq_bind, Option.bind_some] at h
    split at h
    · rename_i hb
      cases h
      have := loc_of (Bool.and_eq_true_iff.mp hb).1
      exact ⟨by rw [F.g.hN]; exact ixN?_some q, this.1, .inl (by rw [F.fn]; rfl)⟩
    · cases h
theorem visOf_ok (F : Fx c G k X) {x : Str} {i : Nat} (h : visOf c X.env.scope x = some i) (p : Pos) : PE X (.Name x p) (tVar i) := by
  unfold visOf at h
  cases q : ixN? c.N x with
  | none => rw [q] at h; cases h
  | some j =>
    rw [q] at h
    simp only [Option.bind_eq_bind, Option.bind_some] at h
    split at h
    · rename_i hb
      cases h
      obtain ⟨h1, h2⟩ := vis_of hb
      obtain ⟨d1, d2⟩ := okN_debug h1
      exact pe_var (by rw [F.g.hN]; exact ixN?_some q) h2 d1 d2
    · cases h
theorem cSet_ok (F : Fx c G k X) {m : Nat} {x : Str} {px p : Pos} {e : Expr} {i : I} (h : cSet c m X.env.scope x px e p = some i) : DS X pn (.Assign [.Name x px] e p) (sm G pn wf i).s := by
  unfold cSet at h
  cases h1 : slotOf c X.env.scope x with
  | none => rw [h1] at h; cases h
  | some j =>
  rw [h1] at h
  simp only [Option.bind_eq_bind, Option.bind_some] at h
  cases h2 : cE c m fb1 X.env.scope e with
  | none => rw [h2] at h; cases h
  | some y =>
  rw [h2] at h
  simp only [Option.bind_some] at h
  split at h
  case isFalse => cases h
  rename_i hb
  obtain ⟨g1, g2, g3⟩ := slotOf_ok F h1
  have hA : PS X (.Assign [.Name x px] e p) (tAsg (tD X.K pn (sm G pn wf y).e) (gName j)) := by
    unfold setOk at hb
    rcases Bool.or_eq_true_iff.mp hb with hb | hb
    · exact ps_set F.g.nd' g1 g2 (F.e h2).1.1 (sw_no hb) g3
    · split at hb
      · rename_i elt gs scope q
        simp only [Bool.and_eq_true, Bool.not_eq_true'] at hb
        obtain ⟨⟨⟨b1, b2⟩, b3⟩, b4⟩ := hb
        have b2 : X.env.scope.names.lookup x = some .local := by simpa [lclB] using b2
        obtain ⟨tg, iter, ifs, rfl, own, vs, fi, ft, fc, fe, p1, p2, p3, p4, p5, p6, p7, p8⟩ := cE_lcs (wf := wf) (pn := pn) F.kw (X := X) F.g F.gcd (by rw [F.fn]; exact h2)
        exact set_lc g1 b2 (sw_true (isFn_eq b1) b2 b3 b4) F.g.calm F.g.nd' p1 p2 p3 p4 p5 p6 p7 p8
      · cases hb
  cases h
  by_cases hm : c.mv.contains j = true
  · rw [if_pos hm]; exact ds_own hA fun ρ => rfl
  · rw [if_neg hm]; exact ds_set hA fun ρ => rfl
end
end Dx

namespace Dx
open PySem PySem.Spec PyProof.Rows L2
section
variable {c : Cc} {G : Gx} {wf : Nat} {pn : List Nat} {k : Nat} {X : Cx}
theorem notStar {m : Nat} {fb : Str → Bool} {sc : Scope} {e : Expr} {i : I} (h : cE c m fb sc e = some i) : isStar e = false := by
  cases e <;> first
    | rfl
    | (rw [cE_star] at h; cases h)
theorem lsG_mem {f : Expr → Option I} : ∀ {es : List Expr} {i : I}, lsG f es = some i → ∀ e ∈ es, ∃ j, f e = some j
  | [], _, _, _, h => by cases h
  | a :: es, i, h, e, he => by
    unfold lsG at h
    cases h1 : f a with
    | none => rw [h1] at h; cases h
    | some x =>
    rw [h1] at h
    cases h2 : lsG f es with
    | none => rw [h2] at h; cases h
    | some y =>
    rcases List.mem_cons.mp he with rfl | he
    · exact ⟨x, h1⟩
    · exact lsG_mem h2 e he
theorem lcl_eq {sc : Scope} {x : Str} (h : lclB sc x = true) : sc.names.lookup x = some .local := by simpa [lclB] using h
theorem nd_ix {N : List Str} {x y : Str} {i j : Nat} (hi : N[i]? = some x) (hj : N[j]? = some y) (h : (y == x) = false) : i ≠ j := fun e => by
  subst e
  rw [hi] at hj; cases hj
  simp at h
theorem cPar_ok (F : Fx c G k X) {m : Nat} {ts vs : List Expr} {kt k2 : Nat} {pt p2 pos : Pos} {i : I} (h : cPar c m X.env.scope ts vs = some i) : DS X pn (.Assign [.Tuple ts kt pt] (.Tuple vs k2 p2) pos) (sm G pn wf i).s := by
  unfold cPar at h
  split at h
  · rename_i x px y py a b
    cases h1 : slotOf c X.env.scope x with
    | none => rw [h1] at h; cases h
    | some i =>
    rw [h1] at h
    cases h2 : slotOf c X.env.scope y with
    | none => rw [h2] at h; cases h
    | some j =>
    rw [h2] at h
    simp only [Option.bind_eq_bind, Option.bind_some] at h
    split at h
    case isFalse => cases h
    rename_i hb
    cases h3 : lsG (cE c m fb1 X.env.scope) [a, b] with
    | none => rw [h3] at h; cases h
    | some as =>
    rw [h3] at h; cases h
    simp only [Bool.and_eq_true, Bool.not_eq_true'] at hb
    obtain ⟨⟨⟨⟨⟨⟨b1, b2⟩, b3⟩, b4⟩, b5⟩, b6⟩, b7⟩ := hb
    obtain ⟨u1, u2⟩ := lsG_mem h3 a (by simp)
    obtain ⟨v1, v2⟩ := lsG_mem h3 b (by simp)
    obtain ⟨g1, _, _⟩ := slotOf_ok F h1
    obtain ⟨f1, _, _⟩ := slotOf_ok F h2
    exact ds_par2 F.g.calm F.g.nd' g1 f1 (nd_ix g1 f1 b5) (lcl_eq b2) (lcl_eq b3) (sw2 (kt := kt) (k2 := k2) (pt := pt) (pt2 := p2) (isFn_eq b1) (lcl_eq b2) (lcl_eq b3) b4 b5 (notStar u2) (notStar v2) b6 b7) (lsG_ok cE_star (fun e i h => F.e h) _ _ h3) fun ρ => rfl
  · rename_i x px y py z pz a b d
    cases h1 : slotOf c X.env.scope x with
    | none => rw [h1] at h; cases h
    | some i =>
    rw [h1] at h
    cases h2 : slotOf c X.env.scope y with
    | none => rw [h2] at h; cases h
    | some j =>
    rw [h2] at h
    cases h4 : slotOf c X.env.scope z with
    | none => rw [h4] at h; cases h
    | some l =>
    rw [h4] at h
    simp only [Option.bind_eq_bind, Option.bind_some] at h
    split at h
    case isFalse => cases h
    rename_i hb
    cases h3 : lsG (cE c m fb1 X.env.scope) [a, b, d] with
    | none => rw [h3] at h; cases h
    | some as =>
    rw [h3] at h; cases h
    simp only [Bool.and_eq_true, Bool.not_eq_true'] at hb
    obtain ⟨⟨⟨⟨⟨⟨⟨⟨⟨⟨b1, b2⟩, b3⟩, b4⟩, b5⟩, b6⟩, b7⟩, b8⟩, b9⟩, b10⟩, b11⟩ := hb
    obtain ⟨u1, u2⟩ := lsG_mem h3 a (by simp)
    obtain ⟨v1, v2⟩ := lsG_mem h3 b (by simp)
    obtain ⟨w1, w2⟩ := lsG_mem h3 d (by simp)
    obtain ⟨g1, _, _⟩ := slotOf_ok F h1
    obtain ⟨f1, _, _⟩ := slotOf_ok F h2
    obtain ⟨e1, _, _⟩ := slotOf_ok F h4
    exact ds_par3 F.g.calm F.g.nd' g1 f1 e1 (nd_ix g1 f1 b7) (nd_ix g1 e1 b8) (nd_ix f1 e1 b9) (lcl_eq b2) (lcl_eq b3) (lcl_eq b4)
      (sw3 (kt := kt) (k2 := k2) (pt := pt) (pt2 := p2) (isFn_eq b1) (lcl_eq b2) (lcl_eq b3) (lcl_eq b4) b5 b6 b7 b8 b9 (notStar u2) (notStar v2) (notStar w2) b10 b11) (lsG_ok cE_star (fun e i h => F.e h) _ _ h3) fun ρ => rfl
  · cases h
theorem cUnp_ok (F : Fx c G k X) {m : Nat} {t e : Expr} {pos : Pos} {i : I} (hs : swapsWithSole [t] e pos.line X.env = pure false) (hw : swappedStores [t] e X.env = pure none) (h : cUnp c m X.env.scope t e = some i) : DS X pn (.Assign [t] e pos) (sm G pn wf i).s := by
  unfold cUnp at h
  cases h1 : cT c.N fb1 X.env.scope m t with
  | none => rw [h1] at h; cases h
  | some tg =>
  rw [h1] at h
  cases h2 : cE c m fb1 X.env.scope e with
  | none => rw [h2] at h; cases h
  | some y =>
  rw [h2] at h; cases h
  obtain ⟨g1, g2⟩ := F.t (wf := wf) (pn := pn) h1
  exact ds_tg (F.e h2).1.1 g1 hs hw (by rw [g2 []]; rfl) fun ρ => rfl
theorem asg_sub {x k : Expr} {pt : Pos} {env : Env} (hk : isSlice k = false) (v : Value) : assign (.Subscript x k pt) env v = (do
      let ov ← holding [v] (eval x env)
      let iv ← holding [v, ov] (eval k env)
      standAt pt
      holding [v, ov, iv] (setItem ov iv v)
      release [v, ov, iv] []) := by
  cases k <;> first | rfl | cases hk
theorem cStm_ok (F : Fx c G k X) {m : Nat} {s : Stmt} {i : I} (h : cStm c m X.env.scope s = some i) : DS X pn s (sm G pn wf i).s := by
  unfold cStm at h
  split at h
  · cases h; exact ds_pass fun ρ => rfl
  · cases h; exact ds_never fun ρ => rfl
  · cases h; exact ds_retN fun ρ => rfl
  · rename_i x p q
    cases h1 : visOf c X.env.scope x with
    | some j => rw [h1] at h; cases h; exact ds_retv (visOf_ok F h1 p) fun ρ => rfl
    | none =>
      rw [h1] at h
      cases h2 : cE c m fb1 X.env.scope (.Name x p) with
      | none => rw [h2] at h; cases h
      | some y => rw [h2] at h; cases h; exact ds_ret (F.e h2).1.1 fun ρ => rfl
  · rename_i e q _
    cases h2 : cE c m fb1 X.env.scope e with
    | none => rw [h2] at h; cases h
    | some y => rw [h2] at h; cases h; exact ds_ret (F.e h2).1.1 fun ρ => rfl
  · cases h; exact ds_doc fun ρ => rfl
  · rename_i x px mth pa a pc q
    cases h1 : visOf c X.env.scope x with
    | none => rw [h1] at h; cases h
    | some j =>
    rw [h1] at h
    cases h2 : cE c m fb1 X.env.scope a with
    | none => rw [h2] at h; cases h
    | some y =>
    rw [h2] at h
    simp only [Option.bind_eq_bind, Option.bind_some] at h
    split at h
    case isFalse => cases h
    rename_i hl
    split at h
    · rename_i hm; subst hm; cases h
      exact ds_app (visOf_ok F h1 px) (F.e h2).1.1 (noStar cE_star h2 [] X.env) hl (fun ρ => rfl) rfl
    · split at h
      · rename_i hm; subst hm; cases h
        exact ds_ext (visOf_ok F h1 px) (F.e h2).1.1 (noStar cE_star h2 [] X.env) hl (fun ρ => rfl) rfl
      · cases h
  · rename_i e q _ _
    split at h
    case isFalse => cases h
    rename_i hn
    cases h2 : cE c m fb1 X.env.scope e with
    | none => rw [h2] at h; cases h
    | some y => rw [h2] at h; cases h; exact ds_exp (F.e h2).1.1 (sw_no hn) fun ρ => rfl
  · exact cSet_ok F h
  · rename_i ts kt pt vs k2 p2 q
    split at h
    · rename_i hb
      exact cUnp_ok F (sws_no rfl) (swN hb) h
    · exact cPar_ok F h
  · rename_i x px kk pk y py kt pt d pd a b pc q
    split at h
    case isFalse => cases h
    rename_i hb
    simp only [Bool.and_eq_true, Bool.not_eq_true', decide_eq_true_eq] at hb
    obtain ⟨⟨b1, b2⟩, b3⟩ := hb
    cases h1 : visOf c X.env.scope x with
    | none => rw [h1] at h; cases h
    | some i =>
    rw [h1] at h
    cases h2 : slotOf c X.env.scope y with
    | none => rw [h2] at h; cases h
    | some j =>
    rw [h2] at h
    cases h3 : cE c m fb1 X.env.scope kk with
    | none => rw [h3] at h; cases h
    | some q1 =>
    rw [h3] at h
    cases h4 : cE c m fb1 X.env.scope a with
    | none => rw [h4] at h; cases h
    | some u =>
    rw [h4] at h
    cases h5 : cE c m fb1 X.env.scope b with
    | none => rw [h5] at h; cases h
    | some v =>
    rw [h5] at h; cases h
    obtain ⟨g1, g2, g3⟩ := slotOf_ok F h2
    exact ds_dm b1 F.g (visOf_ok F h1 px) (F.e h3).1.1 g1 g2 g3 (F.e h4).1.1 (F.e h5).1.1 (gl_of b2).2 (noStar cE_star h4 _ X.env) (noStar cE_star h5 _ X.env) (asg_sub b3) rfl rfl fun ρ => rfl
  · rename_i ts kt pt e q _ _
    split at h
    case isFalse => cases h
    rename_i hb
    simp only [Bool.and_eq_true, Bool.not_eq_true'] at hb
    exact cUnp_ok F (sws_no hb.1) (swT (by
      have := hb.2
      cases e <;> first | rfl | cases this)) h
  · rename_i x px kk pk e q
    split at h
    case isFalse => cases h
    rename_i hb
    simp only [Bool.and_eq_true, Bool.not_eq_true'] at hb
    cases h1 : visOf c X.env.scope x with
    | none => rw [h1] at h; cases h
    | some i =>
    rw [h1] at h
    cases h3 : cE c m fb1 X.env.scope kk with
    | none => rw [h3] at h; cases h
    | some q1 =>
    rw [h3] at h
    cases h4 : cE c m fb1 X.env.scope e with
    | none => rw [h4] at h; cases h
    | some u =>
    rw [h4] at h; cases h
    exact ds_idx (visOf_ok F h1 px) (F.e h3).1.1 (F.e h4).1.1 (sws_no hb.1) (swS rfl) rfl (asg_sub hb.2) fun ρ => rfl
  · cases h
theorem stG_ok {f : Stmt → Option I} (ok : ∀ s i, f s = some i → DS X pn s (sm G pn wf i).s) : ∀ (ss : List Stmt) (i : I), stG f ss = some i → DSs X pn ss (sm G pn wf i).s
  | [], i, h => by cases h; exact dss_nil fun ρ => rfl
  | s :: ss, i, h => by
    unfold stG at h
    cases h1 : f s with
    | none => rw [h1] at h; cases h
    | some a =>
    rw [h1] at h
    cases h2 : stG f ss with
    | none => rw [h2] at h; cases h
    | some b =>
    rw [h2] at h; cases h
    exact dss_cons (ok s a h1) (stG_ok ok ss b h2) fun ρ => rfl
/-- THE STATEMENTS -/
theorem cS_ok (F : Fx c G k X) {m : Nat} : ∀ (n : Nat) (s : Stmt) (i : I), cS c m X.env.scope n s = some i → DS X pn s (sm G pn wf i).s
  | 0, _, _, h => by cases h
  | n + 1, s, i, h => by
    have blk : ∀ (ss : List Stmt) (i : I), stG (cS c m X.env.scope n) ss = some i → DSs X pn ss (sm G pn wf i).s := fun ss i h => stG_ok (fun s i h => cS_ok F n s i h) ss i h
    unfold cS at h
    split at h
    · rename_i t as bs q
      cases h1 : cE c m fb1 X.env.scope t with
      | none => rw [h1] at h; cases h
      | some x =>
      rw [h1] at h
      cases h2 : stG (cS c m X.env.scope n) as with
      | none => rw [h2] at h; cases h
      | some a =>
      rw [h2] at h
      cases h3 : stG (cS c m X.env.scope n) bs with
      | none => rw [h3] at h; cases h
      | some b =>
      rw [h3] at h; cases h
      exact ds_if (F.e h1).1.2 (blk as a h2) (blk bs b h3) fun ρ => rfl
    · rename_i tg it body q
      cases h1 : cT c.N fb1 X.env.scope m tg with
      | none => rw [h1] at h; cases h
      | some t =>
      rw [h1] at h
      cases h2 : cE.cI (cE c m fb1 X.env.scope) (isTup tg) X.env.scope it with
      | none => rw [h2] at h; cases h
      | some x =>
      rw [h2] at h
      cases h3 : stG (cS c m X.env.scope n) body with
      | none => rw [h3] at h; cases h
      | some b =>
      rw [h3] at h; cases h
      exact ds_for F.g.never F.g.calm (cI_ok F.g cE_star (fun e i h => F.e h) h2) (F.t h1).1 (blk body b h3) (folded_ok X.env fun a b p z => by
            subst z
            unfold cE.cI at h2
            cases m <;> cases h2) fun ρ => rfl
    · rename_i t body q
      cases h1 : cE c m fb1 X.env.scope t with
      | none => rw [h1] at h; cases h
      | some x =>
      rw [h1] at h
      cases h3 : stG (cS c m X.env.scope n) body with
      | none => rw [h3] at h; cases h
      | some b =>
      rw [h3] at h; cases h
      exact ds_while F.g.never (F.e h1).1.2 (blk body b h3) fun ρ => rfl
    · exact cStm_ok F h
end
end Dx

namespace Dx
open PySem PySem.Spec PyProof.Rows L2
/-! ## A def's promise from its body's tree -/
structure Tb (P : Program) (w : World) (K : PySem.W.Frag) (mg : Str → Option Value) (base : Heap) (G : Gx) (k : Nat) : Prop where
  fns : ∀ f g, G.fns f = some g → ∃ (fa : Addr) (fd : FuncData) (ps : List Str), mg f = some (.ref fa) ∧ PySem.W.keepIn K (.ref fa) = true ∧ ps.length = g.kinds.length ∧ Binds K fd ps [] ∧ Ct P w K mg base k fa fd ps (spR K g) ∧ ∀ ks pm, (f, ks, pm) ∈ G.kw → KB K fd ps ks pm
  cons : ∀ x d, G.cons x = some d → ∃ (v : V) (u : Value), mg x = some u ∧ RelV v u ∧ ∀ Z, Dv K Z v d
  blt : ∀ x ∈ bltNames, mg x = none
section
variable {K : PySem.W.Frag}
theorem outs_at : ∀ {args : List Sl} {ρ : Env1} {out : List Sl}, outs args ρ = some out → ∀ i : Nat,
    (∀ d, args[i]? = some (.dat d) → out[i]? = some (.dat d)) ∧ (∀ ds, args[i]? = some (.own ds) → ∃ es, ρ[i]? = some (some (.own es)) ∧ out[i]? = some (.own es)) ∧ (args[i]? = none → out[i]? = none)
  | [], ρ, out, h, i => by cases h; exact ⟨fun d e => by simp at e, fun ds e => by simp at e, fun _ => by simp⟩
  | .dat d :: r, ρ, out, h, i => by
    unfold outs at h
    cases q : outs r ρ.tail with
    | none => rw [q] at h; cases h
    | some o =>
      rw [q] at h; cases h
      cases i with
      | zero => exact ⟨fun d' e => by simpa using e, fun ds e => by simp at e, fun e => by simp at e⟩
      | succ i =>
        obtain ⟨h1, h2, h3⟩ := outs_at q i
        refine ⟨fun d' e => by simpa using h1 d' (by simpa using e), fun ds e => ?_, fun e => by simpa using h3 (by simpa using e)⟩
        obtain ⟨es, e1, e2⟩ := h2 ds (by simpa using e)
        refine ⟨es, ?_, by simpa using e2⟩
        cases ρ with
        | nil => simp at e1
        | cons a ρ => simpa using e1
  | .own ds :: r, [], out, h, i => by cases h
  | .own ds :: r, none :: ρ, out, h, i => by cases h
  | .own ds :: r, some (.dat d) :: ρ, out, h, i => by cases h
  | .own ds :: r, some (.own es) :: ρ, out, h, i => by
    unfold outs at h
    cases q : outs r ρ with
    | none => rw [q] at h; cases h
    | some o =>
      rw [q] at h; cases h
      cases i with
      | zero => exact ⟨fun d' e => by simp at e, fun ds e => ⟨es, by simp, by simp⟩, fun e => by simp at e⟩
      | succ i =>
        obtain ⟨h1, h2, h3⟩ := outs_at q i
        refine ⟨fun d' e => by simpa using h1 d' (by simpa using e), fun ds e => ?_, fun e => by simpa using h3 (by simpa using e)⟩
        obtain ⟨es', e1, e2⟩ := h2 ds (by simpa using e)
        exact ⟨es', by simpa using e1, by simpa using e2⟩
theorem outs_len : ∀ {args : List Sl} {ρ : Env1} {out : List Sl}, outs args ρ = some out → out.length = args.length
  | [], ρ, out, h => by cases h; rfl
  | .dat d :: r, ρ, out, h => by
    unfold outs at h
    cases q : outs r ρ.tail with
    | none => rw [q] at h; cases h
    | some o => rw [q] at h; cases h; simp [outs_len q]
  | .own ds :: r, [], out, h => by cases h
  | .own ds :: r, none :: ρ, out, h => by cases h
  | .own ds :: r, some (.dat d) :: ρ, out, h => by cases h
  | .own ds :: r, some (.own es) :: ρ, out, h => by
    unfold outs at h
    cases q : outs r ρ with
    | none => rw [q] at h; cases h
    | some o => rw [q] at h; cases h; simp [outs_len q]
theorem map_some_at {α : Type} {xs : List α} {i : Nat} {x : α} : (xs.map some)[i]? = some (some x) ↔ xs[i]? = some x := by
  rw [List.getElem?_map]
  cases xs[i]? <;> simp
/-- the callee's end, seen at the parameters -/
theorem leave {B : Bs} {Z' H H' : Hp} {σ' : L2.St} {ρ' : Env1} {args out : List Sl} {vs : List V} (hB : B.H = H) (hpd : B.pend = []) (e0 : Rl K B B.Z H (vs.map some) (args.map some)) (rl : Rl K B Z' H' σ' ρ') (sm : Same B.Z Z') (ho : outs args ρ' = some out) :
    Rl K B Z' H' (vs.map some) (out.map some) ∧ ∀ {v : V} {r : R}, RR K B Z' H' σ' ρ' v r → RR K B Z' H' (vs.map some) (out.map some) v r := by
  have hl : vs.length = args.length := by have := e0.len; simpa using this
  -- an own slot behind is a pinned parameter
  have key : ∀ (i : Nat) (es : List PyData), (out.map some)[i]? = some (some (.own es)) → ∃ p, vs[i]? = some (.ref p) ∧ (i, p) ∈ B.pins ∧ σ'[i]? = some (some (.ref p)) ∧ ρ'[i]? = some (some (.own es)) := fun i es h => by
    have h := map_some_at.mp h
    obtain ⟨o1, o2, o3⟩ := outs_at ho i
    cases q : args[i]? with
    | none => rw [o3 q] at h; cases h
    | some s =>
      cases s with
      | dat d => rw [o1 d q] at h; cases h
      | own ds =>
        obtain ⟨es', a1, a2⟩ := o2 ds q
        rw [a2] at h; cases h
        obtain ⟨p, xs, b1, b2, b3, b4, b5⟩ := e0.own i ds (map_some_at.mpr q)
        have hp : (i, p) ∈ B.pins := by
          rcases b5 with b5 | b5
          · exact b5
          · rw [hB, b2] at b5; cases b5
        exact ⟨p, map_some_at.mp b1, hp, (rl.pin (i, p) hp).1, a1⟩
  refine ⟨⟨by simp [hl, outs_len ho], rl.bz, rl.zh, rl.zn, rl.kp, fun i d h => ?_, fun i es h => ?_, fun i j es fs p h1 h2 h3 h4 => ?_, fun q hq => ?_, fun q hq => by rw [hpd] at hq; cases hq⟩, fun {v r} h => ?_⟩
  · have h := map_some_at.mp h
    obtain ⟨o1, o2, o3⟩ := outs_at ho i
    cases q : args[i]? with
    | none => rw [o3 q] at h; cases h
    | some s =>
      cases s with
      | own ds =>
        obtain ⟨es', a1, a2⟩ := o2 ds q
        rw [a2] at h; cases h
      | dat d' =>
        rw [o1 d' q] at h; cases h
        obtain ⟨v, h1, h2⟩ := e0.dat i d (map_some_at.mpr q)
        exact ⟨v, h1, h2.up sm⟩
  · obtain ⟨p, a1, a2, a3, a4⟩ := key i es h
    obtain ⟨p', xs, b1, b2, b3, b4, b5⟩ := rl.own i es a4
    rw [a3] at b1; cases b1
    exact ⟨p, xs, map_some_at.mpr a1, b2, b3, b4, .inl a2⟩
  · obtain ⟨p1, a1, a2, a3, a4⟩ := key i es h1
    obtain ⟨p2, c1, c2, c3, c4⟩ := key j fs h2
    have h3 := map_some_at.mp h3
    have h4 := map_some_at.mp h4
    rw [a1] at h3; cases h3
    rw [c1] at h4; cases h4
    exact rl.apart i j es fs p a4 c4 a3 c3
  · obtain ⟨h1, ds, h2⟩ := e0.pin q hq
    refine ⟨h1, ?_⟩
    obtain ⟨es, _, h3⟩ := (outs_at ho q.1).2.1 ds (map_some_at.mp h2)
    exact ⟨es, map_some_at.mpr h3⟩
  · cases r with
    | dat d => exact h
    | frs ds =>
      obtain ⟨p, xs, h1, h2, h3, h4, h5, h6, h7⟩ := h
      refine ⟨p, xs, h1, h2, h3, h4, h5, h6, fun i es e1 e2 => ?_⟩
      obtain ⟨p1, a1, a2, a3, a4⟩ := key i es e1
      have e2 := map_some_at.mp e2
      rw [a1] at e2; cases e2
      exact h7 i es a4 a3
/-- the callee's beginning -/
theorem enter {B : Bs} {H : Hp} {args : List Sl} {vs : List V} {m n : Nat} (e0 : Rl K B B.Z H (vs.map some) (args.map some)) (hm : n = m) (hpd : B.pend = []) : Rl K B B.Z H (vs.map some ++ List.replicate n none) (args.map some ++ List.replicate m none) := by
  have hl : vs.length = args.length := by have := e0.len; simpa using this
  have up : ∀ {i : Nat} {s : Sl}, (args.map some ++ List.replicate m none)[i]? = some (some s) → (args.map some)[i]? = some (some s) ∧ (vs.map some ++ List.replicate n none)[i]? = (vs.map some)[i]? := fun {i s} h => by
    by_cases hi : i < args.length
    · rw [List.getElem?_append_left (by simpa using hi)] at h
      exact ⟨h, List.getElem?_append_left (by simpa [hl] using hi)⟩
    · rw [List.getElem?_append_right (by simpa using hi), List.getElem?_replicate] at h
      split at h <;> cases h
  refine ⟨by simp [hl, hm], e0.bz, e0.zh, e0.zn, e0.kp, fun i d h => ?_, fun i ds h => ?_, fun i j ds es p h1 h2 h3 h4 => ?_, fun q hq => ?_, fun q hq => by rw [hpd] at hq; cases hq⟩
  · obtain ⟨h1, h2⟩ := up h
    rw [h2]; exact e0.dat i d h1
  · obtain ⟨h1, h2⟩ := up h
    rw [h2]; exact e0.own i ds h1
  · obtain ⟨a1, a2⟩ := up h1
    obtain ⟨b1, b2⟩ := up h2
    exact e0.apart i j ds es p a1 b1 (by rw [← a2]; exact h3) (by rw [← b2]; exact h4)
  · obtain ⟨h1, ds, h2⟩ := e0.pin q hq
    have hi : q.1 < args.length := by
      have := (List.getElem?_eq_some_iff.mp h2).1
      simpa using this
    exact ⟨by rw [List.getElem?_append_left (by simpa [hl] using hi)]; exact h1, ds, by rw [List.getElem?_append_left (by simpa using hi)]; exact h2⟩
end
section
variable {P : Program} {w : World} {K : PySem.W.Frag} {mg : Str → Option Value} {base : Heap} {c : Cc} {G : Gx} {k m n wf : Nat}
/-- THE DEF -/
theorem ct_of {x qual : Str} {st : Stmt} {f : Addr} {fd : FuncData} {ps : List Str} {ks : List Bool} {ir : I} (F : Fun K x qual st f fd) (S : FnScope c.N ps (defScope st)) (T : Tb P w K mg base G k) (hgcd : c.gcd = true → mg "gcd" = some (.builtin "math.gcd")) (hkw : c.kw = G.kw)
    (hks : ps.length = ks.length) (hc : stG (cS c m (defScope st) n) (defBody st) = some ir) : Ct P w K mg base (k + 1) f fd ps (spR K ⟨ks, fnS G wf c.N.length ps.length ir⟩) := by
  obtain ⟨oc, od, kV, doc, pm, an, cdv, ct, osl, rfl, lk, hcd⟩ := F.ex
  refine ⟨fun A outer s H args us vs Q hr e0 hb r hsp => ?_⟩
  obtain ⟨hlv, B, as, out, res, hB, hpd, hpn, rl0, hf, fin⟩ := hsp
  have hl : vs.length = ps.length := by rw [hlv, hks]
  have hla : vs.length = as.length := by have := rl0.len; simpa using this
  have KX : K.In s.heap := e0.mod.kin.keeps fun b o e => (e0.bs b o e).1
  have NL : s.heap.NoLimit := e0.mod.nolimit.keeps fun b o e => (e0.bs b o e).1
  have locs : ∀ y ∈ ps.zip us, (defScope st).names.lookup y.1 = some .local ∨ ((defScope st).names.lookup y.1 = some .cell ∧ ((cellsFrom (s.heap.objs.size + 1) (defScope st).names []).lookup y.1).isSome = true) := fun y hy => by
    have hy := (List.of_mem_zip (show (y.1, y.2) ∈ ps.zip us from hy)).1
    exact (S.par y.1 hy).imp id fun q => ⟨q, PySem.W.cellsFrom_some _ _ _ (.inl q)⟩
  refine codeAny_call_function hr.room.depth (KX _ _ lk) rfl S.co S.gen rfl (PySem.W.codeRec_of KX hcd) (hb _ _ _ _ ?_)
  refine wpAny_newFunctionEnv_cells S.kind locs fun env he s1 x1 => ?_
  subst he
  refine ⟨NL.keeps x1.toInCall.keep, codeAny_func ?_⟩
  have I := inv_start (CX := CX0) (E := E0) (cd := cdv) (f := f) (qual := qual) (w := w) (P := P) (mg := mg) (base := base) S hr.room.hd e0 hl r x1
  have fx : Fx c G k (cxOf CX0 P w K mg base c.N qual (defScope st) f cdv A outer s H E0).nox :=
    ⟨⟨rfl, S.nd, rfl, hr.deeper _, T.fns, T.cons, T.blt, PassesOwn.never⟩, hgcd, rfl, hkw⟩
  have body := (stG_ok (wf := wf) (pn := ownsAt as 0) (fun s i h => cS_ok (m := m) fx n s i h) _ ir hc).nox
  -- the tree's answer
  have hf : (if as.length = ps.length then
      match (sm G (ownsAt as 0) wf ir).s (as.map some ++ List.replicate (c.N.length - as.length) none) with
      | some (.nx ρ) => (outs as ρ).map fun o => (R.dat .none, o)
      | some (.rt r ρ) => (outs as ρ).map fun o => (r, o)
      | _ => none
    else none) = some (res, out) := hf
  rw [if_pos (by omega)] at hf
  have start : Rl K B B.Z H (L2.start c.N vs) (as.map some ++ List.replicate (c.N.length - as.length) none) := enter rl0 (by rw [hla]) hpd
  have go : ∀ (t : L2.Ends), (∀ σ' H', t.nx σ' H' ↔ Q .non H') → t.rt = Q → tDS K (ownsAt as 0) (sm G (ownsAt as 0) wf ir).s t (L2.start c.N vs) H := fun t h1 h2 => by
    split at hf
    · rename_i ρ hρ
      cases ho : outs as ρ with
      | none => rw [ho] at hf; cases hf
      | some o =>
        rw [ho] at hf; cases hf
        refine ⟨B, B.Z, _, _, hpn, start, hρ, fun σ' H' Z' rl' sm' => (h1 σ' H').mpr ?_⟩
        obtain ⟨g1, g2⟩ := leave hB hpd rl0 rl' sm' ho
        exact fin _ H' Z' g1 sm' .non
    · rename_i r0 ρ hρ
      cases ho : outs as ρ with
      | none => rw [ho] at hf; cases hf
      | some o =>
        rw [ho] at hf; cases hf
        refine ⟨B, B.Z, _, _, hpn, start, hρ, fun v σ' H' Z' rl' sm' rr => ?_⟩
        rw [h2]
        obtain ⟨g1, g2⟩ := leave hB hpd rl0 rl' sm' ho
        exact fin v H' Z' g1 sm' (g2 rr)
    · cases hf
  have fine := go { nx := fun _ H' => Q .non H', rt := Q } (fun σ' H' => Iff.rfl) rfl
  refine wpAny_mono (body.run [] s1 (L2.start c.N vs) H _ I fine) (fun fl s' hs => ?_) fun e s' hs => hs
  have stop : ∀ {σ' : L2.St} {H' : Hp} {v : V} {u : Value}, Inv (cxOf CX0 P w K mg base c.N qual (defScope st) f cdv A outer s H E0) [] σ' H' s' → RelV v u → Q v H' → CE outer P w H s Q u s' :=
    fun {σ' H' v u} J rv q => ⟨v, H', J.os, J.bare, J.base, J.hok, rv, q⟩
  cases fl with
  | next =>
    obtain ⟨σ', H', J, q⟩ := hs
    exact stop (v := .non) (u := .none) J rfl q
  | ret u =>
    obtain ⟨v, σ', H', J, rv, q⟩ := hs
    exact stop J rv q
  | brk => exact hs.elim fun _ z => z.elim fun _ z => z.2.elim
  | cont => exact hs.elim fun _ z => z.elim fun _ z => z.2.elim
/-- a sharper account of what it computes -/
theorem Ct.of_le {f : Addr} {fd : FuncData} {ps : List Str} {g g' : Gf} (h : Ct P w K mg base k f fd ps (spR K g)) (hk : g'.kinds = g.kinds) (hf : ∀ as r, g'.f as = some r → g.f as = some r) : Ct P w K mg base k f fd ps (spR K g') :=
  ⟨fun A outer s H args us vs Q hr e0 hb r hsp => h.run A outer s H args us vs Q hr e0 hb r (by
    obtain ⟨h1, B, as, out, res, h2, h3, h4, h5, h6, h7⟩ := hsp
    exact ⟨by rw [← hk]; exact h1, B, as, out, res, h2, h3, h4, h5, hf _ _ h6, h7⟩)⟩
end
end Dx

namespace Dx
open PySem PySem.Spec PyProof.Rows L2
/-! ## The law's end -/
theorem dv_ints {K : PySem.W.Frag} {Z : Hp} : ∀ ns : List Int, DvAll K Z (ns.map V.int) (ns.map PyData.int)
  | [] => .nil
  | n :: ns => .cons (.int n) (dv_ints ns)
/-- what the law's def answers at the script -/
theorem spR_law {K : PySem.W.Frag} {H : Hp} {a : Addr} {ns : List Int} {f : Fn} {out : List Sl} (hS : SqL K H a (ns.map V.int)) (hf : f [.dat (.list (ns.map PyData.int))] = some (.dat (.bool true), out)) : spR K ⟨[false], f⟩ [.ref a] H (fun v _ => v = .bl true) E0 := by
  have dv : DvAll K H [V.ref a] [PyData.list (ns.map PyData.int)] := .one (.lst hS (dv_ints ns))
  refine ⟨rfl, ⟨H, H, [], []⟩, [.dat (.list (ns.map PyData.int))], out, _, rfl, rfl, rfl, (hn_dat dv).entry (Same.refl H), hf, fun v H' Z' _ _ rr => ?_⟩
  cases rr; rfl
section
variable {P : Program} {w : World} {K : PySem.W.Frag} {mg mb : Str → Option Value} {k : Nat} {fa a : Addr} {fd : FuncData} {x : Str} {s₁ : Shared} {vs : List Value} {ns : List Int} {f : Fn} {out : List Sl}
/-- from a heap of known things in which the script alone may stand -/
theorem law_from {H : Hp} (KX : K.In s₁.heap) (hns : s₁.heap.Ns mainGlobals mg) (hb : s₁.heap.Ns builtinsNs mb) (hbb : ∀ x : Str, x ≠ "__name__" → mb x = bootBuiltins x) (hlim : s₁.heap.NoLimit) (hg : s₁.gens = #[])
    (ha : s₁.heap.get? a = some { cls := .type "list", data := .seq vs.toArray }) (hr : GRoom k callerA)
    (F : ∀ base : Heap, K.In base → base.Ns mainGlobals mg → Ct P w K mg base k fa fd [x] (spR K ⟨[false], f⟩)) (hbind : ∀ (s : Shared) (u : Value), BindsTo s fd ⟨[u], []⟩ [(x, u)])
    (hf : f [.dat (.list (ns.map PyData.int))] = some (.dat (.bool true), out)) (hO : Only H) (hS : SqL K H a (ns.map V.int)) (ok : HOk P w H s₁.heap) (alone : ∀ b, H b ≠ none → b = a ∧ K.lookup a = none) :
    codeAny (model P w) callerA (.call (.ref fa) ⟨[.ref a], []⟩) (fun r s' => r = .ok (.ret (.bool true)) ∧ OldK s₁.heap s'.heap ∧ s'.os = s₁.os ∧ AllBare s'.gens) s₁ := by
  have seen : ∀ {b : Addr} {o : Obj}, s₁.heap.get? b = some o → (b = a → K.lookup a ≠ none ∨ (∀ q, o.data ≠ .seq vs.toArray q)) → H b = none := fun {b o} e d => by
    cases q : H b with
    | none => rfl
    | some u =>
      obtain ⟨e1, e2⟩ := alone b (by rw [q]; simp)
      rcases d e1 with d1 | d1
      · exact absurd e2 d1
      · rw [e1, ha] at e; cases e
        exact absurd rfl (d1 _)
  have spaces : ∀ {b : Addr} {m : Str → Option Value}, s₁.heap.Ns b m → (hidT s₁.heap H).Ns b m := fun {b m} ⟨o, es, ep, e, d, r⟩ =>
    ⟨o, es, ep, hidT_get e (seen e fun _ => .inr fun q z => by rw [d] at z; cases z), d, r⟩
  have KB' : K.In (hidT s₁.heap H) := fun b o e => hidT_get (KX b o e) (seen (KX b o e) fun z => .inl (by rw [← z, e]; simp))
  have nl : (hidT s₁.heap H).NoLimit := hlim.elim fun mc h => ⟨mc, spaces h.1, h.2⟩
  have ent : Env0 P w K mg (hidT s₁.heap H) callerA [] s₁ H :=
    { frames := rfl, mod := ⟨KB', spaces hns, ⟨mb, spaces hb, hbb⟩, nl⟩, bs := fun b o e => of_hidT e, bsz := Nat.le_of_eq (hidT_size _ _), funs := True.intro, frf := fun b z => (List.not_mem_nil z).elim, hok := ok, bare := .of_eq hg }
  have got := (F _ KB' (spaces hns)).run callerA [] s₁ H ⟨[.ref a], []⟩ [.ref a] [.ref a] (fun v _ => v = .bl true) hr ent (hbind s₁ (.ref a)) (.cons rfl .nil) (spR_law hS hf)
  refine codeAny_mono got fun r s' h => ?_
  match r, h with
  | .ok (.ret u), h =>
    obtain ⟨v, H', os, bare, un, hok', rv, q⟩ := h
    have q : v = .bl true := q
    subst q
    have eu : u = Value.bool true := rv
    subst eu
    refine ⟨rfl, OldK.of_keep fun b o e => ?_, os, bare⟩
    cases hb1 : H b with
    | none => exact un.keep b o e hb1 (fun z => (List.not_mem_nil z).elim) (fun z => (List.not_mem_nil z).elim)
    | some u1 =>
      obtain z | ⟨ob, ys, z⟩ := hO b
      · rw [hb1] at z; cases z
      · have before := (ok b _ z).1
        have behind := (hok' b _ (un.frzs b ob _ z)).1
        rw [e] at before; cases before
        exact behind
  | .ok .next, h => exact h.elim
  | .ok .brk, h => exact h.elim
  | .ok .cont, h => exact h.elim
  | .error e, h => exact h.elim
theorem law_ct (KX : K.In s₁.heap) (hns : s₁.heap.Ns mainGlobals mg) (hb : s₁.heap.Ns builtinsNs mb) (hbb : ∀ x : Str, x ≠ "__name__" → mb x = bootBuiltins x) (hlim : s₁.heap.NoLimit) (hg : s₁.gens = #[])
    (ha : s₁.heap.get? a = some { cls := .type "list", data := .seq vs.toArray }) (hi : IntsAre vs ns) (hl : ns.length ≤ sizeLine) (hr : GRoom k callerA)
    (F : ∀ base : Heap, K.In base → base.Ns mainGlobals mg → Ct P w K mg base k fa fd [x] (spR K ⟨[false], f⟩)) (hbind : ∀ (s : Shared) (u : Value), BindsTo s fd ⟨[u], []⟩ [(x, u)])
    (hf : f [.dat (.list (ns.map PyData.int))] = some (.dat (.bool true), out)) :
    codeAny (model P w) callerA (.call (.ref fa) ⟨[.ref a], []⟩) (fun r s' => r = .ok (.ret (.bool true)) ∧ OldK s₁.heap s'.heap ∧ s'.os = s₁.os ∧ AllBare s'.gens) s₁ := by
  have vls := vals_ints hi
  have same := hi.length
  cases hk : K.lookup a with
  | none =>
    -- the script as a known object
    let Hs : Hp := fun b => if b = a then some (.frz { cls := .type "list", data := .seq vs.toArray } (.lst (ns.map V.int))) else none
    have at1 : Hs a = some (.frz { cls := .type "list", data := .seq vs.toArray } (.lst (ns.map V.int))) := if_pos rfl
    have at2 : ∀ b, b ≠ a → Hs b = none := fun b ne => if_neg ne
    refine law_from (H := Hs) KX hns hb hbb hlim hg ha hr F hbind hf (fun b => ?_) (.inl (.inr ⟨_, at1⟩)) (fun b u z => ?_) (fun b z => ?_)
    · by_cases e : b = a
      · subst e; exact .inr ⟨_, _, at1⟩
      · exact .inl (at2 b e)
    · by_cases e : b = a
      · subst e
        rw [at1] at z; cases z
        exact ⟨ha, (by rw [List.length_map]; exact hl), vs, _, vls, ha⟩
      · rw [at2 b e] at z; cases z
    · by_cases e : b = a
      · exact ⟨e, hk⟩
      · exact absurd (at2 b e) z
  | some o =>
    have eo : o = { cls := .type "list", data := .seq vs.toArray } := Option.some.inj ((KX a o hk).symm.trans ha)
    subst eo
    exact law_from (H := fun _ => none) KX hns hb hbb hlim hg ha hr F hbind hf (fun _ => .inl rfl) (.inr ⟨_, vs.toArray, _, hk, rfl, rfl, rfl, (by rw [List.size_toArray, same]; exact hl), by simpa using vls⟩) (fun b u z => by cases z) fun b z => absurd rfl z
end
/-- THE GOAL that the head leaves -/
theorem walk_ct {l : PySem.W.OpenLaw} {n k : Nat} {q : Program} {loose : List Str} {XP : (Str → Option Value) → Heap → Prop} {YP : World → Heap → Prop} {d : DefRec} {K : Params → PySem.W.Frag} {x : Str} {f : Fn}
    (hn : l.most = some n) (hn2 : n ≤ sizeLine) (hdf : d.params.defaults = []) (hr : GRoom k callerA) (hY : ∀ (w : World) (h : Heap), YP w h → (K w.params).In h)
    (F : ∀ (w : World) (mg : Str → Option Value) (fa : Addr) (h : Heap), (K w.params).In h → h.Ns mainGlobals mg → mg d.name = some (.ref fa) →
      ∃ fd : FuncData, (∀ (s : Shared) (u : Value), BindsTo s fd ⟨[u], []⟩ [(x, u)]) ∧
        ∀ base : Heap, (K w.params).In base → base.Ns mainGlobals mg → Ct l.prog w (K w.params) mg base k fa fd [x] (spR (K w.params) ⟨[false], f⟩))
    (hf : ∀ ns : List Int, ns.length ≤ n → (∀ z ∈ ns, Builtin.Int.intBits z ≤ 1048576) → ∃ out, f [.dat (.list (ns.map PyData.int))] = some (.dat (.bool true), out)) :
    PySem.W.WalkO q loose XP YP l.row.toRowW d [] (fun f vs => PySem.call f vs) := Att.attach_callB hn hdf fun w s₀ s₁ mg mb fa o pm cd doc a vs ns G Y ho hd hcd hmg hobj hints hlen hbits hg => by
  obtain ⟨fd, bind, prom⟩ := F w mg fa _ (hY w _ Y) G.T.g hmg
  obtain ⟨out, ho⟩ := hf ns hlen hbits
  exact law_ct (hY w _ Y) G.T.g G.T.b G.T.builtins G.T.nolimit hg hobj hints (Nat.le_trans hlen hn2) hr prom bind ho
end Dx

namespace Dx
open PySem PySem.Spec PyProof.Rows L2
/-! ## One def after another -/
def Gx.add (G : Gx) (x : Str) (g : Gf) : Gx := { G with fns := fun y => if y = x then some g else G.fns y }
theorem Gx.add_at (G : Gx) (x : Str) (g : Gf) : (G.add x g).fns x = some g := if_pos rfl
theorem Gx.add_ne (G : Gx) {x y : Str} (g : Gf) (h : y ≠ x) : (G.add x g).fns y = G.fns y := if_neg h
section
variable {P : Program} {w : World} {K : PySem.W.Frag} {mg : Str → Option Value} {base : Heap} {G : Gx} {k : Nat}
theorem Tb.add {x : Str} {g : Gf} {fa : Addr} {fd : FuncData} {ps : List Str} (T : Tb P w K mg base G k) (m : mg x = some (.ref fa)) (kp : PySem.W.keepIn K (.ref fa) = true) (hl : ps.length = g.kinds.length) (hb : Binds K fd ps [])
    (hc : Ct P w K mg base (k + 1) fa fd ps (spR K g)) (hkw : ∀ q ∈ G.kw, q.1 = x → KB K fd ps q.2.1 q.2.2) : Tb P w K mg base (G.add x g) (k + 1) := by
  refine ⟨fun f h e => ?_, T.cons, T.blt⟩
  by_cases q : f = x
  · subst q
    rw [Gx.add_at] at e
    cases e
    exact ⟨fa, fd, ps, m, kp, hl, hb, hc, fun ks pm z => hkw (f, ks, pm) z rfl⟩
  · rw [Gx.add_ne G g q] at e
    obtain ⟨fa', fd', ps', h1, h2, h3, h4, h5, h6⟩ := T.fns f h e
    exact ⟨fa', fd', ps', h1, h2, h3, h4, h5.mono (Nat.le_succ k), h6⟩
theorem kb_of {x qual : Str} {st : Stmt} {f : Addr} {fd : FuncData} {ps ks : List Str} {pm : List Nat} (F : Fun K x qual st f fd) (h1 : ks.length = pm.length) (h2 : ps.length = pm.length) (h3 : ∀ i ∈ pm, i < ks.length)
    (h : ∀ (kV doc pmv : Value) (an : Option Addr) (cdv ct : Value) (ws : List Value), ws.length = ks.length → bindArgs (PySem.W.fnOf x qual (defArgs st) (defBody st) (defScope st) .none kV doc pmv an cdv ct) ⟨[], ks.zip ws⟩ = pure (ps.zip (pm.map fun i => ws.getD i .none))) : KB K fd ps ks pm := by
  obtain ⟨oc, od, kV, doc, pmv, an, cdv, ct, osl, rfl, _, _⟩ := F.ex
  exact ⟨h1, h2, h3, fun s ws _ hl => .of_eq (h kV doc pmv an cdv ct ws hl)⟩
/-- the names of a def's scope, looked at -/
def scopeOk (N ps : List Str) (sc : Scope) : Bool :=
  isFn sc && (!sc.isCoroutine && (!sc.isGenerator && (decide N.Nodup && (decide (N.take ps.length = ps) && (ps.all (fun x => visB sc x && !(sc.names.lookup x == some .free)) && sc.names.all fun y => !(y.2 == .free))))))
theorem fnS_by {N ps : List Str} {sc : Scope} (h : scopeOk N ps sc = true) : FnScope N ps sc := by
  unfold scopeOk at h
  simp only [Bool.and_eq_true, Bool.not_eq_true', decide_eq_true_eq, List.all_eq_true] at h
  obtain ⟨h1, h2, h3, h4, h5, h6, h7⟩ := h
  refine ⟨isFn_eq h1, h2, h3, h4, h5, fun x hx => ?_, fun y hy e => ?_⟩
  · obtain ⟨a, b⟩ := h6 x hx
    obtain ⟨_, v⟩ := vis_of a
    rcases v with v | v | v
    · exact .inl v
    · exact .inr v
    · rw [v] at b; simp at b
  · have := h7 y hy
    rw [e] at this; simp at this
end
end Dx

namespace Dx
open PySem PySem.Spec PyProof.Rows L2
/-! ## What trees answer: rows for simp -/
@[simp] theorem rd_dat (d : PyData) : (R.dat d).d = d := rfl
@[simp] theorem rd_frs (ds : List PyData) : (R.frs ds).d = .list ds := rfl
@[simp] theorem tru_non : truD .none = some false := rfl
@[simp] theorem tru_bl (b : Bool) : truD (.bool b) = some b := rfl
@[simp] theorem tru_int (i : Int) : truD (.int i) = some (i != 0) := rfl
@[simp] theorem tru_lst (xs : List PyData) : truD (.list xs) = some (!xs.isEmpty) := rfl
@[simp] theorem tru_tup (xs : List PyData) : truD (.tuple xs) = some (!xs.isEmpty) := rfl
@[simp] theorem cmp_lt (i j : Int) : cmpD .Lt (.int i) (.int j) = some (decide (i < j)) := rfl
@[simp] theorem cmp_le (i j : Int) : cmpD .LtE (.int i) (.int j) = some (decide (i ≤ j)) := rfl
@[simp] theorem cmp_gt (i j : Int) : cmpD .Gt (.int i) (.int j) = some (decide (j < i)) := rfl
@[simp] theorem cmp_ge (i j : Int) : cmpD .GtE (.int i) (.int j) = some (decide (j ≤ i)) := rfl
@[simp] theorem okD_int (i : Int) : okD (.int i) = true := rfl
@[simp] theorem okD_str (x : Str) : okD (.str x) = true := rfl
@[simp] theorem okD_none : okD .none = true := rfl
@[simp] theorem okD_bool (b : Bool) : okD (.bool b) = true := by cases b <;> rfl
@[simp] theorem eqv_int (i j : Int) : PyData.eqv (.int i) (.int j) = decide (i = j) := by
  first | rfl | (unfold PyData.eqv; simp)
theorem cmp_eq {x y : PyData} (h1 : okD x = true) (h2 : okD y = true) : cmpD .Eq x y = some (PyData.eqv x y) := by
  show (if okD x && okD y then _ else _) = _
  rw [h1, h2]; rfl
theorem cmp_ne {x y : PyData} (h1 : okD x = true) (h2 : okD y = true) : cmpD .NotEq x y = some (!PyData.eqv x y) := by
  show (if okD x && okD y then _ else _) = _
  rw [h1, h2]; rfl
@[simp] theorem cmp_eqI (i j : Int) : cmpD .Eq (.int i) (.int j) = some (decide (i = j)) := by rw [cmp_eq (okD_int i) (okD_int j), eqv_int]
@[simp] theorem cmp_neI (i j : Int) : cmpD .NotEq (.int i) (.int j) = some (!decide (i = j)) := by rw [cmp_ne (okD_int i) (okD_int j), eqv_int]
def isNon : PyData → Bool
  | .none => true
  | _ => false
@[simp] theorem cmp_is (x : PyData) : cmpD .Is x .none = some (isNon x) := by cases x <;> rfl
@[simp] theorem cmp_isn (x : PyData) : cmpD .IsNot x .none = some (!isNon x) := by cases x <;> rfl
@[simp] theorem isNon_none : isNon .none = true := rfl
@[simp] theorem isNon_int (i : Int) : isNon (.int i) = false := rfl
@[simp] theorem isNon_tup (i : List PyData) : isNon (.tuple i) = false := rfl
@[simp] theorem bin_add (i j : Int) : binD .Add (.int i) (.int j) = some (.dat (.int (i + j))) := rfl
@[simp] theorem bin_sub (i j : Int) : binD .Sub (.int i) (.int j) = some (.dat (.int (i - j))) := rfl
theorem bin_mul {i j : Int} (h1 : small i = true) (h2 : small j = true) : binD .Mult (.int i) (.int j) = some (.dat (.int (i * j))) := by
  show (if small i && small j then _ else _) = _
  rw [h1, h2]; rfl
theorem bin_div {i j : Int} (h1 : 0 < j) (h2 : small j = true) : binD .FloorDiv (.int i) (.int j) = some (.dat (.int (i / j))) := by
  show (if decide (0 < j) && small j then _ else _) = _
  rw [decide_eq_true h1, h2]; rfl
theorem bin_mod {i j : Int} (h1 : 0 < j) : binD .Mod (.int i) (.int j) = some (.dat (.int (i % j))) := if_pos h1
theorem bin_cat {xs ys : List PyData} (h : xs.length + ys.length ≤ sizeLine) : binD .Add (.list xs) (.list ys) = some (.frs (xs ++ ys)) := if_pos h
theorem bin_catT {xs ys : List PyData} (h : xs.length + ys.length ≤ sizeLine) : binD .Add (.tuple xs) (.tuple ys) = some (.dat (.tuple (xs ++ ys))) := if_pos h
theorem bin_rep {xs : List PyData} {k : Int} (h1 : 0 ≤ k) (h2 : k ≤ 1000) (h3 : xs.length ≤ 1000) : binD .Mult (.tuple xs) (.int k) = some (.dat (.tuple (List.replicate k.toNat xs).flatten)) := if_pos ⟨h1, h2, h3⟩
theorem small_of {i : Int} {n : Nat} (h : -(2 ^ n : Int) < i) (h' : i < 2 ^ n) (hn : n ≤ 4000) : small i = true := by
  refine decide_eq_true ?_
  have : (i.natAbs : Int) < 2 ^ n := by omega
  have h2 : i.natAbs < 2 ^ n := by exact_mod_cast this
  exact Nat.lt_of_lt_of_le h2 (Nat.pow_le_pow_right (by decide) hn)
@[simp] theorem bl_lenL (xs : List PyData) : bltD "len" [.list xs] = some (.dat (.int xs.length)) := rfl
@[simp] theorem bl_lenT (xs : List PyData) : bltD "len" [.tuple xs] = some (.dat (.int xs.length)) := rfl
@[simp] theorem bl_abs (i : Int) : bltD "abs" [.int i] = some (.dat (.int (if i < 0 then -i else i))) := rfl
@[simp] theorem bl_int (i : Int) : bltD "int" [.int i] = some (.dat (.int i)) := rfl
@[simp] theorem bl_max (i j : Int) : bltD "max" [.int i, .int j] = some (.dat (.int (if j > i then j else i))) := rfl
@[simp] theorem bl_min (i j : Int) : bltD "min" [.int i, .int j] = some (.dat (.int (if j < i then j else i))) := rfl
@[simp] theorem bl_gcd (i j : Int) : bltD "gcd" [.int i, .int j] = some (.dat (.int ((Nat.gcd i.natAbs j.natAbs : Nat) : Int))) := rfl
@[simp] theorem bl_listL (xs : List PyData) : bltD "list" [.list xs] = some (.frs xs) := rfl
@[simp] theorem bl_listT (xs : List PyData) : bltD "list" [.tuple xs] = some (.frs xs) := rfl
@[simp] theorem bl_tupL (xs : List PyData) : bltD "tuple" [.list xs] = some (.dat (.tuple xs)) := rfl
@[simp] theorem bl_tupT (xs : List PyData) : bltD "tuple" [.tuple xs] = some (.dat (.tuple xs)) := rfl
@[simp] theorem bl_all (xs : List PyData) : bltD "all" [.list xs] = (allBl xs).map fun bs => .dat (.bool (bs.all id)) := rfl
@[simp] theorem bl_any (xs : List PyData) : bltD "any" [.list xs] = (allBl xs).map fun bs => .dat (.bool (bs.any id)) := rfl
@[simp] theorem bl_sum (xs : List PyData) : bltD "sum" [.list xs] = (allInt xs).map fun bs => .dat (.int bs.sum) := rfl
theorem bl_repr {d : PyData} (h : reprOk d = true) : bltD "repr" [d] = some (.dat (.str d.shown)) := by
  show (if reprOk d then _ else _) = _
  rw [if_pos h]
theorem allBl_map (bs : List Bool) : allBl (bs.map PyData.bool) = some bs := by
  induction bs with
  | nil => rfl
  | cons b bs ih => simp [allBl, ih]
@[simp] theorem late_none (x : PyData) (ρ : Env1) : late none x ρ = some x := rfl
@[simp] theorem late_some (i : Nat) (x : PyData) (ρ : Env1) : late (some i) x ρ = getD ρ i := rfl
@[simp] theorem eOr_some (f : Env1 → Option (R × Env1)) (i : Nat) (ρ : Env1) : eOr f (some i) ρ = (getD ρ i).map fun d => (d, ρ) := rfl
@[simp] theorem eOr_none (f : Env1 → Option (R × Env1)) (ρ : Env1) : eOr f none ρ = (f ρ).map fun p => (p.1.d, p.2) := rfl
@[simp] theorem idx_L (xs : List PyData) (i : Int) : idxD (.list xs) (.int i) = atI xs i := rfl
@[simp] theorem idx_T (xs : List PyData) (i : Int) : idxD (.tuple xs) (.int i) = atI xs i := rfl
@[simp] theorem at2_0 (a b : PyData) : atI [a, b] 0 = some a := rfl
@[simp] theorem at2_1 (a b : PyData) : atI [a, b] 1 = some b := rfl
@[simp] theorem ix2_0 : ixN 2 0 = some 0 := rfl
@[simp] theorem ix2_1 : ixN 2 1 = some 1 := rfl
@[simp] theorem sl_L (xs : List PyData) (lo hi : Option Int) : slcD (.list xs) lo hi = some (.frs (cutD xs lo hi)) := rfl
@[simp] theorem sl_T (xs : List PyData) (lo hi : Option Int) : slcD (.tuple xs) lo hi = some (.dat (.tuple (cutD xs lo hi))) := rfl
@[simp] theorem seq_L (xs : List PyData) : seqD (.list xs) = some xs := rfl
@[simp] theorem seq_T (xs : List PyData) : seqD (.tuple xs) = some xs := rfl
theorem at_nat {xs : List PyData} {i : Nat} {d : PyData} (h : xs[i]? = some d) : atI xs (i : Int) = some d := atI_nat h
def isNum : PyData → Bool
  | .int _ => true
  | .bool _ => true
  | _ => false
def isBlD : PyData → Bool
  | .bool _ => true
  | _ => false
def isTupD : PyData → Bool
  | .tuple _ => true
  | _ => false
def isLstD : PyData → Bool
  | .list _ => true
  | _ => false
@[simp] theorem isi_int (d : PyData) : isiL d ["int"] = some (isNum d) := by cases d <;> rfl
@[simp] theorem isi_bool (d : PyData) : isiL d ["bool"] = some (isBlD d) := by cases d <;> rfl
@[simp] theorem isi_tup (d : PyData) : isiL d ["tuple"] = some (isTupD d) := by cases d <;> rfl
@[simp] theorem isi_lst (d : PyData) : isiL d ["list"] = some (isLstD d) := by cases d <;> rfl
theorem szE : sizeLine = 16777216 := rfl
end Dx

namespace Dx
open PySem PySem.Spec PyProof.Rows L2
/-! ## Loops and comprehensions at the data -/
section
variable {G : Gx} {pn : List Nat} {wf : Nat}
/-- a comprehension whose parts change nothing: filter and map -/
theorem lcG_fm {vs : List Nat} {ρ0 : Env1} {t : PyData → Env1 → Option Env1} {c e : Env1 → Option (R × Env1)} {p : PyData → Bool} {g : PyData → PyData} : ∀ (xs acc : List PyData),
    (∀ x ∈ xs, ∃ ρ1 k, t x (wipeE ρ0 vs) = some ρ1 ∧ c ρ1 = some (k, ρ1) ∧ truD k.d = some (p x) ∧ (p x = true → ∃ r, e ρ1 = some (r, ρ1) ∧ r.d = g x) ∧ backE ρ0 ρ1 vs = ρ0) → acc.length + xs.length ≤ sizeLine →
    lcG vs ρ0 t c e xs ρ0 acc = some (acc ++ (xs.filter p).map g, ρ0)
  | [], acc, _, _ => by simp [lcG]
  | x :: xs, acc, h, hl => by
    obtain ⟨ρ1, k, h1, h2, h3, h4, h5⟩ := h x List.mem_cons_self
    have ih := fun acc hl => lcG_fm xs acc (fun y hy => h y (List.mem_cons_of_mem _ hy)) hl
    simp only [List.length_cons] at hl
    unfold lcG
    simp only [h1, h2, h3, Option.bind_eq_bind, Option.bind_some]
    cases q : p x with
    | false =>
      simp only [h5]
      rw [ih acc (by omega), List.filter_cons_of_neg (by simp [q])]
    | true =>
      obtain ⟨r, h6, h7⟩ := h4 q
      simp only [h6, Option.bind_some]
      rw [if_pos (by omega), h5, h7, ih (acc ++ [g x]) (by simp; omega), List.filter_cons_of_pos q]
      simp
theorem lcG_map {vs : List Nat} {ρ0 : Env1} {t : PyData → Env1 → Option Env1} {c e : Env1 → Option (R × Env1)} {g : PyData → PyData} (xs acc : List PyData)
    (h : ∀ x ∈ xs, ∃ ρ1 k, t x (wipeE ρ0 vs) = some ρ1 ∧ c ρ1 = some (k, ρ1) ∧ truD k.d = some true ∧ (∃ r, e ρ1 = some (r, ρ1) ∧ r.d = g x) ∧ backE ρ0 ρ1 vs = ρ0) (hl : acc.length + xs.length ≤ sizeLine) :
    lcG vs ρ0 t c e xs ρ0 acc = some (acc ++ xs.map g, ρ0) := by
  have := lcG_fm (p := fun _ => true) (g := g) (vs := vs) (ρ0 := ρ0) (t := t) (c := c) (e := e) xs acc (fun x hx => by
    obtain ⟨ρ1, k, h1, h2, h3, h4, h5⟩ := h x hx
    exact ⟨ρ1, k, h1, h2, h3, fun _ => h4, h5⟩) hl
  rw [List.filter_eq_self.mpr fun _ _ => rfl] at this
  exact this
theorem lc_ev {elt tgt it cnd : I} {vs : List Nat} {ρ ρ1 ρ2 : Env1} {xs acc : List PyData} (h1 : (sm G pn wf it).i ρ = some (xs, ρ1)) (h2 : (vs.all fun v => match ρ1[v]? with | some (some (.own _)) => false | _ => true) = true)
    (h3 : lcG vs ρ1 (sm G pn wf tgt).t (sm G pn wf cnd).e (sm G pn wf elt).e xs ρ1 [] = some (acc, ρ2)) : (sm G pn wf (.lc elt tgt it cnd vs)).e ρ = some (.frs acc, ρ2) := by
  simp only [sm, h1, h3, Option.bind_eq_bind, Option.bind_some]
  exact if_pos h2
theorem for_ev {t it b : I} {ρ ρ1 : Env1} {xs : List PyData} {o : Out} (h1 : (sm G pn wf it).i ρ = some (xs, ρ1)) (h2 : forG (sm G pn wf t).t (sm G pn wf b).s xs ρ1 = some o) : (sm G pn wf (.sfor t it b)).s ρ = some o := by
  simp only [sm, h1, h2, Option.bind_eq_bind, Option.bind_some]
/-- a for whose body goes on each turn, an invariant of what is done and what is left -/
theorem forG_inv {t : PyData → Env1 → Option Env1} {b : Env1 → Option Out} (Pv : List PyData → Env1 → Prop) : ∀ (xs : List PyData) (ρ : Env1), Pv xs ρ →
    (∀ x r ρ, Pv (x :: r) ρ → ∃ ρ1 ρ2, t x ρ = some ρ1 ∧ (b ρ1 = some (.nx ρ2) ∨ b ρ1 = some (.ct ρ2)) ∧ Pv r ρ2) → ∃ ρ', forG t b xs ρ = some (.nx ρ') ∧ Pv [] ρ'
  | [], ρ, h, _ => ⟨ρ, rfl, h⟩
  | x :: r, ρ, h, st => by
    obtain ⟨ρ1, ρ2, h1, h2, h3⟩ := st x r ρ h
    obtain ⟨ρ', h4, h5⟩ := forG_inv Pv r ρ2 h3 st
    refine ⟨ρ', ?_, h5⟩
    unfold forG
    rcases h2 with h2 | h2 <;> simp only [h1, h2, Option.bind_eq_bind, Option.bind_some, h4]
theorem whileG_inv {c : Env1 → Option (R × Env1)} {b : Env1 → Option Out} (Pv : Env1 → Prop) (μ : Env1 → Nat) : ∀ (n : Nat) (ρ : Env1), Pv ρ → μ ρ < n →
    (∀ ρ, Pv ρ → ∃ r ρ1 k, c ρ = some (r, ρ1) ∧ truD r.d = some k ∧ (k = true → ∃ ρ2, (b ρ1 = some (.nx ρ2) ∨ b ρ1 = some (.ct ρ2)) ∧ Pv ρ2 ∧ μ ρ2 < μ ρ)) → ∃ ρ0 r ρ', Pv ρ0 ∧ c ρ0 = some (r, ρ') ∧ truD r.d = some false ∧ whileG c b n ρ = some (.nx ρ')
  | 0, ρ, _, hm, _ => absurd hm (Nat.not_lt_zero _)
  | n + 1, ρ, h, hm, st => by
    obtain ⟨r, ρ1, k, h1, h2, h3⟩ := st ρ h
    cases k with
    | false =>
      refine ⟨ρ, r, ρ1, h, h1, h2, ?_⟩
      unfold whileG
      simp only [h1, h2, Option.bind_eq_bind, Option.bind_some]
    | true =>
      obtain ⟨ρ2, h4, h5, h6⟩ := h3 rfl
      obtain ⟨ρ0, r', ρ', g1, g2, g3, g4⟩ := whileG_inv Pv μ n ρ2 h5 (by omega) st
      refine ⟨ρ0, r', ρ', g1, g2, g3, ?_⟩
      unfold whileG
      rcases h4 with h4 | h4 <;> simp only [h1, h2, h4, Option.bind_eq_bind, Option.bind_some, g4]
/-- a comprehension that draws: an invariant of the slots, what is gathered told by Q -/
theorem lcG_inv {vs : List Nat} {ρ0 : Env1} {t : PyData → Env1 → Option Env1} {c e : Env1 → Option (R × Env1)} (Pv : Env1 → Prop) (Q : PyData → Prop) : ∀ (xs : List PyData) (ρ : Env1) (acc : List PyData), Pv ρ → acc.length + xs.length ≤ sizeLine →
    (∀ x ∈ xs, ∀ ρ, Pv ρ → ∃ ρ1 k ρ2 r ρ3, t x (wipeE ρ vs) = some ρ1 ∧ c ρ1 = some (k, ρ2) ∧ truD k.d = some true ∧ e ρ2 = some (r, ρ3) ∧ Q r.d ∧ Pv (backE ρ0 ρ3 vs)) →
    ∃ ds ρ', lcG vs ρ0 t c e xs ρ acc = some (acc ++ ds, ρ') ∧ ds.length = xs.length ∧ (∀ d ∈ ds, Q d) ∧ Pv ρ'
  | [], ρ, acc, h, _, _ => ⟨[], ρ, by simp [lcG], rfl, fun d hd => (List.not_mem_nil hd).elim, h⟩
  | x :: xs, ρ, acc, h, hl, st => by
    obtain ⟨ρ1, k, ρ2, r, ρ3, h1, h2, h3, h4, h5, h6⟩ := st x List.mem_cons_self ρ h
    simp only [List.length_cons] at hl
    obtain ⟨ds, ρ', g1, g2, g3, g4⟩ := lcG_inv Pv Q xs _ (acc ++ [r.d]) h6 (by simp; omega) fun y hy => st y (List.mem_cons_of_mem _ hy)
    refine ⟨r.d :: ds, ρ', ?_, by simp [g2], fun d hd => ?_, g4⟩
    · unfold lcG
      simp only [h1, h2, h3, h4, Option.bind_eq_bind, Option.bind_some]
      rw [if_pos (by omega), g1]
      simp
    · rcases List.mem_cons.mp hd with rfl | hd
      · exact h5
      · exact g3 d hd
/-- statement by statement -/
theorem ss_nx {s r : I} {ρ ρ1 : Env1} {o : Option Out} (h1 : (sm G pn wf s).s ρ = some (.nx ρ1)) (h2 : (sm G pn wf r).s ρ1 = o) : (sm G pn wf (.scons s r)).s ρ = o := by
  simp only [sm, h1, Option.bind_eq_bind, Option.bind_some, h2]
theorem ss_rt {s r : I} {ρ ρ1 : Env1} {v : R} (h1 : (sm G pn wf s).s ρ = some (.rt v ρ1)) : (sm G pn wf (.scons s r)).s ρ = some (.rt v ρ1) := by
  simp only [sm, h1, Option.bind_eq_bind, Option.bind_some]
/-- a def, by its body's answer -/
theorem fn_rt {N ps : Nat} {b : I} {args out : List Sl} {v : R} {ρ : Env1} (hl : args.length = ps) (h : (sm G (ownsAt args 0) wf b).s (args.map some ++ List.replicate (N - args.length) none) = some (.rt v ρ)) (ho : outs args ρ = some out) : fnS G wf N ps b args = some (v, out) := by
  unfold fnS
  rw [if_pos hl, h]
  simp only [ho, Option.map_some]
end
end Dx

namespace Dx
open PySem PySem.Spec PyProof.Rows L2
/-! ## Data that == and repr take -/
theorem textFrom_up {m : Nat} : ∀ (ts : List Str) (k : Nat) (acc : Str), (∀ t ∈ ts, t.length ≤ m) → (textFrom k acc ts).length ≤ acc.length + ts.length * (m + 2)
  | [], k, acc, _ => by show acc.length ≤ _; omega
  | t :: ts, k, acc, h => by
    have ih := textFrom_up ts (k + 1) (acc ++ (if k > 0 then ", " else "" : String) ++ t) fun u hu => h u (List.mem_cons_of_mem _ hu)
    have ht := h t List.mem_cons_self
    have e : ((if k > 0 then ", " else "" : String) : Str).length ≤ 2 := by split <;> decide
    rw [strLen_append, strLen_append] at ih
    show (textFrom (k + 1) (acc ++ (if k > 0 then ", " else "" : String) ++ t) ts).length ≤ _
    rw [List.length_cons, Nat.add_mul]
    omega
theorem listText_up {m : Nat} {ts : List Str} (h : ∀ t ∈ ts, t.length ≤ m) : (listText ts).length ≤ ts.length * (m + 2) + 3 := by
  unfold listText
  have := textFrom_up ts 0 (("[" : String) : Str) h
  have e1 : ((("[" : String) : Str)).length = 1 := rfl
  have e2 : ((("]" : String) : Str)).length = 1 := rfl
  rw [strLen_append]
  omega
theorem join_up {m : Nat} : ∀ {ts : List Str}, (∀ t ∈ ts, t.length ≤ m) → (Str.join ", " ts).length ≤ ts.length * (m + 2)
  | [], _ => Nat.zero_le _
  | [x], h => by
    have := h x List.mem_cons_self
    show x.length ≤ _
    simp; omega
  | x :: y :: r, h => by
    have ih := join_up (ts := y :: r) fun t ht => h t (List.mem_cons_of_mem _ ht)
    have hx := h x List.mem_cons_self
    have e2 : ((", " : String) : Str).length = 2 := rfl
    show (x ++ ", " ++ Str.join ", " (y :: r)).length ≤ _
    rw [strLen_append, strLen_append, List.length_cons, Nat.add_mul]
    omega
theorem tupText_up {m : Nat} {ts : List Str} (h : ∀ t ∈ ts, t.length ≤ m) : (tupleText ts).length ≤ ts.length * (m + 2) + 3 := by
  unfold tupleText
  have := join_up h
  have e1 : ((("(" : String) : Str)).length = 1 := rfl
  have e3 : (((if ts.length == 1 then ",)" else ")" : String) : Str)).length ≤ 2 := by split <;> decide
  rw [strLen_append, strLen_append]
  omega
theorem shownAll_map : ∀ xs : List PyData, PyData.shownAll xs = xs.map PyData.shown
  | [] => by simp [PyData.shownAll]
  | x :: xs => by simp [PyData.shownAll, shownAll_map xs]
theorem plainAll_all : ∀ xs : List PyData, PyData.plainAll xs = xs.all PyData.plain
  | [] => by simp [PyData.plainAll]
  | x :: xs => by simp [PyData.plainAll, plainAll_all xs]
theorem showableAll_all : ∀ xs : List PyData, PyData.showableAll xs = xs.all PyData.showable
  | [] => by simp [PyData.showableAll]
  | x :: xs => by simp [PyData.showableAll, showableAll_all xs]
theorem depthAll_le {k : Nat} : ∀ {xs : List PyData}, (∀ x ∈ xs, x.depth ≤ k) → PyData.depthAll xs ≤ k
  | [], _ => by simp [PyData.depthAll]
  | x :: xs, h => by
    have := depthAll_le (k := k) fun y hy => h y (List.mem_cons_of_mem _ hy)
    have := h x List.mem_cons_self
    rw [PyData.depthAll]
    omega
/-- not deeper than k, its text not longer than m -/
structure Nice (k m : Nat) (d : PyData) : Prop where
  plain : d.plain = true
  depth : d.depth ≤ k
  shows : d.showable = true
  len : d.shown.length ≤ m
section
variable {k m : Nat} {d : PyData} {xs : List PyData}
theorem Nice.mono {k' m' : Nat} (h : Nice k m d) (hk : k ≤ k') (hm : m ≤ m') : Nice k' m' d := ⟨h.plain, Nat.le_trans h.depth hk, h.shows, Nat.le_trans h.len hm⟩
theorem Nice.ok (h : Nice k m d) (hk : k ≤ 64) : okD d = true := by
  unfold okD
  rw [h.plain, decide_eq_true (Nat.le_trans h.depth hk)]; rfl
theorem Nice.repr (h : Nice k m d) (hk : k ≤ 64) (hm : m ≤ sizeLine) : reprOk d = true := by
  unfold reprOk
  rw [h.plain, h.shows, decide_eq_true (Nat.le_trans h.depth hk), decide_eq_true (Nat.le_trans h.len hm)]; rfl
theorem Nice.none : Nice 0 4 .none := ⟨rfl, Nat.le_refl _, rfl, by rw [PyData.shown]; decide⟩
theorem Nice.bool (b : Bool) : Nice 0 5 (.bool b) := ⟨rfl, Nat.le_refl _, rfl, by rw [PyData.shown]; cases b <;> decide⟩
theorem Nice.int {i : Int} {n : Nat} (h : i.natAbs < 2 ^ n) (h0 : 0 < n) (hn : n ≤ 1920) : Nice 0 (n + 1) (.int i) := by
  have hl : i.natAbs.log2 < n := PySem.Flt.log2_lt_of h0 h
  refine ⟨rfl, Nat.le_refl _, ?_, ?_⟩
  · rw [PyData.showable]
    exact decide_eq_true (by omega)
  · rw [PyData.shown]
    have := int_text_length_le h0 hl
    have e : (Str.ofString (toString i)).length = (toString i).length := by
      exact PySem.ofString_length _
    omega
theorem Nice.str {x : Str} (h : (reprText x).length ≤ m) : Nice 0 m (.str x) := ⟨rfl, Nat.le_refl _, rfl, by rw [PyData.shown]; exact h⟩
theorem Nice.list (h : ∀ x ∈ xs, Nice k m x) : Nice (k + 1) (xs.length * (m + 2) + 3) (.list xs) := by
  refine ⟨?_, ?_, ?_, ?_⟩
  · rw [PyData.plain, plainAll_all]; exact List.all_eq_true.mpr fun x hx => (h x hx).plain
  · rw [PyData.depth]; have := depthAll_le fun x hx => (h x hx).depth; omega
  · rw [PyData.showable, showableAll_all]; exact List.all_eq_true.mpr fun x hx => (h x hx).shows
  · rw [PyData.shown, shownAll_map]
    have := listText_up (m := m) (ts := xs.map PyData.shown) fun t ht => by
      obtain ⟨x, hx, rfl⟩ := List.mem_map.mp ht
      exact (h x hx).len
    rwa [List.length_map] at this
theorem Nice.tup (h : ∀ x ∈ xs, Nice k m x) : Nice (k + 1) (xs.length * (m + 2) + 3) (.tuple xs) := by
  refine ⟨?_, ?_, ?_, ?_⟩
  · rw [PyData.plain, plainAll_all]; exact List.all_eq_true.mpr fun x hx => (h x hx).plain
  · rw [PyData.depth]; have := depthAll_le fun x hx => (h x hx).depth; omega
  · rw [PyData.showable, showableAll_all]; exact List.all_eq_true.mpr fun x hx => (h x hx).shows
  · rw [PyData.shown, shownAll_map]
    have := tupText_up (m := m) (ts := xs.map PyData.shown) fun t ht => by
      obtain ⟨x, hx, rfl⟩ := List.mem_map.mp ht
      exact (h x hx).len
    rwa [List.length_map] at this
end
end Dx

namespace k81
open PySem PySem.Spec PyProof.Rows L2 Dx
def tp (i : Nat) : Stmt := PySem.Challenge.pw_laterthen_k81_any_value_as_a_polynomial.main.body.getD i (.Pass ⟨0, 0, 0, 0⟩)
def wfuel : Nat := 2 ^ 5000
def fnsAll : List (Str × List Str) :=
  ("is_integer", (["value"] : List Str)) ::
  ("is_within", (["value", "least", "most"] : List Str)) ::
  ("is_tuple", (["value", "many"] : List Str)) ::
  ("fraction", (["top", "bottom"] : List Str)) ::
  ("is_less", (["one", "other"] : List Str)) ::
  ("is_fraction_any", (["value"] : List Str)) ::
  ("is_polynomial_any", (["value"] : List Str)) ::
  ("want_poly", (["poly"] : List Str)) ::
  ("want_point", (["point"] : List Str)) ::
  ("terms_of", (["poly"] : List Str)) ::
  ("term_at", (["poly", "at", "point"] : List Str)) ::
  ("value_of", (["poly", "point"] : List Str)) ::
  ("is_polynomial", (["value"] : List Str)) ::
  ("value_at", (["poly", "point"] : List Str)) ::
  ("_law_pot", (["script", "k"] : List Str)) ::
  ("_law_draw", (["pot", "many"] : List Str)) ::
  ("_law_pick", (["pot", "some"] : List Str)) ::
  ("_law_low", (["top", "bottom"] : List Str)) ::
  ("_law_is_less", (["one", "other"] : List Str)) ::
  ("_law_plus", (["one", "other"] : List Str)) ::
  ("_law_value", (["poly", "point"] : List Str)) ::
  ("_law_poly", (["pot", "most"] : List Str)) ::
  ("_law_point", (["pot"] : List Str)) ::
  ("_law_is_poly", (["value"] : List Str)) ::
  ("_law_bent", (["pot", "value"] : List Str)) ::
  ("_law_right", (["pot"] : List Str)) ::
  ("law", (["script"] : List Str)) ::
  []
def kwAll : List (Str × List Str × List Nat) := [("value_at", ["point", "poly"], [1, 0]), ("is_polynomial", ["value"], [0])]
def cc (N : List Str) (mv : List Nat) (n : Nat) : Cc := ⟨N, mv, fnsAll.take n, ["MOST_TIME", "MOST_TERMS", "MOST_COEFFICIENT"], true, kwAll⟩
def consF (x : Str) : Option PyData := if x = "MOST_TIME" then some (.int (1000000000)) else if x = "MOST_TERMS" then some (.int (13)) else if x = "MOST_COEFFICIENT" then some (.int (1000000)) else none
def g0 : Gx := ⟨fun _ => none, consF, kwAll⟩
def i_is_integer : I := (.scons (.sret (.and (.isi (.var 0) ["int"]) (.inot (.isi (.var 0) ["bool"])))) .snil)
def f_is_integer : Fn := fnS g0 wfuel 1 1 i_is_integer
def g1 : Gx := g0.add "is_integer" ⟨[false], f_is_integer⟩
theorem c_is_integer : stG (cS (cc ["value"] [] 0) 40 (defScope (tp 2)) 20) (defBody (tp 2)) = some i_is_integer := by decide +kernel
theorem s_is_integer : FnScope ["value"] ["value"] (defScope (tp 2)) := fnS_by (by decide +kernel)
def i_is_within : I := (.scons (.sret (.and (.call "is_integer" (.cons (.var 0) .nil) []) (.cmp2 .LtE .LtE (.var 1) (.var 0) (.var 2)))) .snil)
theorem q1_is_integer : g1.fns "is_integer" = some ⟨[false], f_is_integer⟩ := Gx.add_at _ _ _
def f_is_within : Fn := fnS g1 wfuel 3 3 i_is_within
def g2 : Gx := g1.add "is_within" ⟨[false, false, false], f_is_within⟩
theorem c_is_within : stG (cS (cc ["value", "least", "most"] [] 1) 40 (defScope (tp 3)) 20) (defBody (tp 3)) = some i_is_within := by decide +kernel
theorem s_is_within : FnScope ["value", "least", "most"] ["value", "least", "most"] (defScope (tp 3)) := fnS_by (by decide +kernel)
def i_is_tuple : I := (.scons (.sret (.and (.isi (.var 0) ["tuple"]) (.cmp .Eq (.blt "len" (.cons (.var 0) .nil)) (.var 1)))) .snil)
def f_is_tuple : Fn := fnS g2 wfuel 2 2 i_is_tuple
def g3 : Gx := g2.add "is_tuple" ⟨[false, false], f_is_tuple⟩
theorem c_is_tuple : stG (cS (cc ["value", "many"] [] 2) 40 (defScope (tp 4)) 20) (defBody (tp 4)) = some i_is_tuple := by decide +kernel
theorem s_is_tuple : FnScope ["value", "many"] ["value", "many"] (defScope (tp 4)) := fnS_by (by decide +kernel)
def i_fraction : I := (.scons (.sset 2 (.ite (.cmp .Gt (.var 1) (.int (0))) (.int (1)) (.neg (.int (1))))) (.scons (.sset 3 (.blt "gcd" (.cons (.var 0) (.cons (.var 1) .nil)))) (.scons (.sret (.tup (.cons (.bin .FloorDiv (.bin .Mult (.var 2) (.var 0)) (.var 3)) (.cons (.bin .FloorDiv (.bin .Mult (.var 2) (.var 1)) (.var 3)) .nil)))) .snil)))
def f_fraction : Fn := fnS g3 wfuel 4 2 i_fraction
def g4 : Gx := g3.add "fraction" ⟨[false, false], f_fraction⟩
theorem c_fraction : stG (cS (cc ["top", "bottom", "sign", "common"] [] 3) 40 (defScope (tp 11)) 20) (defBody (tp 11)) = some i_fraction := by decide +kernel
theorem s_fraction : FnScope ["top", "bottom", "sign", "common"] ["top", "bottom"] (defScope (tp 11)) := fnS_by (by decide +kernel)
def i_is_less : I := (.scons (.sret (.cmp .Lt (.bin .Mult (.idx (.var 0) (.int (0))) (.idx (.var 1) (.int (1)))) (.bin .Mult (.idx (.var 1) (.int (0))) (.idx (.var 0) (.int (1)))))) .snil)
def f_is_less : Fn := fnS g4 wfuel 2 2 i_is_less
def g5 : Gx := g4.add "is_less" ⟨[false, false], f_is_less⟩
theorem c_is_less : stG (cS (cc ["one", "other"] [] 4) 40 (defScope (tp 12)) 20) (defBody (tp 12)) = some i_is_less := by decide +kernel
theorem s_is_less : FnScope ["one", "other"] ["one", "other"] (defScope (tp 12)) := fnS_by (by decide +kernel)
def i_is_fraction_any : I := (.scons (.sif (.or (.inot (.call "is_tuple" (.cons (.var 0) (.cons (.int (2)) .nil)) [])) (.inot (.call "is_within" (.cons (.idx (.var 0) (.int (0))) (.cons (.bin .Sub (.int (1)) (.con "MOST_TIME")) (.cons (.bin .Sub (.con "MOST_TIME") (.int (1))) .nil))) []))) (.scons (.sret (.bl false)) .snil) .snil) (.scons (.sret (.and (.call "is_within" (.cons (.idx (.var 0) (.int (1))) (.cons (.int (1)) (.cons (.bin .Sub (.con "MOST_TIME") (.int (1))) .nil))) []) (.cmp .Eq (.blt "gcd" (.cons (.idx (.var 0) (.int (0))) (.cons (.idx (.var 0) (.int (1))) .nil))) (.int (1))))) .snil))
theorem q3_is_tuple : g3.fns "is_tuple" = some ⟨[false, false], f_is_tuple⟩ := Gx.add_at _ _ _
theorem q4_is_tuple : g4.fns "is_tuple" = some ⟨[false, false], f_is_tuple⟩ := (Gx.add_ne g3 _ (by decide)).trans q3_is_tuple
theorem q5_is_tuple : g5.fns "is_tuple" = some ⟨[false, false], f_is_tuple⟩ := (Gx.add_ne g4 _ (by decide)).trans q4_is_tuple
theorem q2_is_within : g2.fns "is_within" = some ⟨[false, false, false], f_is_within⟩ := Gx.add_at _ _ _
theorem q3_is_within : g3.fns "is_within" = some ⟨[false, false, false], f_is_within⟩ := (Gx.add_ne g2 _ (by decide)).trans q2_is_within
theorem q4_is_within : g4.fns "is_within" = some ⟨[false, false, false], f_is_within⟩ := (Gx.add_ne g3 _ (by decide)).trans q3_is_within
theorem q5_is_within : g5.fns "is_within" = some ⟨[false, false, false], f_is_within⟩ := (Gx.add_ne g4 _ (by decide)).trans q4_is_within
theorem k5_MOST_TIME : g5.cons "MOST_TIME" = some (.int (1000000000)) := rfl
def f_is_fraction_any : Fn := fnS g5 wfuel 1 1 i_is_fraction_any
def g6 : Gx := g5.add "is_fraction_any" ⟨[false], f_is_fraction_any⟩
theorem c_is_fraction_any : stG (cS (cc ["value"] [] 5) 40 (defScope (tp 13)) 20) (defBody (tp 13)) = some i_is_fraction_any := by decide +kernel
theorem s_is_fraction_any : FnScope ["value"] ["value"] (defScope (tp 13)) := fnS_by (by decide +kernel)
def i_is_polynomial_any_c0e : I := (.or (.cmp .Is (.var 1) .non) (.call "is_within" (.cons (.var 1) (.cons (.neg (.con "MOST_COEFFICIENT")) (.cons (.con "MOST_COEFFICIENT") .nil))) []))
def i_is_polynomial_any_c0 : I := (.lc i_is_polynomial_any_c0e (.tnm 1) (.iv (.var 0)) (.bl true) [1])
def i_is_polynomial_any_c1e : I := (.cmp .IsNot (.var 1) .non)
def i_is_polynomial_any_c1 : I := (.lc i_is_polynomial_any_c1e (.tnm 1) (.iv (.var 0)) (.bl true) [1])
def i_is_polynomial_any : I := (.scons (.sif (.or (.inot (.isi (.var 0) ["tuple"])) (.inot (.cmp2 .LtE .LtE (.int (1)) (.blt "len" (.cons (.var 0) .nil)) (.con "MOST_TERMS")))) (.scons (.sret (.bl false)) .snil) .snil) (.scons (.sif (.inot (.blt "all" (.cons i_is_polynomial_any_c0 .nil))) (.scons (.sret (.bl false)) .snil) .snil) (.scons (.sret (.blt "any" (.cons i_is_polynomial_any_c1 .nil))) .snil)))
theorem q6_is_within : g6.fns "is_within" = some ⟨[false, false, false], f_is_within⟩ := (Gx.add_ne g5 _ (by decide)).trans q5_is_within
theorem k6_MOST_COEFFICIENT : g6.cons "MOST_COEFFICIENT" = some (.int (1000000)) := rfl
theorem k6_MOST_TERMS : g6.cons "MOST_TERMS" = some (.int (13)) := rfl
def f_is_polynomial_any : Fn := fnS g6 wfuel 2 1 i_is_polynomial_any
def g7 : Gx := g6.add "is_polynomial_any" ⟨[false], f_is_polynomial_any⟩
theorem c_is_polynomial_any : stG (cS (cc ["value", "one"] [] 6) 40 (defScope (tp 17)) 20) (defBody (tp 17)) = some i_is_polynomial_any := by decide +kernel
theorem s_is_polynomial_any : FnScope ["value", "one"] ["value"] (defScope (tp 17)) := fnS_by (by decide +kernel)
def i_want_poly : I := (.scons (.sif (.inot (.call "is_polynomial_any" (.cons (.var 0) .nil) [])) (.scons .sno .snil) .snil) .snil)
theorem q7_is_polynomial_any : g7.fns "is_polynomial_any" = some ⟨[false], f_is_polynomial_any⟩ := Gx.add_at _ _ _
def f_want_poly : Fn := fnS g7 wfuel 1 1 i_want_poly
def g8 : Gx := g7.add "want_poly" ⟨[false], f_want_poly⟩
theorem c_want_poly : stG (cS (cc ["poly"] [] 7) 40 (defScope (tp 18)) 20) (defBody (tp 18)) = some i_want_poly := by decide +kernel
theorem s_want_poly : FnScope ["poly"] ["poly"] (defScope (tp 18)) := fnS_by (by decide +kernel)
def i_want_point : I := (.scons (.sif (.inot (.call "is_fraction_any" (.cons (.var 0) .nil) [])) (.scons .sno .snil) .snil) .snil)
theorem q6_is_fraction_any : g6.fns "is_fraction_any" = some ⟨[false], f_is_fraction_any⟩ := Gx.add_at _ _ _
theorem q7_is_fraction_any : g7.fns "is_fraction_any" = some ⟨[false], f_is_fraction_any⟩ := (Gx.add_ne g6 _ (by decide)).trans q6_is_fraction_any
theorem q8_is_fraction_any : g8.fns "is_fraction_any" = some ⟨[false], f_is_fraction_any⟩ := (Gx.add_ne g7 _ (by decide)).trans q7_is_fraction_any
def f_want_point : Fn := fnS g8 wfuel 1 1 i_want_point
def g9 : Gx := g8.add "want_point" ⟨[false], f_want_point⟩
theorem c_want_point : stG (cS (cc ["point"] [] 8) 40 (defScope (tp 19)) 20) (defBody (tp 19)) = some i_want_point := by decide +kernel
theorem s_want_point : FnScope ["point"] ["point"] (defScope (tp 19)) := fnS_by (by decide +kernel)
def i_terms_of_c0e : I := (.var 1)
def i_terms_of_c0q : I := (.cmp .IsNot (.var 2) .non)
def i_terms_of_c0 : I := (.lc i_terms_of_c0e (.ttp (.cons (.tnm 1) (.cons (.tnm 2) .nil))) (.ien (.var 0)) i_terms_of_c0q [1, 2])
def i_terms_of : I := (.scons (.sret i_terms_of_c0) .snil)
def f_terms_of : Fn := fnS g9 wfuel 3 1 i_terms_of
def g10 : Gx := g9.add "terms_of" ⟨[false], f_terms_of⟩
theorem c_terms_of : stG (cS (cc ["poly", "at", "one"] [] 9) 40 (defScope (tp 20)) 20) (defBody (tp 20)) = some i_terms_of := by decide +kernel
theorem s_terms_of : FnScope ["poly", "at", "one"] ["poly"] (defScope (tp 20)) := fnS_by (by decide +kernel)
def i_term_at : I := (.scons (.sret (.call "fraction" (.cons (.bin .Add (.bin .Mult (.idx (.var 0) (.var 1)) (.idx (.var 2) (.int (1)))) (.bin .Mult (.var 1) (.idx (.var 2) (.int (0))))) (.cons (.idx (.var 2) (.int (1))) .nil)) [])) .snil)
theorem q4_fraction : g4.fns "fraction" = some ⟨[false, false], f_fraction⟩ := Gx.add_at _ _ _
theorem q5_fraction : g5.fns "fraction" = some ⟨[false, false], f_fraction⟩ := (Gx.add_ne g4 _ (by decide)).trans q4_fraction
theorem q6_fraction : g6.fns "fraction" = some ⟨[false, false], f_fraction⟩ := (Gx.add_ne g5 _ (by decide)).trans q5_fraction
theorem q7_fraction : g7.fns "fraction" = some ⟨[false, false], f_fraction⟩ := (Gx.add_ne g6 _ (by decide)).trans q6_fraction
theorem q8_fraction : g8.fns "fraction" = some ⟨[false, false], f_fraction⟩ := (Gx.add_ne g7 _ (by decide)).trans q7_fraction
theorem q9_fraction : g9.fns "fraction" = some ⟨[false, false], f_fraction⟩ := (Gx.add_ne g8 _ (by decide)).trans q8_fraction
theorem q10_fraction : g10.fns "fraction" = some ⟨[false, false], f_fraction⟩ := (Gx.add_ne g9 _ (by decide)).trans q9_fraction
def f_term_at : Fn := fnS g10 wfuel 3 3 i_term_at
def g11 : Gx := g10.add "term_at" ⟨[false, false, false], f_term_at⟩
theorem c_term_at : stG (cS (cc ["poly", "at", "point"] [] 10) 40 (defScope (tp 21)) 20) (defBody (tp 21)) = some i_term_at := by decide +kernel
theorem s_term_at : FnScope ["poly", "at", "point"] ["poly", "at", "point"] (defScope (tp 21)) := fnS_by (by decide +kernel)
def i_value_of_w0b : I := (.scons (.sset 4 (.call "term_at" (.cons (.var 0) (.cons (.var 3) (.cons (.var 1) .nil))) [])) (.scons (.sset 2 (.ite (.or (.cmp .Is (.var 2) .non) (.call "is_less" (.cons (.var 2) (.cons (.var 4) .nil)) [])) (.var 4) (.var 2))) .snil))
def i_value_of_w0 : I := (.sfor (.tnm 3) (.iv (.call "terms_of" (.cons (.var 0) .nil) [])) i_value_of_w0b)
def i_value_of : I := (.scons (.sset 2 .non) (.scons i_value_of_w0 (.scons (.sretv 2) .snil)))
theorem q5_is_less : g5.fns "is_less" = some ⟨[false, false], f_is_less⟩ := Gx.add_at _ _ _
theorem q6_is_less : g6.fns "is_less" = some ⟨[false, false], f_is_less⟩ := (Gx.add_ne g5 _ (by decide)).trans q5_is_less
theorem q7_is_less : g7.fns "is_less" = some ⟨[false, false], f_is_less⟩ := (Gx.add_ne g6 _ (by decide)).trans q6_is_less
theorem q8_is_less : g8.fns "is_less" = some ⟨[false, false], f_is_less⟩ := (Gx.add_ne g7 _ (by decide)).trans q7_is_less
theorem q9_is_less : g9.fns "is_less" = some ⟨[false, false], f_is_less⟩ := (Gx.add_ne g8 _ (by decide)).trans q8_is_less
theorem q10_is_less : g10.fns "is_less" = some ⟨[false, false], f_is_less⟩ := (Gx.add_ne g9 _ (by decide)).trans q9_is_less
theorem q11_is_less : g11.fns "is_less" = some ⟨[false, false], f_is_less⟩ := (Gx.add_ne g10 _ (by decide)).trans q10_is_less
theorem q11_term_at : g11.fns "term_at" = some ⟨[false, false, false], f_term_at⟩ := Gx.add_at _ _ _
theorem q10_terms_of : g10.fns "terms_of" = some ⟨[false], f_terms_of⟩ := Gx.add_at _ _ _
theorem q11_terms_of : g11.fns "terms_of" = some ⟨[false], f_terms_of⟩ := (Gx.add_ne g10 _ (by decide)).trans q10_terms_of
def f_value_of : Fn := fnS g11 wfuel 5 2 i_value_of
def g12 : Gx := g11.add "value_of" ⟨[false, false], f_value_of⟩
theorem c_value_of : stG (cS (cc ["poly", "point", "found", "at", "one"] [] 11) 40 (defScope (tp 22)) 20) (defBody (tp 22)) = some i_value_of := by decide +kernel
theorem s_value_of : FnScope ["poly", "point", "found", "at", "one"] ["poly", "point"] (defScope (tp 22)) := fnS_by (by decide +kernel)
def i_is_polynomial : I := (.scons (.sret (.call "is_polynomial_any" (.cons (.var 0) .nil) [])) .snil)
theorem q8_is_polynomial_any : g8.fns "is_polynomial_any" = some ⟨[false], f_is_polynomial_any⟩ := (Gx.add_ne g7 _ (by decide)).trans q7_is_polynomial_any
theorem q9_is_polynomial_any : g9.fns "is_polynomial_any" = some ⟨[false], f_is_polynomial_any⟩ := (Gx.add_ne g8 _ (by decide)).trans q8_is_polynomial_any
theorem q10_is_polynomial_any : g10.fns "is_polynomial_any" = some ⟨[false], f_is_polynomial_any⟩ := (Gx.add_ne g9 _ (by decide)).trans q9_is_polynomial_any
theorem q11_is_polynomial_any : g11.fns "is_polynomial_any" = some ⟨[false], f_is_polynomial_any⟩ := (Gx.add_ne g10 _ (by decide)).trans q10_is_polynomial_any
theorem q12_is_polynomial_any : g12.fns "is_polynomial_any" = some ⟨[false], f_is_polynomial_any⟩ := (Gx.add_ne g11 _ (by decide)).trans q11_is_polynomial_any
def f_is_polynomial : Fn := fnS g12 wfuel 1 1 i_is_polynomial
def g13 : Gx := g12.add "is_polynomial" ⟨[false], f_is_polynomial⟩
theorem c_is_polynomial : stG (cS (cc ["value"] [] 12) 40 (defScope (tp 23)) 20) (defBody (tp 23)) = some i_is_polynomial := by decide +kernel
theorem s_is_polynomial : FnScope ["value"] ["value"] (defScope (tp 23)) := fnS_by (by decide +kernel)
def i_value_at : I := (.scons (.sexp (.call "want_poly" (.cons (.var 0) .nil) [])) (.scons (.sexp (.call "want_point" (.cons (.var 1) .nil) [])) (.scons (.sret (.call "value_of" (.cons (.var 0) (.cons (.var 1) .nil)) [])) .snil)))
theorem q12_value_of : g12.fns "value_of" = some ⟨[false, false], f_value_of⟩ := Gx.add_at _ _ _
theorem q13_value_of : g13.fns "value_of" = some ⟨[false, false], f_value_of⟩ := (Gx.add_ne g12 _ (by decide)).trans q12_value_of
theorem q9_want_point : g9.fns "want_point" = some ⟨[false], f_want_point⟩ := Gx.add_at _ _ _
theorem q10_want_point : g10.fns "want_point" = some ⟨[false], f_want_point⟩ := (Gx.add_ne g9 _ (by decide)).trans q9_want_point
theorem q11_want_point : g11.fns "want_point" = some ⟨[false], f_want_point⟩ := (Gx.add_ne g10 _ (by decide)).trans q10_want_point
theorem q12_want_point : g12.fns "want_point" = some ⟨[false], f_want_point⟩ := (Gx.add_ne g11 _ (by decide)).trans q11_want_point
theorem q13_want_point : g13.fns "want_point" = some ⟨[false], f_want_point⟩ := (Gx.add_ne g12 _ (by decide)).trans q12_want_point
theorem q8_want_poly : g8.fns "want_poly" = some ⟨[false], f_want_poly⟩ := Gx.add_at _ _ _
theorem q9_want_poly : g9.fns "want_poly" = some ⟨[false], f_want_poly⟩ := (Gx.add_ne g8 _ (by decide)).trans q8_want_poly
theorem q10_want_poly : g10.fns "want_poly" = some ⟨[false], f_want_poly⟩ := (Gx.add_ne g9 _ (by decide)).trans q9_want_poly
theorem q11_want_poly : g11.fns "want_poly" = some ⟨[false], f_want_poly⟩ := (Gx.add_ne g10 _ (by decide)).trans q10_want_poly
theorem q12_want_poly : g12.fns "want_poly" = some ⟨[false], f_want_poly⟩ := (Gx.add_ne g11 _ (by decide)).trans q11_want_poly
theorem q13_want_poly : g13.fns "want_poly" = some ⟨[false], f_want_poly⟩ := (Gx.add_ne g12 _ (by decide)).trans q12_want_poly
def f_value_at : Fn := fnS g13 wfuel 2 2 i_value_at
def g14 : Gx := g13.add "value_at" ⟨[false, false], f_value_at⟩
theorem c_value_at : stG (cS (cc ["poly", "point"] [] 13) 40 (defScope (tp 24)) 20) (defBody (tp 24)) = some i_value_at := by decide +kernel
theorem s_value_at : FnScope ["poly", "point"] ["poly", "point"] (defScope (tp 24)) := fnS_by (by decide +kernel)
def i_l_pot : I := (.scons (.sset 2 (.ite (.cmp .Lt (.var 1) (.blt "len" (.cons (.var 0) .nil))) (.blt "abs" (.cons (.idx (.var 0) (.var 1)) .nil)) (.bin .Add (.bin .Mult (.int (751)) (.var 1)) (.int (1487))))) (.scons (.sret (.lst (.cons (.blt "max" (.cons (.int (0)) (.cons (.bin .Sub (.var 2) (.bin .Pow (.int (10)) (.int (18)))) .nil))) (.cons (.bin .Add (.bin .Mod (.blt "int" (.cons (.bin .Add (.bin .Add (.bin .Mult (.bin .Mod (.blt "int" (.cons (.var 2) .nil)) (.int (2147483549))) (.int (40693))) (.bin .Mult (.int (1871)) (.var 1))) (.int (1487))) .nil)) (.int (2147483563))) (.int (1))) .nil)))) .snil))
def f_l_pot : Fn := fnS g14 wfuel 3 2 i_l_pot
def g15 : Gx := g14.add "_law_pot" ⟨[false, false], f_l_pot⟩
theorem c_l_pot : stG (cS (cc ["script", "k", "cell"] [] 14) 40 (defScope (tp 26)) 20) (defBody (tp 26)) = some i_l_pot := by decide +kernel
theorem s_l_pot : FnScope ["script", "k", "cell"] ["script", "k"] (defScope (tp 26)) := fnS_by (by decide +kernel)
def i_l_draw : I := (.scons (.sif (.cmp .Gt (.idx (.var 0) (.int (0))) (.int (0))) (.scons (.sdm 0 (.int (0)) 2 (.idx (.var 0) (.int (0))) (.var 1)) (.scons (.sretv 2) .snil)) .snil) (.scons (.sidx 0 (.int (1)) (.bin .Mod (.blt "int" (.cons (.bin .Add (.bin .Mult (.idx (.var 0) (.int (1))) (.int (39373))) (.int (733))) .nil)) (.int (2147483587)))) (.scons (.sret (.bin .Mod (.blt "int" (.cons (.bin .FloorDiv (.bin .Mod (.blt "int" (.cons (.bin .Mult (.idx (.var 0) (.int (1))) (.idx (.var 0) (.int (1)))) .nil)) (.int (2147483563))) (.int (29))) .nil)) (.var 1))) .snil)))
def f_l_draw : Fn := fnS g15 wfuel 3 2 i_l_draw
def g16 : Gx := g15.add "_law_draw" ⟨[true, false], f_l_draw⟩
theorem c_l_draw : stG (cS (cc ["pot", "many", "digit"] [0] 15) 40 (defScope (tp 27)) 20) (defBody (tp 27)) = some i_l_draw := by decide +kernel
theorem s_l_draw : FnScope ["pot", "many", "digit"] ["pot", "many"] (defScope (tp 27)) := fnS_by (by decide +kernel)
def i_l_pick : I := (.scons (.sret (.idx (.var 1) (.call "_law_draw" (.cons (.var 0) (.cons (.blt "len" (.cons (.var 1) .nil)) .nil)) []))) .snil)
theorem q16_l_draw : g16.fns "_law_draw" = some ⟨[true, false], f_l_draw⟩ := Gx.add_at _ _ _
def f_l_pick : Fn := fnS g16 wfuel 2 2 i_l_pick
def g17 : Gx := g16.add "_law_pick" ⟨[true, false], f_l_pick⟩
theorem c_l_pick : stG (cS (cc ["pot", "some"] [0] 16) 40 (defScope (tp 28)) 20) (defBody (tp 28)) = some i_l_pick := by decide +kernel
theorem s_l_pick : FnScope ["pot", "some"] ["pot", "some"] (defScope (tp 28)) := fnS_by (by decide +kernel)
def i_l_low_w0b : I := (.scons (.spar [(3, false), (4, false)] (.cons (.var 4) (.cons (.bin .Mod (.blt "int" (.cons (.var 3) .nil)) (.var 4)) .nil))) .snil)
def i_l_low_w0 : I := (.swh (.cmp .Gt (.var 4) (.int (0))) i_l_low_w0b)
def i_l_low : I := (.scons (.spar [(3, false), (4, false)] (.cons (.blt "abs" (.cons (.var 0) .nil)) (.cons (.blt "abs" (.cons (.var 1) .nil)) .nil))) (.scons i_l_low_w0 (.scons (.sset 2 (.ite (.cmp .Gt (.var 1) (.int (0))) (.int (1)) (.neg (.int (1))))) (.scons (.sret (.tup (.cons (.bin .FloorDiv (.bin .Mult (.var 2) (.var 0)) (.blt "max" (.cons (.int (1)) (.cons (.var 3) .nil)))) (.cons (.bin .FloorDiv (.bin .Mult (.var 2) (.var 1)) (.blt "max" (.cons (.int (1)) (.cons (.var 3) .nil)))) .nil)))) .snil))))
def f_l_low : Fn := fnS g17 wfuel 5 2 i_l_low
def g18 : Gx := g17.add "_law_low" ⟨[false, false], f_l_low⟩
theorem c_l_low : stG (cS (cc ["top", "bottom", "sign", "near", "far"] [] 17) 40 (defScope (tp 29)) 20) (defBody (tp 29)) = some i_l_low := by decide +kernel
theorem s_l_low : FnScope ["top", "bottom", "sign", "near", "far"] ["top", "bottom"] (defScope (tp 29)) := fnS_by (by decide +kernel)
def i_l_is_less : I := (.scons (.sret (.cmp .Lt (.bin .Mult (.idx (.var 0) (.int (0))) (.idx (.var 1) (.int (1)))) (.bin .Mult (.idx (.var 1) (.int (0))) (.idx (.var 0) (.int (1)))))) .snil)
def f_l_is_less : Fn := fnS g18 wfuel 2 2 i_l_is_less
def g19 : Gx := g18.add "_law_is_less" ⟨[false, false], f_l_is_less⟩
theorem c_l_is_less : stG (cS (cc ["one", "other"] [] 18) 40 (defScope (tp 30)) 20) (defBody (tp 30)) = some i_l_is_less := by decide +kernel
theorem s_l_is_less : FnScope ["one", "other"] ["one", "other"] (defScope (tp 30)) := fnS_by (by decide +kernel)
def i_l_plus : I := (.scons (.sret (.call "_law_low" (.cons (.bin .Add (.bin .Mult (.idx (.var 0) (.int (0))) (.idx (.var 1) (.int (1)))) (.bin .Mult (.idx (.var 1) (.int (0))) (.idx (.var 0) (.int (1))))) (.cons (.bin .Mult (.idx (.var 0) (.int (1))) (.idx (.var 1) (.int (1)))) .nil)) [])) .snil)
theorem q18_l_low : g18.fns "_law_low" = some ⟨[false, false], f_l_low⟩ := Gx.add_at _ _ _
theorem q19_l_low : g19.fns "_law_low" = some ⟨[false, false], f_l_low⟩ := (Gx.add_ne g18 _ (by decide)).trans q18_l_low
def f_l_plus : Fn := fnS g19 wfuel 2 2 i_l_plus
def g20 : Gx := g19.add "_law_plus" ⟨[false, false], f_l_plus⟩
theorem c_l_plus : stG (cS (cc ["one", "other"] [] 19) 40 (defScope (tp 31)) 20) (defBody (tp 31)) = some i_l_plus := by decide +kernel
theorem s_l_plus : FnScope ["one", "other"] ["one", "other"] (defScope (tp 31)) := fnS_by (by decide +kernel)
def i_l_value_w0b : I := (.scons (.sif (.cmp .IsNot (.var 4) .non) (.scons (.sset 5 (.call "_law_low" (.cons (.bin .Add (.bin .Mult (.var 4) (.idx (.var 1) (.int (1)))) (.bin .Mult (.var 3) (.idx (.var 1) (.int (0))))) (.cons (.idx (.var 1) (.int (1))) .nil)) [])) (.scons (.sset 2 (.ite (.or (.cmp .Is (.var 2) .non) (.call "_law_is_less" (.cons (.var 2) (.cons (.var 5) .nil)) [])) (.var 5) (.var 2))) .snil)) .snil) .snil)
def i_l_value_w0 : I := (.sfor (.ttp (.cons (.tnm 3) (.cons (.tnm 4) .nil))) (.ien (.var 0)) i_l_value_w0b)
def i_l_value : I := (.scons (.sset 2 .non) (.scons i_l_value_w0 (.scons (.sretv 2) .snil)))
theorem q19_l_is_less : g19.fns "_law_is_less" = some ⟨[false, false], f_l_is_less⟩ := Gx.add_at _ _ _
theorem q20_l_is_less : g20.fns "_law_is_less" = some ⟨[false, false], f_l_is_less⟩ := (Gx.add_ne g19 _ (by decide)).trans q19_l_is_less
theorem q20_l_low : g20.fns "_law_low" = some ⟨[false, false], f_l_low⟩ := (Gx.add_ne g19 _ (by decide)).trans q19_l_low
def f_l_value : Fn := fnS g20 wfuel 6 2 i_l_value
def g21 : Gx := g20.add "_law_value" ⟨[false, false], f_l_value⟩
theorem c_l_value : stG (cS (cc ["poly", "point", "found", "at", "one", "told"] [] 20) 40 (defScope (tp 33)) 20) (defBody (tp 33)) = some i_l_value := by decide +kernel
theorem s_l_value : FnScope ["poly", "point", "found", "at", "one", "told"] ["poly", "point"] (defScope (tp 33)) := fnS_by (by decide +kernel)
def i_l_poly_c0e : I := (.ite (.cmp .Eq (.call "_law_draw" (.cons (.var 0) (.cons (.int (4)) .nil)) []) (.int (0))) .non (.bin .Sub (.call "_law_draw" (.cons (.var 0) (.cons (.bin .Add (.bin .Mult (.int (2)) (.var 3)) (.int (1))) .nil)) []) (.var 3)))
def i_l_poly_c0 : I := (.lc i_l_poly_c0e (.tnm 5) (.irg (.var 2)) (.bl true) [5])
def i_l_poly : I := (.scons (.sset 2 (.bin .Add (.int (1)) (.call "_law_draw" (.cons (.var 0) (.cons (.var 1) .nil)) []))) (.scons (.sset 3 (.call "_law_pick" (.cons (.var 0) (.cons (.lst (.cons (.int (3)) (.cons (.int (3)) (.cons (.int (9)) (.cons (.int (40)) (.cons (.bin .Pow (.int (10)) (.int (6))) .nil)))))) .nil)) [])) (.scons (.sown 4 i_l_poly_c0) (.scons (.sidx 4 (.call "_law_draw" (.cons (.var 0) (.cons (.var 2) .nil)) []) (.bin .Sub (.call "_law_draw" (.cons (.var 0) (.cons (.bin .Add (.bin .Mult (.int (2)) (.var 3)) (.int (1))) .nil)) []) (.var 3))) (.scons (.sret (.blt "tuple" (.cons (.var 4) .nil))) .snil)))))
theorem q17_l_draw : g17.fns "_law_draw" = some ⟨[true, false], f_l_draw⟩ := (Gx.add_ne g16 _ (by decide)).trans q16_l_draw
theorem q18_l_draw : g18.fns "_law_draw" = some ⟨[true, false], f_l_draw⟩ := (Gx.add_ne g17 _ (by decide)).trans q17_l_draw
theorem q19_l_draw : g19.fns "_law_draw" = some ⟨[true, false], f_l_draw⟩ := (Gx.add_ne g18 _ (by decide)).trans q18_l_draw
theorem q20_l_draw : g20.fns "_law_draw" = some ⟨[true, false], f_l_draw⟩ := (Gx.add_ne g19 _ (by decide)).trans q19_l_draw
theorem q21_l_draw : g21.fns "_law_draw" = some ⟨[true, false], f_l_draw⟩ := (Gx.add_ne g20 _ (by decide)).trans q20_l_draw
theorem q17_l_pick : g17.fns "_law_pick" = some ⟨[true, false], f_l_pick⟩ := Gx.add_at _ _ _
theorem q18_l_pick : g18.fns "_law_pick" = some ⟨[true, false], f_l_pick⟩ := (Gx.add_ne g17 _ (by decide)).trans q17_l_pick
theorem q19_l_pick : g19.fns "_law_pick" = some ⟨[true, false], f_l_pick⟩ := (Gx.add_ne g18 _ (by decide)).trans q18_l_pick
theorem q20_l_pick : g20.fns "_law_pick" = some ⟨[true, false], f_l_pick⟩ := (Gx.add_ne g19 _ (by decide)).trans q19_l_pick
theorem q21_l_pick : g21.fns "_law_pick" = some ⟨[true, false], f_l_pick⟩ := (Gx.add_ne g20 _ (by decide)).trans q20_l_pick
def f_l_poly : Fn := fnS g21 wfuel 6 2 i_l_poly
def g22 : Gx := g21.add "_law_poly" ⟨[true, false], f_l_poly⟩
theorem c_l_poly : stG (cS (cc ["pot", "most", "many", "size", "found", "at"] [0, 4] 21) 40 (defScope (tp 36)) 20) (defBody (tp 36)) = some i_l_poly := by decide +kernel
theorem s_l_poly : FnScope ["pot", "most", "many", "size", "found", "at"] ["pot", "most"] (defScope (tp 36)) := fnS_by (by decide +kernel)
def i_l_point : I := (.scons (.sset 1 (.call "_law_pick" (.cons (.var 0) (.cons (.lst (.cons (.int (1)) (.cons (.int (1)) (.cons (.int (2)) (.cons (.int (3)) (.cons (.int (7)) (.cons (.int (1000)) .nil))))))) .nil)) [])) (.scons (.sret (.call "_law_low" (.cons (.bin .Sub (.call "_law_draw" (.cons (.var 0) (.cons (.bin .Add (.bin .Mult (.int (20)) (.var 1)) (.int (1))) .nil)) []) (.bin .Mult (.int (10)) (.var 1))) (.cons (.var 1) .nil)) [])) .snil))
theorem q22_l_draw : g22.fns "_law_draw" = some ⟨[true, false], f_l_draw⟩ := (Gx.add_ne g21 _ (by decide)).trans q21_l_draw
theorem q21_l_low : g21.fns "_law_low" = some ⟨[false, false], f_l_low⟩ := (Gx.add_ne g20 _ (by decide)).trans q20_l_low
theorem q22_l_low : g22.fns "_law_low" = some ⟨[false, false], f_l_low⟩ := (Gx.add_ne g21 _ (by decide)).trans q21_l_low
theorem q22_l_pick : g22.fns "_law_pick" = some ⟨[true, false], f_l_pick⟩ := (Gx.add_ne g21 _ (by decide)).trans q21_l_pick
def f_l_point : Fn := fnS g22 wfuel 2 1 i_l_point
def g23 : Gx := g22.add "_law_point" ⟨[true], f_l_point⟩
theorem c_l_point : stG (cS (cc ["pot", "bottom"] [0] 22) 40 (defScope (tp 37)) 20) (defBody (tp 37)) = some i_l_point := by decide +kernel
theorem s_l_point : FnScope ["pot", "bottom"] ["pot"] (defScope (tp 37)) := fnS_by (by decide +kernel)
def i_l_is_poly_c0e : I := (.var 2)
def i_l_is_poly_c0q : I := (.cmp .IsNot (.var 2) .non)
def i_l_is_poly_c0 : I := (.lc i_l_is_poly_c0e (.tnm 2) (.iv (.var 0)) i_l_is_poly_c0q [2])
def i_l_is_poly_c1e : I := (.and (.isi (.var 2) ["int"]) (.and (.inot (.isi (.var 2) ["bool"])) (.cmp .LtE (.blt "abs" (.cons (.var 2) .nil)) (.bin .Pow (.int (10)) (.int (6))))))
def i_l_is_poly_c1 : I := (.lc i_l_is_poly_c1e (.tnm 2) (.iv (.var 1)) (.bl true) [2])
def i_l_is_poly : I := (.scons (.sif (.or (.inot (.isi (.var 0) ["tuple"])) (.inot (.cmp2 .LtE .LtE (.int (1)) (.blt "len" (.cons (.var 0) .nil)) (.int (13))))) (.scons (.sret (.bl false)) .snil) .snil) (.scons (.sset 1 i_l_is_poly_c0) (.scons (.sret (.and (.cmp .NotEq (.var 1) (.lst .nil)) (.blt "all" (.cons i_l_is_poly_c1 .nil)))) .snil)))
def f_l_is_poly : Fn := fnS g23 wfuel 3 1 i_l_is_poly
def g24 : Gx := g23.add "_law_is_poly" ⟨[false], f_l_is_poly⟩
theorem c_l_is_poly : stG (cS (cc ["value", "some", "one"] [] 23) 40 (defScope (tp 40)) 20) (defBody (tp 40)) = some i_l_is_poly := by decide +kernel
theorem s_l_is_poly : FnScope ["value", "some", "one"] ["value"] (defScope (tp 40)) := fnS_by (by decide +kernel)
def i_l_bent : I := (.scons (.spar [(2, false), (3, false), (4, true)] (.cons (.call "_law_draw" (.cons (.var 0) (.cons (.blt "len" (.cons (.var 1) .nil)) .nil)) []) (.cons (.call "_law_draw" (.cons (.var 0) (.cons (.int (5)) .nil)) []) (.cons (.blt "list" (.cons (.var 1) .nil)) .nil)))) (.scons (.sif (.cmp .Eq (.var 3) (.int (0))) (.scons (.sret (.blt "tuple" (.cons (.bin .Add (.slc (.var 4) .abs (.var 2)) (.slc (.var 4) (.bin .Add (.var 2) (.int (1))) .abs)) .nil))) .snil) .snil) (.scons (.sif (.cmp .Eq (.var 3) (.int (1))) (.scons (.sretv 4) .snil) .snil) (.scons (.sidx 4 (.var 2) (.call "_law_pick" (.cons (.var 0) (.cons (.lst (.cons .non (.cons (.bl true) (.cons (.str "1") (.cons (.bin .Pow (.int (10)) (.int (6))) (.cons (.bin .Add (.bin .Pow (.int (10)) (.int (6))) (.int (1))) (.cons (.neg (.bin .Pow (.int (10)) (.int (6)))) (.cons (.bin .Sub (.neg (.bin .Pow (.int (10)) (.int (6)))) (.int (1))) (.cons (.tup (.cons (.int (1)) .nil)) (.cons (.int (0)) .nil)))))))))) .nil)) [])) (.scons (.sret (.blt "tuple" (.cons (.var 4) .nil))) .snil)))))
theorem q23_l_draw : g23.fns "_law_draw" = some ⟨[true, false], f_l_draw⟩ := (Gx.add_ne g22 _ (by decide)).trans q22_l_draw
theorem q24_l_draw : g24.fns "_law_draw" = some ⟨[true, false], f_l_draw⟩ := (Gx.add_ne g23 _ (by decide)).trans q23_l_draw
theorem q23_l_pick : g23.fns "_law_pick" = some ⟨[true, false], f_l_pick⟩ := (Gx.add_ne g22 _ (by decide)).trans q22_l_pick
theorem q24_l_pick : g24.fns "_law_pick" = some ⟨[true, false], f_l_pick⟩ := (Gx.add_ne g23 _ (by decide)).trans q23_l_pick
def f_l_bent : Fn := fnS g24 wfuel 5 2 i_l_bent
def g25 : Gx := g24.add "_law_bent" ⟨[true, false], f_l_bent⟩
theorem c_l_bent : stG (cS (cc ["pot", "value", "at", "way", "some"] [0, 4] 24) 40 (defScope (tp 41)) 20) (defBody (tp 41)) = some i_l_bent := by decide +kernel
theorem s_l_bent : FnScope ["pot", "value", "at", "way", "some"] ["pot", "value"] (defScope (tp 41)) := fnS_by (by decide +kernel)
def i_l_right_c0e : I := (.call "_law_bent" (.cons (.var 0) (.cons (.var 1) .nil)) [])
def i_l_right_c0 : I := (.lc i_l_right_c0e (.tnm 9) (.irg (.int (12))) (.bl true) [9])
def i_l_right_w0b : I := (.scons (.spar [(5, false), (8, false)] (.cons (.call "_law_is_poly" (.cons (.var 3) .nil) []) (.cons (.blt "repr" (.cons (.var 3) .nil)) .nil))) (.scons (.sif (.or (.cmp .NotEq (.blt "repr" (.cons (.lst (.cons (.call "is_polynomial" (.cons (.var 3) .nil) []) (.cons (.call "is_polynomial" (.cons (.var 3) .nil) [0]) .nil))) .nil)) (.blt "repr" (.cons (.lst (.cons (.var 5) (.cons (.var 5) .nil))) .nil))) (.cmp .NotEq (.blt "repr" (.cons (.var 3) .nil)) (.var 8))) (.scons (.sret (.bl false)) .snil) .snil) .snil))
def i_l_right_w0 : I := (.sfor (.tnm 3) (.iv (.bin .Add (.var 2) i_l_right_c0)) i_l_right_w0b)
def i_l_right_c1e : I := (.call "_law_point" (.cons (.var 0) .nil) [])
def i_l_right_c1 : I := (.lc i_l_right_c1e (.tnm 9) (.irg (.int (8))) (.bl true) [9])
def i_l_right_w1b : I := (.scons (.sset 5 (.call "_law_value" (.cons (.var 1) (.cons (.var 4) .nil)) [])) (.scons (.sif (.cmp .NotEq (.blt "repr" (.cons (.lst (.cons (.call "value_at" (.cons (.var 1) (.cons (.var 4) .nil)) []) (.cons (.call "value_at" (.cons (.var 4) (.cons (.var 1) .nil)) [1, 0]) .nil))) .nil)) (.blt "repr" (.cons (.lst (.cons (.var 5) (.cons (.var 5) .nil))) .nil))) (.scons (.sret (.bl false)) .snil) .snil) .snil))
def i_l_right_w1 : I := (.sfor (.tnm 4) (.iv (.bin .Add i_l_right_c1 (.lst (.cons (.tup (.cons (.int (999999999)) (.cons (.int (1)) .nil))) (.cons (.tup (.cons (.neg (.int (999999999))) (.cons (.int (1)) .nil))) (.cons (.tup (.cons (.int (1)) (.cons (.int (999999999)) .nil))) (.cons (.tup (.cons (.int (0)) (.cons (.int (1)) .nil))) .nil))))))) i_l_right_w1b)
def i_l_right : I := (.scons (.sset 1 (.call "_law_poly" (.cons (.var 0) (.cons (.int (6)) .nil)) [])) (.scons (.sset 2 (.lst (.cons (.var 1) (.cons (.blt "list" (.cons (.var 1) .nil)) (.cons (.tup .nil) (.cons (.tup (.cons .non .nil)) (.cons (.tup (.cons .non (.cons .non .nil))) (.cons .non (.cons (.int (0)) (.cons (.str "poly") (.cons (.bin .Mult (.tup (.cons (.int (0)) .nil)) (.int (13))) (.cons (.bin .Mult (.tup (.cons (.int (0)) .nil)) (.int (14))) (.cons (.bin .Add (.bin .Mult (.tup (.cons .non .nil)) (.int (12))) (.tup (.cons (.int (1)) .nil))) (.cons (.tup (.cons (.bin .Pow (.int (10)) (.int (6))) .nil)) (.cons (.tup (.cons (.bin .Add (.bin .Pow (.int (10)) (.int (6))) (.int (1))) .nil)) (.cons (.tup (.cons (.bl true) .nil)) (.cons (.tup (.cons (.tup (.cons (.int (0)) .nil)) .nil)) .nil))))))))))))))))) (.scons i_l_right_w0 (.scons i_l_right_w1 (.scons (.spar [(6, false), (7, false), (4, false)] (.cons (.bin .Add (.int (1)) (.call "_law_draw" (.cons (.var 0) (.cons (.int (13)) .nil)) [])) (.cons (.bin .Sub (.call "_law_draw" (.cons (.var 0) (.cons (.int (99)) .nil)) []) (.int (50))) (.cons (.call "_law_point" (.cons (.var 0) .nil) []) .nil)))) (.scons (.sset 5 (.call "_law_plus" (.cons (.tup (.cons (.var 7) (.cons (.int (1)) .nil))) (.cons (.ite (.cmp .Gt (.idx (.var 4) (.int (0))) (.int (0))) (.tup (.cons (.bin .Mult (.idx (.var 4) (.int (0))) (.bin .Sub (.var 6) (.int (1)))) (.cons (.idx (.var 4) (.int (1))) .nil))) (.tup (.cons (.int (0)) (.cons (.int (1)) .nil)))) .nil)) [])) (.scons (.sret (.cmp .Eq (.call "value_at" (.cons (.bin .Mult (.tup (.cons (.var 7) .nil)) (.var 6)) (.cons (.var 4) .nil)) []) (.var 5))) .snil)))))))
theorem q25_l_bent : g25.fns "_law_bent" = some ⟨[true, false], f_l_bent⟩ := Gx.add_at _ _ _
theorem q25_l_draw : g25.fns "_law_draw" = some ⟨[true, false], f_l_draw⟩ := (Gx.add_ne g24 _ (by decide)).trans q24_l_draw
theorem q24_l_is_poly : g24.fns "_law_is_poly" = some ⟨[false], f_l_is_poly⟩ := Gx.add_at _ _ _
theorem q25_l_is_poly : g25.fns "_law_is_poly" = some ⟨[false], f_l_is_poly⟩ := (Gx.add_ne g24 _ (by decide)).trans q24_l_is_poly
theorem q20_l_plus : g20.fns "_law_plus" = some ⟨[false, false], f_l_plus⟩ := Gx.add_at _ _ _
theorem q21_l_plus : g21.fns "_law_plus" = some ⟨[false, false], f_l_plus⟩ := (Gx.add_ne g20 _ (by decide)).trans q20_l_plus
theorem q22_l_plus : g22.fns "_law_plus" = some ⟨[false, false], f_l_plus⟩ := (Gx.add_ne g21 _ (by decide)).trans q21_l_plus
theorem q23_l_plus : g23.fns "_law_plus" = some ⟨[false, false], f_l_plus⟩ := (Gx.add_ne g22 _ (by decide)).trans q22_l_plus
theorem q24_l_plus : g24.fns "_law_plus" = some ⟨[false, false], f_l_plus⟩ := (Gx.add_ne g23 _ (by decide)).trans q23_l_plus
theorem q25_l_plus : g25.fns "_law_plus" = some ⟨[false, false], f_l_plus⟩ := (Gx.add_ne g24 _ (by decide)).trans q24_l_plus
theorem q23_l_point : g23.fns "_law_point" = some ⟨[true], f_l_point⟩ := Gx.add_at _ _ _
theorem q24_l_point : g24.fns "_law_point" = some ⟨[true], f_l_point⟩ := (Gx.add_ne g23 _ (by decide)).trans q23_l_point
theorem q25_l_point : g25.fns "_law_point" = some ⟨[true], f_l_point⟩ := (Gx.add_ne g24 _ (by decide)).trans q24_l_point
theorem q22_l_poly : g22.fns "_law_poly" = some ⟨[true, false], f_l_poly⟩ := Gx.add_at _ _ _
theorem q23_l_poly : g23.fns "_law_poly" = some ⟨[true, false], f_l_poly⟩ := (Gx.add_ne g22 _ (by decide)).trans q22_l_poly
theorem q24_l_poly : g24.fns "_law_poly" = some ⟨[true, false], f_l_poly⟩ := (Gx.add_ne g23 _ (by decide)).trans q23_l_poly
theorem q25_l_poly : g25.fns "_law_poly" = some ⟨[true, false], f_l_poly⟩ := (Gx.add_ne g24 _ (by decide)).trans q24_l_poly
theorem q21_l_value : g21.fns "_law_value" = some ⟨[false, false], f_l_value⟩ := Gx.add_at _ _ _
theorem q22_l_value : g22.fns "_law_value" = some ⟨[false, false], f_l_value⟩ := (Gx.add_ne g21 _ (by decide)).trans q21_l_value
theorem q23_l_value : g23.fns "_law_value" = some ⟨[false, false], f_l_value⟩ := (Gx.add_ne g22 _ (by decide)).trans q22_l_value
theorem q24_l_value : g24.fns "_law_value" = some ⟨[false, false], f_l_value⟩ := (Gx.add_ne g23 _ (by decide)).trans q23_l_value
theorem q25_l_value : g25.fns "_law_value" = some ⟨[false, false], f_l_value⟩ := (Gx.add_ne g24 _ (by decide)).trans q24_l_value
theorem q13_is_polynomial : g13.fns "is_polynomial" = some ⟨[false], f_is_polynomial⟩ := Gx.add_at _ _ _
theorem q14_is_polynomial : g14.fns "is_polynomial" = some ⟨[false], f_is_polynomial⟩ := (Gx.add_ne g13 _ (by decide)).trans q13_is_polynomial
theorem q15_is_polynomial : g15.fns "is_polynomial" = some ⟨[false], f_is_polynomial⟩ := (Gx.add_ne g14 _ (by decide)).trans q14_is_polynomial
theorem q16_is_polynomial : g16.fns "is_polynomial" = some ⟨[false], f_is_polynomial⟩ := (Gx.add_ne g15 _ (by decide)).trans q15_is_polynomial
theorem q17_is_polynomial : g17.fns "is_polynomial" = some ⟨[false], f_is_polynomial⟩ := (Gx.add_ne g16 _ (by decide)).trans q16_is_polynomial
theorem q18_is_polynomial : g18.fns "is_polynomial" = some ⟨[false], f_is_polynomial⟩ := (Gx.add_ne g17 _ (by decide)).trans q17_is_polynomial
theorem q19_is_polynomial : g19.fns "is_polynomial" = some ⟨[false], f_is_polynomial⟩ := (Gx.add_ne g18 _ (by decide)).trans q18_is_polynomial
theorem q20_is_polynomial : g20.fns "is_polynomial" = some ⟨[false], f_is_polynomial⟩ := (Gx.add_ne g19 _ (by decide)).trans q19_is_polynomial
theorem q21_is_polynomial : g21.fns "is_polynomial" = some ⟨[false], f_is_polynomial⟩ := (Gx.add_ne g20 _ (by decide)).trans q20_is_polynomial
theorem q22_is_polynomial : g22.fns "is_polynomial" = some ⟨[false], f_is_polynomial⟩ := (Gx.add_ne g21 _ (by decide)).trans q21_is_polynomial
theorem q23_is_polynomial : g23.fns "is_polynomial" = some ⟨[false], f_is_polynomial⟩ := (Gx.add_ne g22 _ (by decide)).trans q22_is_polynomial
theorem q24_is_polynomial : g24.fns "is_polynomial" = some ⟨[false], f_is_polynomial⟩ := (Gx.add_ne g23 _ (by decide)).trans q23_is_polynomial
theorem q25_is_polynomial : g25.fns "is_polynomial" = some ⟨[false], f_is_polynomial⟩ := (Gx.add_ne g24 _ (by decide)).trans q24_is_polynomial
theorem q14_value_at : g14.fns "value_at" = some ⟨[false, false], f_value_at⟩ := Gx.add_at _ _ _
theorem q15_value_at : g15.fns "value_at" = some ⟨[false, false], f_value_at⟩ := (Gx.add_ne g14 _ (by decide)).trans q14_value_at
theorem q16_value_at : g16.fns "value_at" = some ⟨[false, false], f_value_at⟩ := (Gx.add_ne g15 _ (by decide)).trans q15_value_at
theorem q17_value_at : g17.fns "value_at" = some ⟨[false, false], f_value_at⟩ := (Gx.add_ne g16 _ (by decide)).trans q16_value_at
theorem q18_value_at : g18.fns "value_at" = some ⟨[false, false], f_value_at⟩ := (Gx.add_ne g17 _ (by decide)).trans q17_value_at
theorem q19_value_at : g19.fns "value_at" = some ⟨[false, false], f_value_at⟩ := (Gx.add_ne g18 _ (by decide)).trans q18_value_at
theorem q20_value_at : g20.fns "value_at" = some ⟨[false, false], f_value_at⟩ := (Gx.add_ne g19 _ (by decide)).trans q19_value_at
theorem q21_value_at : g21.fns "value_at" = some ⟨[false, false], f_value_at⟩ := (Gx.add_ne g20 _ (by decide)).trans q20_value_at
theorem q22_value_at : g22.fns "value_at" = some ⟨[false, false], f_value_at⟩ := (Gx.add_ne g21 _ (by decide)).trans q21_value_at
theorem q23_value_at : g23.fns "value_at" = some ⟨[false, false], f_value_at⟩ := (Gx.add_ne g22 _ (by decide)).trans q22_value_at
theorem q24_value_at : g24.fns "value_at" = some ⟨[false, false], f_value_at⟩ := (Gx.add_ne g23 _ (by decide)).trans q23_value_at
theorem q25_value_at : g25.fns "value_at" = some ⟨[false, false], f_value_at⟩ := (Gx.add_ne g24 _ (by decide)).trans q24_value_at
def f_l_right : Fn := fnS g25 wfuel 10 1 i_l_right
def g26 : Gx := g25.add "_law_right" ⟨[true], f_l_right⟩
theorem c_l_right : stG (cS (cc ["pot", "poly", "values", "value", "point", "due", "many", "like", "before", "turn"] [0] 25) 40 (defScope (tp 42)) 20) (defBody (tp 42)) = some i_l_right := by decide +kernel
theorem s_l_right : FnScope ["pot", "poly", "values", "value", "point", "due", "many", "like", "before", "turn"] ["pot"] (defScope (tp 42)) := fnS_by (by decide +kernel)
def i_law_c0e : I := (.call "_law_right" (.cons (.call "_law_pot" (.cons (.var 0) (.cons (.var 1) .nil)) []) .nil) [])
def i_law_c0 : I := (.lc i_law_c0e (.tnm 1) (.irg (.blt "max" (.cons (.int (1)) (.cons (.blt "min" (.cons (.int (2)) (.cons (.blt "len" (.cons (.var 0) .nil)) .nil))) .nil)))) (.bl true) [1])
def i_law : I := (.scons (.sret (.blt "all" (.cons i_law_c0 .nil))) .snil)
theorem q15_l_pot : g15.fns "_law_pot" = some ⟨[false, false], f_l_pot⟩ := Gx.add_at _ _ _
theorem q16_l_pot : g16.fns "_law_pot" = some ⟨[false, false], f_l_pot⟩ := (Gx.add_ne g15 _ (by decide)).trans q15_l_pot
theorem q17_l_pot : g17.fns "_law_pot" = some ⟨[false, false], f_l_pot⟩ := (Gx.add_ne g16 _ (by decide)).trans q16_l_pot
theorem q18_l_pot : g18.fns "_law_pot" = some ⟨[false, false], f_l_pot⟩ := (Gx.add_ne g17 _ (by decide)).trans q17_l_pot
theorem q19_l_pot : g19.fns "_law_pot" = some ⟨[false, false], f_l_pot⟩ := (Gx.add_ne g18 _ (by decide)).trans q18_l_pot
theorem q20_l_pot : g20.fns "_law_pot" = some ⟨[false, false], f_l_pot⟩ := (Gx.add_ne g19 _ (by decide)).trans q19_l_pot
theorem q21_l_pot : g21.fns "_law_pot" = some ⟨[false, false], f_l_pot⟩ := (Gx.add_ne g20 _ (by decide)).trans q20_l_pot
theorem q22_l_pot : g22.fns "_law_pot" = some ⟨[false, false], f_l_pot⟩ := (Gx.add_ne g21 _ (by decide)).trans q21_l_pot
theorem q23_l_pot : g23.fns "_law_pot" = some ⟨[false, false], f_l_pot⟩ := (Gx.add_ne g22 _ (by decide)).trans q22_l_pot
theorem q24_l_pot : g24.fns "_law_pot" = some ⟨[false, false], f_l_pot⟩ := (Gx.add_ne g23 _ (by decide)).trans q23_l_pot
theorem q25_l_pot : g25.fns "_law_pot" = some ⟨[false, false], f_l_pot⟩ := (Gx.add_ne g24 _ (by decide)).trans q24_l_pot
theorem q26_l_pot : g26.fns "_law_pot" = some ⟨[false, false], f_l_pot⟩ := (Gx.add_ne g25 _ (by decide)).trans q25_l_pot
theorem q26_l_right : g26.fns "_law_right" = some ⟨[true], f_l_right⟩ := Gx.add_at _ _ _
def f_law : Fn := fnS g26 wfuel 2 1 i_law
def g27 : Gx := g26.add "law" ⟨[false], f_law⟩
theorem c_law : stG (cS (cc ["script", "k"] [] 26) 40 (defScope (tp 43)) 20) (defBody (tp 43)) = some i_law := by decide +kernel
theorem s_law : FnScope ["script", "k"] ["script"] (defScope (tp 43)) := fnS_by (by decide +kernel)
section
variable {P : Program} {w : World} {K : PySem.W.Frag} {mg : Str → Option Value} {base : Heap}
theorem t_is_integer {fa : Addr} {fd : FuncData} (T : Tb P w K mg base g0 0) (hg : mg "gcd" = some (.builtin "math.gcd")) (F : Fun K "is_integer" "is_integer" (tp 2) fa fd) (m : mg "is_integer" = some (.ref fa)) : Tb P w K mg base g1 1 :=
  T.add (ps := ["value"]) m F.kp rfl (F.binds fun _ _ _ _ _ _ us hl => match us, hl with | [_], _ => rfl) (ct_of (c := cc ["value"] [] 0) (ks := [false]) F s_is_integer T (fun _ => hg) rfl rfl c_is_integer) (List.forall_mem_cons.mpr ⟨fun e => absurd e (by decide), List.forall_mem_cons.mpr ⟨fun e => absurd e (by decide), fun q z => nomatch z⟩⟩)
theorem t_is_within {fa : Addr} {fd : FuncData} (T : Tb P w K mg base g1 1) (hg : mg "gcd" = some (.builtin "math.gcd")) (F : Fun K "is_within" "is_within" (tp 3) fa fd) (m : mg "is_within" = some (.ref fa)) : Tb P w K mg base g2 2 :=
  T.add (ps := ["value", "least", "most"]) m F.kp rfl (F.binds fun _ _ _ _ _ _ us hl => match us, hl with | [_, _, _], _ => rfl) (ct_of (c := cc ["value", "least", "most"] [] 1) (ks := [false, false, false]) F s_is_within T (fun _ => hg) rfl rfl c_is_within) (List.forall_mem_cons.mpr ⟨fun e => absurd e (by decide), List.forall_mem_cons.mpr ⟨fun e => absurd e (by decide), fun q z => nomatch z⟩⟩)
theorem t_is_tuple {fa : Addr} {fd : FuncData} (T : Tb P w K mg base g2 2) (hg : mg "gcd" = some (.builtin "math.gcd")) (F : Fun K "is_tuple" "is_tuple" (tp 4) fa fd) (m : mg "is_tuple" = some (.ref fa)) : Tb P w K mg base g3 3 :=
  T.add (ps := ["value", "many"]) m F.kp rfl (F.binds fun _ _ _ _ _ _ us hl => match us, hl with | [_, _], _ => rfl) (ct_of (c := cc ["value", "many"] [] 2) (ks := [false, false]) F s_is_tuple T (fun _ => hg) rfl rfl c_is_tuple) (List.forall_mem_cons.mpr ⟨fun e => absurd e (by decide), List.forall_mem_cons.mpr ⟨fun e => absurd e (by decide), fun q z => nomatch z⟩⟩)
theorem t_fraction {fa : Addr} {fd : FuncData} (T : Tb P w K mg base g3 3) (hg : mg "gcd" = some (.builtin "math.gcd")) (F : Fun K "fraction" "fraction" (tp 11) fa fd) (m : mg "fraction" = some (.ref fa)) : Tb P w K mg base g4 4 :=
  T.add (ps := ["top", "bottom"]) m F.kp rfl (F.binds fun _ _ _ _ _ _ us hl => match us, hl with | [_, _], _ => rfl) (ct_of (c := cc ["top", "bottom", "sign", "common"] [] 3) (ks := [false, false]) F s_fraction T (fun _ => hg) rfl rfl c_fraction) (List.forall_mem_cons.mpr ⟨fun e => absurd e (by decide), List.forall_mem_cons.mpr ⟨fun e => absurd e (by decide), fun q z => nomatch z⟩⟩)
theorem t_is_less {fa : Addr} {fd : FuncData} (T : Tb P w K mg base g4 4) (hg : mg "gcd" = some (.builtin "math.gcd")) (F : Fun K "is_less" "is_less" (tp 12) fa fd) (m : mg "is_less" = some (.ref fa)) : Tb P w K mg base g5 5 :=
  T.add (ps := ["one", "other"]) m F.kp rfl (F.binds fun _ _ _ _ _ _ us hl => match us, hl with | [_, _], _ => rfl) (ct_of (c := cc ["one", "other"] [] 4) (ks := [false, false]) F s_is_less T (fun _ => hg) rfl rfl c_is_less) (List.forall_mem_cons.mpr ⟨fun e => absurd e (by decide), List.forall_mem_cons.mpr ⟨fun e => absurd e (by decide), fun q z => nomatch z⟩⟩)
theorem t_is_fraction_any {fa : Addr} {fd : FuncData} (T : Tb P w K mg base g5 5) (hg : mg "gcd" = some (.builtin "math.gcd")) (F : Fun K "is_fraction_any" "is_fraction_any" (tp 13) fa fd) (m : mg "is_fraction_any" = some (.ref fa)) : Tb P w K mg base g6 6 :=
  T.add (ps := ["value"]) m F.kp rfl (F.binds fun _ _ _ _ _ _ us hl => match us, hl with | [_], _ => rfl) (ct_of (c := cc ["value"] [] 5) (ks := [false]) F s_is_fraction_any T (fun _ => hg) rfl rfl c_is_fraction_any) (List.forall_mem_cons.mpr ⟨fun e => absurd e (by decide), List.forall_mem_cons.mpr ⟨fun e => absurd e (by decide), fun q z => nomatch z⟩⟩)
theorem t_is_polynomial_any {fa : Addr} {fd : FuncData} (T : Tb P w K mg base g6 6) (hg : mg "gcd" = some (.builtin "math.gcd")) (F : Fun K "is_polynomial_any" "is_polynomial_any" (tp 17) fa fd) (m : mg "is_polynomial_any" = some (.ref fa)) : Tb P w K mg base g7 7 :=
  T.add (ps := ["value"]) m F.kp rfl (F.binds fun _ _ _ _ _ _ us hl => match us, hl with | [_], _ => rfl) (ct_of (c := cc ["value", "one"] [] 6) (ks := [false]) F s_is_polynomial_any T (fun _ => hg) rfl rfl c_is_polynomial_any) (List.forall_mem_cons.mpr ⟨fun e => absurd e (by decide), List.forall_mem_cons.mpr ⟨fun e => absurd e (by decide), fun q z => nomatch z⟩⟩)
theorem t_want_poly {fa : Addr} {fd : FuncData} (T : Tb P w K mg base g7 7) (hg : mg "gcd" = some (.builtin "math.gcd")) (F : Fun K "want_poly" "want_poly" (tp 18) fa fd) (m : mg "want_poly" = some (.ref fa)) : Tb P w K mg base g8 8 :=
  T.add (ps := ["poly"]) m F.kp rfl (F.binds fun _ _ _ _ _ _ us hl => match us, hl with | [_], _ => rfl) (ct_of (c := cc ["poly"] [] 7) (ks := [false]) F s_want_poly T (fun _ => hg) rfl rfl c_want_poly) (List.forall_mem_cons.mpr ⟨fun e => absurd e (by decide), List.forall_mem_cons.mpr ⟨fun e => absurd e (by decide), fun q z => nomatch z⟩⟩)
theorem t_want_point {fa : Addr} {fd : FuncData} (T : Tb P w K mg base g8 8) (hg : mg "gcd" = some (.builtin "math.gcd")) (F : Fun K "want_point" "want_point" (tp 19) fa fd) (m : mg "want_point" = some (.ref fa)) : Tb P w K mg base g9 9 :=
  T.add (ps := ["point"]) m F.kp rfl (F.binds fun _ _ _ _ _ _ us hl => match us, hl with | [_], _ => rfl) (ct_of (c := cc ["point"] [] 8) (ks := [false]) F s_want_point T (fun _ => hg) rfl rfl c_want_point) (List.forall_mem_cons.mpr ⟨fun e => absurd e (by decide), List.forall_mem_cons.mpr ⟨fun e => absurd e (by decide), fun q z => nomatch z⟩⟩)
theorem t_terms_of {fa : Addr} {fd : FuncData} (T : Tb P w K mg base g9 9) (hg : mg "gcd" = some (.builtin "math.gcd")) (F : Fun K "terms_of" "terms_of" (tp 20) fa fd) (m : mg "terms_of" = some (.ref fa)) : Tb P w K mg base g10 10 :=
  T.add (ps := ["poly"]) m F.kp rfl (F.binds fun _ _ _ _ _ _ us hl => match us, hl with | [_], _ => rfl) (ct_of (c := cc ["poly", "at", "one"] [] 9) (ks := [false]) F s_terms_of T (fun _ => hg) rfl rfl c_terms_of) (List.forall_mem_cons.mpr ⟨fun e => absurd e (by decide), List.forall_mem_cons.mpr ⟨fun e => absurd e (by decide), fun q z => nomatch z⟩⟩)
theorem t_term_at {fa : Addr} {fd : FuncData} (T : Tb P w K mg base g10 10) (hg : mg "gcd" = some (.builtin "math.gcd")) (F : Fun K "term_at" "term_at" (tp 21) fa fd) (m : mg "term_at" = some (.ref fa)) : Tb P w K mg base g11 11 :=
  T.add (ps := ["poly", "at", "point"]) m F.kp rfl (F.binds fun _ _ _ _ _ _ us hl => match us, hl with | [_, _, _], _ => rfl) (ct_of (c := cc ["poly", "at", "point"] [] 10) (ks := [false, false, false]) F s_term_at T (fun _ => hg) rfl rfl c_term_at) (List.forall_mem_cons.mpr ⟨fun e => absurd e (by decide), List.forall_mem_cons.mpr ⟨fun e => absurd e (by decide), fun q z => nomatch z⟩⟩)
theorem t_value_of {fa : Addr} {fd : FuncData} (T : Tb P w K mg base g11 11) (hg : mg "gcd" = some (.builtin "math.gcd")) (F : Fun K "value_of" "value_of" (tp 22) fa fd) (m : mg "value_of" = some (.ref fa)) : Tb P w K mg base g12 12 :=
  T.add (ps := ["poly", "point"]) m F.kp rfl (F.binds fun _ _ _ _ _ _ us hl => match us, hl with | [_, _], _ => rfl) (ct_of (c := cc ["poly", "point", "found", "at", "one"] [] 11) (ks := [false, false]) F s_value_of T (fun _ => hg) rfl rfl c_value_of) (List.forall_mem_cons.mpr ⟨fun e => absurd e (by decide), List.forall_mem_cons.mpr ⟨fun e => absurd e (by decide), fun q z => nomatch z⟩⟩)
theorem t_is_polynomial {fa : Addr} {fd : FuncData} (T : Tb P w K mg base g12 12) (hg : mg "gcd" = some (.builtin "math.gcd")) (F : Fun K "is_polynomial" "is_polynomial" (tp 23) fa fd) (m : mg "is_polynomial" = some (.ref fa)) : Tb P w K mg base g13 13 :=
  T.add (ps := ["value"]) m F.kp rfl (F.binds fun _ _ _ _ _ _ us hl => match us, hl with | [_], _ => rfl) (ct_of (c := cc ["value"] [] 12) (ks := [false]) F s_is_polynomial T (fun _ => hg) rfl rfl c_is_polynomial) (List.forall_mem_cons.mpr ⟨fun e => absurd e (by decide), List.forall_mem_cons.mpr ⟨fun _ => kb_of F rfl rfl (by decide) fun _ _ _ _ _ _ ws hl => match ws, hl with | [_], _ => rfl, fun q z => nomatch z⟩⟩)
theorem t_value_at {fa : Addr} {fd : FuncData} (T : Tb P w K mg base g13 13) (hg : mg "gcd" = some (.builtin "math.gcd")) (F : Fun K "value_at" "value_at" (tp 24) fa fd) (m : mg "value_at" = some (.ref fa)) : Tb P w K mg base g14 14 :=
  T.add (ps := ["poly", "point"]) m F.kp rfl (F.binds fun _ _ _ _ _ _ us hl => match us, hl with | [_, _], _ => rfl) (ct_of (c := cc ["poly", "point"] [] 13) (ks := [false, false]) F s_value_at T (fun _ => hg) rfl rfl c_value_at) (List.forall_mem_cons.mpr ⟨fun _ => kb_of F rfl rfl (by decide) fun _ _ _ _ _ _ ws hl => match ws, hl with | [_, _], _ => rfl, List.forall_mem_cons.mpr ⟨fun e => absurd e (by decide), fun q z => nomatch z⟩⟩)
theorem t_l_pot {fa : Addr} {fd : FuncData} (T : Tb P w K mg base g14 14) (hg : mg "gcd" = some (.builtin "math.gcd")) (F : Fun K "_law_pot" "_law_pot" (tp 26) fa fd) (m : mg "_law_pot" = some (.ref fa)) : Tb P w K mg base g15 15 :=
  T.add (ps := ["script", "k"]) m F.kp rfl (F.binds fun _ _ _ _ _ _ us hl => match us, hl with | [_, _], _ => rfl) (ct_of (c := cc ["script", "k", "cell"] [] 14) (ks := [false, false]) F s_l_pot T (fun _ => hg) rfl rfl c_l_pot) (List.forall_mem_cons.mpr ⟨fun e => absurd e (by decide), List.forall_mem_cons.mpr ⟨fun e => absurd e (by decide), fun q z => nomatch z⟩⟩)
theorem t_l_draw {fa : Addr} {fd : FuncData} (T : Tb P w K mg base g15 15) (hg : mg "gcd" = some (.builtin "math.gcd")) (F : Fun K "_law_draw" "_law_draw" (tp 27) fa fd) (m : mg "_law_draw" = some (.ref fa)) : Tb P w K mg base g16 16 :=
  T.add (ps := ["pot", "many"]) m F.kp rfl (F.binds fun _ _ _ _ _ _ us hl => match us, hl with | [_, _], _ => rfl) (ct_of (c := cc ["pot", "many", "digit"] [0] 15) (ks := [true, false]) F s_l_draw T (fun _ => hg) rfl rfl c_l_draw) (List.forall_mem_cons.mpr ⟨fun e => absurd e (by decide), List.forall_mem_cons.mpr ⟨fun e => absurd e (by decide), fun q z => nomatch z⟩⟩)
theorem t_l_pick {fa : Addr} {fd : FuncData} (T : Tb P w K mg base g16 16) (hg : mg "gcd" = some (.builtin "math.gcd")) (F : Fun K "_law_pick" "_law_pick" (tp 28) fa fd) (m : mg "_law_pick" = some (.ref fa)) : Tb P w K mg base g17 17 :=
  T.add (ps := ["pot", "some"]) m F.kp rfl (F.binds fun _ _ _ _ _ _ us hl => match us, hl with | [_, _], _ => rfl) (ct_of (c := cc ["pot", "some"] [0] 16) (ks := [true, false]) F s_l_pick T (fun _ => hg) rfl rfl c_l_pick) (List.forall_mem_cons.mpr ⟨fun e => absurd e (by decide), List.forall_mem_cons.mpr ⟨fun e => absurd e (by decide), fun q z => nomatch z⟩⟩)
theorem t_l_low {fa : Addr} {fd : FuncData} (T : Tb P w K mg base g17 17) (hg : mg "gcd" = some (.builtin "math.gcd")) (F : Fun K "_law_low" "_law_low" (tp 29) fa fd) (m : mg "_law_low" = some (.ref fa)) : Tb P w K mg base g18 18 :=
  T.add (ps := ["top", "bottom"]) m F.kp rfl (F.binds fun _ _ _ _ _ _ us hl => match us, hl with | [_, _], _ => rfl) (ct_of (c := cc ["top", "bottom", "sign", "near", "far"] [] 17) (ks := [false, false]) F s_l_low T (fun _ => hg) rfl rfl c_l_low) (List.forall_mem_cons.mpr ⟨fun e => absurd e (by decide), List.forall_mem_cons.mpr ⟨fun e => absurd e (by decide), fun q z => nomatch z⟩⟩)
theorem t_l_is_less {fa : Addr} {fd : FuncData} (T : Tb P w K mg base g18 18) (hg : mg "gcd" = some (.builtin "math.gcd")) (F : Fun K "_law_is_less" "_law_is_less" (tp 30) fa fd) (m : mg "_law_is_less" = some (.ref fa)) : Tb P w K mg base g19 19 :=
  T.add (ps := ["one", "other"]) m F.kp rfl (F.binds fun _ _ _ _ _ _ us hl => match us, hl with | [_, _], _ => rfl) (ct_of (c := cc ["one", "other"] [] 18) (ks := [false, false]) F s_l_is_less T (fun _ => hg) rfl rfl c_l_is_less) (List.forall_mem_cons.mpr ⟨fun e => absurd e (by decide), List.forall_mem_cons.mpr ⟨fun e => absurd e (by decide), fun q z => nomatch z⟩⟩)
theorem t_l_plus {fa : Addr} {fd : FuncData} (T : Tb P w K mg base g19 19) (hg : mg "gcd" = some (.builtin "math.gcd")) (F : Fun K "_law_plus" "_law_plus" (tp 31) fa fd) (m : mg "_law_plus" = some (.ref fa)) : Tb P w K mg base g20 20 :=
  T.add (ps := ["one", "other"]) m F.kp rfl (F.binds fun _ _ _ _ _ _ us hl => match us, hl with | [_, _], _ => rfl) (ct_of (c := cc ["one", "other"] [] 19) (ks := [false, false]) F s_l_plus T (fun _ => hg) rfl rfl c_l_plus) (List.forall_mem_cons.mpr ⟨fun e => absurd e (by decide), List.forall_mem_cons.mpr ⟨fun e => absurd e (by decide), fun q z => nomatch z⟩⟩)
theorem t_l_value {fa : Addr} {fd : FuncData} (T : Tb P w K mg base g20 20) (hg : mg "gcd" = some (.builtin "math.gcd")) (F : Fun K "_law_value" "_law_value" (tp 33) fa fd) (m : mg "_law_value" = some (.ref fa)) : Tb P w K mg base g21 21 :=
  T.add (ps := ["poly", "point"]) m F.kp rfl (F.binds fun _ _ _ _ _ _ us hl => match us, hl with | [_, _], _ => rfl) (ct_of (c := cc ["poly", "point", "found", "at", "one", "told"] [] 20) (ks := [false, false]) F s_l_value T (fun _ => hg) rfl rfl c_l_value) (List.forall_mem_cons.mpr ⟨fun e => absurd e (by decide), List.forall_mem_cons.mpr ⟨fun e => absurd e (by decide), fun q z => nomatch z⟩⟩)
theorem t_l_poly {fa : Addr} {fd : FuncData} (T : Tb P w K mg base g21 21) (hg : mg "gcd" = some (.builtin "math.gcd")) (F : Fun K "_law_poly" "_law_poly" (tp 36) fa fd) (m : mg "_law_poly" = some (.ref fa)) : Tb P w K mg base g22 22 :=
  T.add (ps := ["pot", "most"]) m F.kp rfl (F.binds fun _ _ _ _ _ _ us hl => match us, hl with | [_, _], _ => rfl) (ct_of (c := cc ["pot", "most", "many", "size", "found", "at"] [0, 4] 21) (ks := [true, false]) F s_l_poly T (fun _ => hg) rfl rfl c_l_poly) (List.forall_mem_cons.mpr ⟨fun e => absurd e (by decide), List.forall_mem_cons.mpr ⟨fun e => absurd e (by decide), fun q z => nomatch z⟩⟩)
theorem t_l_point {fa : Addr} {fd : FuncData} (T : Tb P w K mg base g22 22) (hg : mg "gcd" = some (.builtin "math.gcd")) (F : Fun K "_law_point" "_law_point" (tp 37) fa fd) (m : mg "_law_point" = some (.ref fa)) : Tb P w K mg base g23 23 :=
  T.add (ps := ["pot"]) m F.kp rfl (F.binds fun _ _ _ _ _ _ us hl => match us, hl with | [_], _ => rfl) (ct_of (c := cc ["pot", "bottom"] [0] 22) (ks := [true]) F s_l_point T (fun _ => hg) rfl rfl c_l_point) (List.forall_mem_cons.mpr ⟨fun e => absurd e (by decide), List.forall_mem_cons.mpr ⟨fun e => absurd e (by decide), fun q z => nomatch z⟩⟩)
theorem t_l_is_poly {fa : Addr} {fd : FuncData} (T : Tb P w K mg base g23 23) (hg : mg "gcd" = some (.builtin "math.gcd")) (F : Fun K "_law_is_poly" "_law_is_poly" (tp 40) fa fd) (m : mg "_law_is_poly" = some (.ref fa)) : Tb P w K mg base g24 24 :=
  T.add (ps := ["value"]) m F.kp rfl (F.binds fun _ _ _ _ _ _ us hl => match us, hl with | [_], _ => rfl) (ct_of (c := cc ["value", "some", "one"] [] 23) (ks := [false]) F s_l_is_poly T (fun _ => hg) rfl rfl c_l_is_poly) (List.forall_mem_cons.mpr ⟨fun e => absurd e (by decide), List.forall_mem_cons.mpr ⟨fun e => absurd e (by decide), fun q z => nomatch z⟩⟩)
theorem t_l_bent {fa : Addr} {fd : FuncData} (T : Tb P w K mg base g24 24) (hg : mg "gcd" = some (.builtin "math.gcd")) (F : Fun K "_law_bent" "_law_bent" (tp 41) fa fd) (m : mg "_law_bent" = some (.ref fa)) : Tb P w K mg base g25 25 :=
  T.add (ps := ["pot", "value"]) m F.kp rfl (F.binds fun _ _ _ _ _ _ us hl => match us, hl with | [_, _], _ => rfl) (ct_of (c := cc ["pot", "value", "at", "way", "some"] [0, 4] 24) (ks := [true, false]) F s_l_bent T (fun _ => hg) rfl rfl c_l_bent) (List.forall_mem_cons.mpr ⟨fun e => absurd e (by decide), List.forall_mem_cons.mpr ⟨fun e => absurd e (by decide), fun q z => nomatch z⟩⟩)
theorem t_l_right {fa : Addr} {fd : FuncData} (T : Tb P w K mg base g25 25) (hg : mg "gcd" = some (.builtin "math.gcd")) (F : Fun K "_law_right" "_law_right" (tp 42) fa fd) (m : mg "_law_right" = some (.ref fa)) : Tb P w K mg base g26 26 :=
  T.add (ps := ["pot"]) m F.kp rfl (F.binds fun _ _ _ _ _ _ us hl => match us, hl with | [_], _ => rfl) (ct_of (c := cc ["pot", "poly", "values", "value", "point", "due", "many", "like", "before", "turn"] [0] 25) (ks := [true]) F s_l_right T (fun _ => hg) rfl rfl c_l_right) (List.forall_mem_cons.mpr ⟨fun e => absurd e (by decide), List.forall_mem_cons.mpr ⟨fun e => absurd e (by decide), fun q z => nomatch z⟩⟩)
theorem t_law {fa : Addr} {fd : FuncData} (T : Tb P w K mg base g26 26) (hg : mg "gcd" = some (.builtin "math.gcd")) (F : Fun K "law" "law" (tp 43) fa fd) (m : mg "law" = some (.ref fa)) : Tb P w K mg base g27 27 :=
  T.add (ps := ["script"]) m F.kp rfl (F.binds fun _ _ _ _ _ _ us hl => match us, hl with | [_], _ => rfl) (ct_of (c := cc ["script", "k"] [] 26) (ks := [false]) F s_law T (fun _ => hg) rfl rfl c_law) (List.forall_mem_cons.mpr ⟨fun e => absurd e (by decide), List.forall_mem_cons.mpr ⟨fun e => absurd e (by decide), fun q z => nomatch z⟩⟩)
end
end k81

namespace k81
open PySem PySem.Spec PyProof.Rows L2 Dx
def isI : PyData → Bool
  | .int _ => true
  | _ => false
theorem e_is_integer (d : PyData) : f_is_integer [.dat d] = some (.dat (.bool (isI d)), [.dat d]) := by cases d <;> rfl
def isW (d : PyData) (lo hi : Int) : Bool := match d with
  | .int i => decide (lo ≤ i) && decide (i ≤ hi)
  | _ => false
theorem e_is_within (d : PyData) (lo hi : Int) : f_is_within [.dat d, .dat (.int lo), .dat (.int hi)] = some (.dat (.bool (isW d lo hi)), [.dat d, .dat (.int lo), .dat (.int hi)]) := by
  unfold f_is_within fnS i_is_within
  simp [sm, ownsAt, outs, argG, varI, isAbs, arsD, arD, refs, slsOf, slOf, putBack, pubD, getD, getO, setS, wipeE, backE, partD, parG, q1_is_integer, e_is_integer]
  cases d <;> simp [isI, isW, outs]
  rename_i i
  by_cases h : lo ≤ i <;> simp [h, outs]
def isT (d : PyData) (n : Int) : Bool := match d with
  | .tuple xs => decide ((xs.length : Int) = n)
  | _ => false
theorem e_is_tuple (d : PyData) (n : Int) : f_is_tuple [.dat d, .dat (.int n)] = some (.dat (.bool (isT d n)), [.dat d, .dat (.int n)]) := by
  unfold f_is_tuple fnS i_is_tuple
  cases d <;> simp [sm, ownsAt, outs, argG, varI, isAbs, arsD, arD, refs, slsOf, slOf, putBack, pubD, getD, getO, setS, wipeE, backE, partD, parG, isTupD, isT]
/-- a fraction in its lowest terms, the denominator positive -/
def lowI (t b : Int) : Int × Int := (t / (Nat.gcd t.natAbs b.natAbs : Nat), b / (Nat.gcd t.natAbs b.natAbs : Nat))
def frD (p : Int × Int) : PyData := .tuple [.int p.1, .int p.2]
/-- ints that all rules of multiplication take -/
def sm9 (i : Int) : Prop := -(2 ^ 200) < i ∧ i < 2 ^ 200
theorem sm9_small {i : Int} (h : sm9 i) : small i = true := small_of (n := 200) h.1 h.2 (by decide)
theorem e_fraction {t b : Int} (ht : sm9 t) (hb : sm9 b) (h0 : 0 < b) : f_fraction [.dat (.int t), .dat (.int b)] = some (.dat (frD (lowI t b)), [.dat (.int t), .dat (.int b)]) := by
  have g0 : 0 < (Nat.gcd t.natAbs b.natAbs : Int) := by
    have : 0 < Nat.gcd t.natAbs b.natAbs := Nat.gcd_pos_of_pos_right _ (by omega)
    omega
  have gs : small (Nat.gcd t.natAbs b.natAbs : Int) = true := sm9_small ⟨by omega, by
    have := Nat.gcd_le_right (n := b.natAbs) t.natAbs (by omega)
    have := hb.2
    omega⟩
  have o1 : small 1 = true := by rfl
  have m1 := bin_mul o1 (sm9_small ht)
  have m2 := bin_mul o1 (sm9_small hb)
  have d1 := bin_div (i := t) g0 gs
  have d2 := bin_div (i := b) g0 gs
  unfold f_fraction fnS i_fraction
  simp [sm, ownsAt, outs, argG, varI, isAbs, arsD, arD, refs, slsOf, slOf, putBack, pubD, getD, getO, setS, wipeE, backE, partD, parG, szE, h0, m1, m2, d1, d2, frD, lowI]
theorem e_is_less {p q : Int × Int} (h1 : sm9 p.1) (h2 : sm9 p.2) (h3 : sm9 q.1) (h4 : sm9 q.2) : f_is_less [.dat (frD p), .dat (frD q)] = some (.dat (.bool (decide (p.1 * q.2 < q.1 * p.2))), [.dat (frD p), .dat (frD q)]) := by
  have m1 := bin_mul (sm9_small h1) (sm9_small h4)
  have m2 := bin_mul (sm9_small h3) (sm9_small h2)
  unfold f_is_less fnS i_is_less frD
  simp [sm, ownsAt, outs, argG, varI, isAbs, arsD, arD, refs, slsOf, slOf, putBack, pubD, getD, getO, setS, wipeE, backE, partD, parG, m1, m2]
theorem e_l_is_less {p q : Int × Int} (h1 : sm9 p.1) (h2 : sm9 p.2) (h3 : sm9 q.1) (h4 : sm9 q.2) : f_l_is_less [.dat (frD p), .dat (frD q)] = some (.dat (.bool (decide (p.1 * q.2 < q.1 * p.2))), [.dat (frD p), .dat (frD q)]) := by
  have m1 := bin_mul (sm9_small h1) (sm9_small h4)
  have m2 := bin_mul (sm9_small h3) (sm9_small h2)
  unfold f_l_is_less fnS i_l_is_less frD
  simp [sm, ownsAt, outs, argG, varI, isAbs, arsD, arD, refs, slsOf, slOf, putBack, pubD, getD, getO, setS, wipeE, backE, partD, parG, m1, m2]
/-- a point that value_at takes -/
def ptOk (p : Int × Int) : Prop := -1000000000 < p.1 ∧ p.1 < 1000000000 ∧ 0 < p.2 ∧ p.2 < 1000000000 ∧ Nat.gcd p.1.natAbs p.2.natAbs = 1
theorem e_is_fraction_any {p : Int × Int} (h : ptOk p) : f_is_fraction_any [.dat (frD p)] = some (.dat (.bool true), [.dat (frD p)]) := by
  obtain ⟨h1, h2, h3, h4, h5⟩ := h
  have a1 : (-999999999 : Int) ≤ p.1 := by omega
  have a2 : p.1 ≤ 999999999 := by omega
  have a3 : (1 : Int) ≤ p.2 := by omega
  have a4 : p.2 ≤ 999999999 := by omega
  unfold f_is_fraction_any fnS i_is_fraction_any frD
  simp [sm, ownsAt, outs, argG, varI, isAbs, arsD, arD, refs, slsOf, slOf, putBack, pubD, getD, getO, setS, wipeE, backE, partD, parG, q5_is_tuple, q5_is_within, e_is_tuple, e_is_within, k5_MOST_TIME, isT, isW, a1, a2, a3, a4, h5]
theorem e_want_point {p : Int × Int} (h : ptOk p) : f_want_point [.dat (frD p)] = some (.dat .none, [.dat (frD p)]) := by
  have e := e_is_fraction_any h
  unfold f_want_point fnS i_want_point
  simp [sm, ownsAt, outs, argG, varI, isAbs, arsD, arD, refs, slsOf, slOf, putBack, pubD, getD, getO, setS, wipeE, backE, partD, parG, q8_is_fraction_any, e]
/-! ### polynomials -/
def okE (d : PyData) : Bool := isNon d || isW d (-1000000) 1000000
def isP (d : PyData) : Bool := match d with
  | .tuple xs => decide (1 ≤ (xs.length : Int)) && decide ((xs.length : Int) ≤ 13) && xs.all okE && xs.any fun d => !isNon d
  | _ => false
theorem ipa_c0 {xs : List PyData} (hl : xs.length ≤ 13) : (sm g6 [] wfuel i_is_polynomial_any_c0).e [some (.dat (.tuple xs)), none] = some (.frs (xs.map fun d => .bool (okE d)), [some (.dat (.tuple xs)), none]) := by
  unfold i_is_polynomial_any_c0
  refine lc_ev (ρ1 := [some (.dat (.tuple xs)), none]) (xs := xs) (by simp [sm, ownsAt, outs, argG, varI, isAbs, arsD, arD, refs, slsOf, slOf, putBack, pubD, getD, getO, setS, wipeE, backE, partD, parG]) (by simp) ?_
  rw [lcG_map (g := fun d => .bool (okE d)) xs [] (fun x _ => ⟨[some (.dat (.tuple xs)), some (.dat x)], .dat (.bool true), by simp [sm, ownsAt, outs, argG, varI, isAbs, arsD, arD, refs, slsOf, slOf, putBack, pubD, getD, getO, setS, wipeE, backE, partD, parG], by simp [sm, ownsAt, outs, argG, varI, isAbs, arsD, arD, refs, slsOf, slOf, putBack, pubD, getD, getO, setS, wipeE, backE, partD, parG], rfl, ?_, by simp [sm, ownsAt, outs, argG, varI, isAbs, arsD, arD, refs, slsOf, slOf, putBack, pubD, getD, getO, setS, wipeE, backE, partD, parG]⟩) (by simp [szE]; omega)]
  · simp
  · unfold i_is_polynomial_any_c0e
    simp [sm, ownsAt, outs, argG, varI, isAbs, arsD, arD, refs, slsOf, slOf, putBack, pubD, getD, getO, setS, wipeE, backE, partD, parG, k6_MOST_COEFFICIENT, q6_is_within, e_is_within]
    cases x <;> simp [isNon, okE, isW]
theorem ipa_c1 {xs : List PyData} (hl : xs.length ≤ 13) : (sm g6 [] wfuel i_is_polynomial_any_c1).e [some (.dat (.tuple xs)), none] = some (.frs (xs.map fun d => .bool (!isNon d)), [some (.dat (.tuple xs)), none]) := by
  unfold i_is_polynomial_any_c1
  refine lc_ev (ρ1 := [some (.dat (.tuple xs)), none]) (xs := xs) (by simp [sm, ownsAt, outs, argG, varI, isAbs, arsD, arD, refs, slsOf, slOf, putBack, pubD, getD, getO, setS, wipeE, backE, partD, parG]) (by simp) ?_
  rw [lcG_map (g := fun d => .bool (!isNon d)) xs [] (fun x _ => ⟨[some (.dat (.tuple xs)), some (.dat x)], .dat (.bool true), by simp [sm, ownsAt, outs, argG, varI, isAbs, arsD, arD, refs, slsOf, slOf, putBack, pubD, getD, getO, setS, wipeE, backE, partD, parG], by simp [sm, ownsAt, outs, argG, varI, isAbs, arsD, arD, refs, slsOf, slOf, putBack, pubD, getD, getO, setS, wipeE, backE, partD, parG], rfl, ?_, by simp [sm, ownsAt, outs, argG, varI, isAbs, arsD, arD, refs, slsOf, slOf, putBack, pubD, getD, getO, setS, wipeE, backE, partD, parG]⟩) (by simp [szE]; omega)]
  · simp
  · unfold i_is_polynomial_any_c1e
    simp [sm, ownsAt, outs, argG, varI, isAbs, arsD, arD, refs, slsOf, slOf, putBack, pubD, getD, getO, setS, wipeE, backE, partD, parG]
theorem allBl_of (xs : List PyData) (f : PyData → Bool) : allBl (xs.map fun d => .bool (f d)) = some (xs.map f) := by
  rw [show (xs.map fun d => PyData.bool (f d)) = (xs.map f).map PyData.bool by simp, allBl_map]
theorem e_is_polynomial_any (d : PyData) : f_is_polynomial_any [.dat d] = some (.dat (.bool (isP d)), [.dat d]) := by
  unfold f_is_polynomial_any fnS i_is_polynomial_any
  cases d with
  | tuple xs =>
    by_cases h1 : 1 ≤ (xs.length : Int)
    · by_cases h2 : (xs.length : Int) ≤ 13
      · have c0 := ipa_c0 (xs := xs) (by omega)
        have c1 := ipa_c1 (xs := xs) (by omega)
        have id1 : ∀ l : List Bool, (l.all id) = l.all fun b => b := fun l => rfl
        cases q : xs.all okE <;> simp [sm, ownsAt, outs, argG, varI, isAbs, arsD, arD, refs, slsOf, slOf, putBack, pubD, getD, getO, setS, wipeE, backE, partD, parG, k6_MOST_TERMS, isTupD, c0, c1, isP, h1, h2, allBl_of, q, List.all_map, List.any_map, Function.comp_def]
      · simp [sm, ownsAt, outs, argG, varI, isAbs, arsD, arD, refs, slsOf, slOf, putBack, pubD, getD, getO, setS, wipeE, backE, partD, parG, k6_MOST_TERMS, isTupD, isP, h1, h2, outs]
    · simp [sm, ownsAt, outs, argG, varI, isAbs, arsD, arD, refs, slsOf, slOf, putBack, pubD, getD, getO, setS, wipeE, backE, partD, parG, k6_MOST_TERMS, isTupD, isP, h1, outs]
  | _ => simp [sm, ownsAt, outs, argG, varI, isAbs, arsD, arD, refs, slsOf, slOf, putBack, pubD, getD, getO, setS, wipeE, backE, partD, parG, k6_MOST_TERMS, isTupD, isP, outs]
theorem e_want_poly {d : PyData} (h : isP d = true) : f_want_poly [.dat d] = some (.dat .none, [.dat d]) := by
  have e := e_is_polynomial_any d
  unfold f_want_poly fnS i_want_poly
  simp [sm, ownsAt, outs, argG, varI, isAbs, arsD, arD, refs, slsOf, slOf, putBack, pubD, getD, getO, setS, wipeE, backE, partD, parG, q7_is_polynomial_any, e, h]
theorem e_is_polynomial (d : PyData) : f_is_polynomial [.dat d] = some (.dat (.bool (isP d)), [.dat d]) := by
  have e := e_is_polynomial_any d
  unfold f_is_polynomial fnS i_is_polynomial
  simp [sm, ownsAt, outs, argG, varI, isAbs, arsD, arD, refs, slsOf, slOf, putBack, pubD, getD, getO, setS, wipeE, backE, partD, parG, q12_is_polynomial_any, e]
/-! ### lowest terms by Euclid -/
def mu4 (ρ : Env1) : Nat := match ρ[4]? with
  | some (some (Sl.dat (PyData.int y))) => y.natAbs
  | _ => 0
theorem low_w0 {t b : Int} (hb : sm9 b) : ∃ ρ', (sm g17 [] wfuel i_l_low_w0).s [some (.dat (.int t)), some (.dat (.int b)), none, some (.dat (.int t.natAbs)), some (.dat (.int b.natAbs))] = some (.nx ρ') ∧
    ρ' = [some (.dat (.int t)), some (.dat (.int b)), none, some (.dat (.int (Nat.gcd t.natAbs b.natAbs))), some (.dat (.int 0))] := by
  unfold i_l_low_w0
  obtain ⟨ρ0, r, ρ', ⟨x, y, rfl, hg⟩, h2, h3, h4⟩ := whileG_inv (c := (sm g17 [] wfuel (.cmp .Gt (.var 4) (.int 0))).e) (b := (sm g17 [] wfuel i_l_low_w0b).s)
    (fun ρ => ∃ x y : Nat, ρ = [some (.dat (.int t)), some (.dat (.int b)), none, some (.dat (.int x)), some (.dat (.int y))] ∧ Nat.gcd x y = Nat.gcd t.natAbs b.natAbs) mu4 wfuel
    [some (.dat (.int t)), some (.dat (.int b)), none, some (.dat (.int t.natAbs)), some (.dat (.int b.natAbs))] ⟨_, _, rfl, rfl⟩ (by
      show b.natAbs < 2 ^ 5000
      have h1 : (b.natAbs : Int) < 2 ^ 200 := by
        have := hb.1
        have := hb.2
        omega
      have h2 : b.natAbs < 2 ^ 200 := by exact_mod_cast h1
      exact Nat.lt_of_lt_of_le h2 (Nat.pow_le_pow_right (by decide) (by decide))) (by
      rintro ρ ⟨x, y, rfl, hg⟩
      refine ⟨.dat (.bool (decide (0 < y))), [some (.dat (.int t)), some (.dat (.int b)), none, some (.dat (.int x)), some (.dat (.int y))], decide (0 < y), by simp [sm, ownsAt, outs, argG, varI, isAbs, arsD, arD, refs, slsOf, slOf, putBack, pubD, getD, getO, setS, wipeE, backE, partD, parG], rfl, fun hy => ?_⟩
      have hy : 0 < y := of_decide_eq_true hy
      refine ⟨[some (.dat (.int t)), some (.dat (.int b)), none, some (.dat (.int y)), some (.dat (.int (x % y : Nat)))], .inl ?_, ⟨y, x % y, rfl, ?_⟩, ?_⟩
      · unfold i_l_low_w0b
        have m := bin_mod (i := (x : Int)) (j := (y : Int)) (by omega)
        simp [sm, ownsAt, outs, argG, varI, isAbs, arsD, arD, refs, slsOf, slOf, putBack, pubD, getD, getO, setS, wipeE, backE, partD, parG, m]
      · rw [← hg, Nat.gcd_comm x y, Nat.gcd_rec y x, Nat.gcd_comm]
      · show ((x % y : Nat) : Int).natAbs < ((y : Nat) : Int).natAbs
        have := Nat.mod_lt x hy
        omega)
  refine ⟨_, h4, ?_⟩
  simp [sm, ownsAt, outs, argG, varI, isAbs, arsD, arD, refs, slsOf, slOf, putBack, pubD, getD, getO, setS, wipeE, backE, partD, parG] at h2
  obtain ⟨rfl, rfl⟩ := h2
  have hy : y = 0 := by simpa using h3
  subst hy
  simp at hg
  rw [hg]; rfl
end k81

namespace k81
open PySem PySem.Spec PyProof.Rows L2 Dx
theorem abs_if (i : Int) : (if i < 0 then -i else i) = (i.natAbs : Int) := by split <;> omega
theorem e_l_low {t b : Int} (ht : sm9 t) (hb : sm9 b) (h0 : 0 < b) : f_l_low [.dat (.int t), .dat (.int b)] = some (.dat (frD (lowI t b)), [.dat (.int t), .dat (.int b)]) := by
  obtain ⟨ρ', hw, rfl⟩ := low_w0 (t := t) hb
  have g0 : 0 < (Nat.gcd t.natAbs b.natAbs : Int) := by
    have : 0 < Nat.gcd t.natAbs b.natAbs := Nat.gcd_pos_of_pos_right _ (by omega)
    omega
  have gs : small (Nat.gcd t.natAbs b.natAbs : Int) = true := sm9_small ⟨by omega, by
    have := Nat.gcd_le_right (n := b.natAbs) t.natAbs (by omega)
    have := hb.2
    omega⟩
  have o1 : small 1 = true := by rfl
  have m1 := bin_mul o1 (sm9_small ht)
  have m2 := bin_mul o1 (sm9_small hb)
  have d1 := bin_div (i := t) g0 gs
  have d2 := bin_div (i := b) g0 gs
  have mx : (if ((Nat.gcd t.natAbs b.natAbs : Nat) : Int) > 1 then ((Nat.gcd t.natAbs b.natAbs : Nat) : Int) else 1) = (Nat.gcd t.natAbs b.natAbs : Nat) := by split <;> omega
  have mx' : (if 1 < ((Nat.gcd t.natAbs b.natAbs : Nat) : Int) then ((Nat.gcd t.natAbs b.natAbs : Nat) : Int) else 1) = (Nat.gcd t.natAbs b.natAbs : Nat) := mx
  unfold f_l_low fnS i_l_low
  simp [sm, ownsAt, outs, argG, varI, isAbs, arsD, arD, refs, slsOf, slOf, putBack, pubD, getD, getO, setS, wipeE, backE, partD, parG, szE, abs_if, hw, h0, m1, m2, mx', d1, d2, frD, lowI]
/-- sizes of fractions -/
def fOk (p : Int × Int) : Prop := -(2 ^ 90) < p.1 ∧ p.1 < 2 ^ 90 ∧ 0 < p.2 ∧ p.2 < 2 ^ 90
theorem fOk.a {p : Int × Int} (h : fOk p) : sm9 p.1 := ⟨by have := h.1; omega, by have := h.2.1; omega⟩
theorem fOk.b {p : Int × Int} (h : fOk p) : sm9 p.2 := ⟨by have := h.2.2.1; omega, by have := h.2.2.2; omega⟩
theorem div_bd {t : Int} {g : Nat} (h : 0 < g) : (t / (g : Int)).natAbs ≤ t.natAbs := Int.natAbs_ediv_le_natAbs t g
theorem low_ok {t b : Int} (h1 : -(2 ^ 90) < t) (h2 : t < 2 ^ 90) (h3 : 0 < b) (h4 : b < 2 ^ 90) : fOk (lowI t b) := by
  have g0 : 0 < Nat.gcd t.natAbs b.natAbs := Nat.gcd_pos_of_pos_right _ (by omega)
  have a := div_bd (t := t) g0
  have c := div_bd (t := b) g0
  have d : 0 < b / (Nat.gcd t.natAbs b.natAbs : Nat) := Int.ediv_pos_of_pos_of_dvd h3 (by omega) (by
    have := Nat.gcd_dvd_right t.natAbs b.natAbs
    exact Int.ofNat_dvd_left.mpr this)
  refine ⟨?_, ?_, d, ?_⟩ <;> (simp only [lowI]; omega)
theorem e_l_plus {p q : Int × Int} (h : -(2 ^ 90) < p.1 * q.2 + q.1 * p.2 ∧ p.1 * q.2 + q.1 * p.2 < 2 ^ 90 ∧ 0 < p.2 * q.2 ∧ p.2 * q.2 < 2 ^ 90) (hp : fOk p) (hq : fOk q) :
    f_l_plus [.dat (frD p), .dat (frD q)] = some (.dat (frD (lowI (p.1 * q.2 + q.1 * p.2) (p.2 * q.2))), [.dat (frD p), .dat (frD q)]) := by
  have m1 := bin_mul (sm9_small hp.a) (sm9_small hq.b)
  have m2 := bin_mul (sm9_small hq.a) (sm9_small hp.b)
  have m3 := bin_mul (sm9_small hp.b) (sm9_small hq.b)
  have e := e_l_low (t := p.1 * q.2 + q.1 * p.2) (b := p.2 * q.2) ⟨by omega, by omega⟩ ⟨by omega, by omega⟩ h.2.2.1
  unfold f_l_plus fnS i_l_plus frD
  simp [sm, ownsAt, outs, argG, varI, isAbs, arsD, arD, refs, slsOf, slOf, putBack, pubD, getD, getO, setS, wipeE, backE, partD, parG, m1, m2, m3, q19_l_low, e]
  rfl
/-! ### values -/
def optD : Option Int → PyData
  | none => .none
  | some i => .int i
def polD (p : List (Option Int)) : PyData := .tuple (p.map optD)
def frO : Option (Int × Int) → PyData
  | none => .none
  | some p => frD p
def lessF (p q : Int × Int) : Bool := decide (p.1 * q.2 < q.1 * p.2)
def best (f : Option (Int × Int)) (t : Int × Int) : Option (Int × Int) := match f with
  | none => some t
  | some g => if lessF g t then some t else some g
/-- a term at a point -/
def trm (pt : Int × Int) (at' : Nat) (one : Int) : Int × Int := lowI (one * pt.2 + at' * pt.1) pt.2
/-- the value, place by place -/
def valF (pt : Int × Int) : List (Option Int) → Nat → Option (Int × Int) → Option (Int × Int)
  | [], _, f => f
  | none :: r, i, f => valF pt r (i + 1) f
  | some one :: r, i, f => valF pt r (i + 1) (best f (trm pt i one))
def ptB (pt : Int × Int) : Prop := -(2 ^ 40) < pt.1 ∧ pt.1 < 2 ^ 40 ∧ 0 < pt.2 ∧ pt.2 < 2 ^ 40
def polB (p : List (Option Int)) : Prop := p.length ≤ 100 ∧ ∀ i ∈ p, ∀ n, i = some n → -(2 ^ 40) < n ∧ n < 2 ^ 40
theorem mul_bd {a b : Int} {m n : Nat} (h1 : a.natAbs ≤ m) (h2 : b.natAbs ≤ n) : (a * b).natAbs ≤ m * n := by
  rw [Int.natAbs_mul]; exact Nat.mul_le_mul h1 h2
theorem trm_bd {pt : Int × Int} {i : Nat} {one : Int} (hp : ptB pt) (hi : i ≤ 100) (h1 : -(2 ^ 40) < one) (h2 : one < 2 ^ 40) : -(2 ^ 90) < one * pt.2 + i * pt.1 ∧ one * pt.2 + i * pt.1 < 2 ^ 90 := by
  obtain ⟨a1, a2, a3, a4⟩ := hp
  have b1 := mul_bd (a := one) (b := pt.2) (m := 2 ^ 40) (n := 2 ^ 40) (by omega) (by omega)
  have b2 := mul_bd (a := (i : Int)) (b := pt.1) (m := 100) (n := 2 ^ 40) (by omega) (by omega)
  generalize one * pt.2 = u at b1 ⊢
  generalize (i : Int) * pt.1 = v at b2 ⊢
  omega
theorem trm_ok {pt : Int × Int} {i : Nat} {one : Int} (hp : ptB pt) (hi : i ≤ 100) (h1 : -(2 ^ 40) < one) (h2 : one < 2 ^ 40) : fOk (trm pt i one) := by
  obtain ⟨b1, b2⟩ := trm_bd hp hi h1 h2
  obtain ⟨a1, a2, a3, a4⟩ := hp
  exact low_ok b1 b2 a3 (by omega)
theorem e_term_at {p : List (Option Int)} {pt : Int × Int} {i : Nat} {one : Int} (hp : ptB pt) (hi : p[i]? = some (some one)) (hP : polB p) : f_term_at [.dat (polD p), .dat (.int i), .dat (frD pt)] = some (.dat (frD (trm pt i one)), [.dat (polD p), .dat (.int i), .dat (frD pt)]) := by
  obtain ⟨h1, h2⟩ := hP.2 _ (List.mem_of_getElem? hi) one rfl
  have hil : i < p.length := (List.getElem?_eq_some_iff.mp hi).1
  have hl := hP.1
  obtain ⟨b1, b2⟩ := trm_bd hp (i := i) (by omega) h1 h2
  obtain ⟨a1, a2, a3, a4⟩ := hp
  have g : atI (p.map optD) (i : Int) = some (.int one) := at_nat (by rw [List.getElem?_map, hi]; rfl)
  have m1 := bin_mul (i := one) (j := pt.2) (sm9_small ⟨by omega, by omega⟩) (sm9_small ⟨by omega, by omega⟩)
  have m2 := bin_mul (i := (i : Int)) (j := pt.1) (sm9_small ⟨by omega, by omega⟩) (sm9_small ⟨by omega, by omega⟩)
  have e := e_fraction (t := one * pt.2 + i * pt.1) (b := pt.2) ⟨by omega, by omega⟩ ⟨by omega, by omega⟩ a3
  unfold f_term_at fnS i_term_at polD frD
  simp [sm, ownsAt, outs, argG, varI, isAbs, arsD, arD, refs, slsOf, slOf, putBack, pubD, getD, getO, setS, wipeE, backE, partD, parG, g, m1, m2, q10_fraction, e]
  rfl
end k81

namespace k81
open PySem PySem.Spec PyProof.Rows L2 Dx
def enP : PyData → Bool
  | .tuple [_, x] => !isNon x
  | _ => false
def enG : PyData → PyData
  | .tuple [i, _] => i
  | _ => .none
def termsFrom : List (Option Int) → Nat → List Nat
  | [], _ => []
  | none :: r, i => termsFrom r (i + 1)
  | some _ :: r, i => i :: termsFrom r (i + 1)
theorem enum_terms : ∀ (p : List (Option Int)) (k : Nat), ((((p.map optD).mapIdx fun (i : Nat) x => PyData.tuple [.int (i + k : Nat), x]).filter enP).map enG) = (termsFrom p k).map fun (i : Nat) => .int i
  | [], _ => rfl
  | o :: r, k => by
    have ih := enum_terms r (k + 1)
    have e : (fun (i : Nat) (x : PyData) => PyData.tuple [.int ((i + 1 + k : Nat)), x]) = fun (i : Nat) x => PyData.tuple [.int (i + (k + 1) : Nat), x] := by
      funext i x; rw [show i + 1 + k = i + (k + 1) by omega]
    rw [List.map_cons, List.mapIdx_cons, e]
    cases o with
    | none =>
      rw [List.filter_cons_of_neg (by simp [enP, optD])]
      exact ih
    | some n =>
      rw [List.filter_cons_of_pos (by simp [enP, optD, isNon]), List.map_cons, ih]
      show _ = PyData.int (k : Nat) :: _
      simp [enG]
theorem e_terms_of {p : List (Option Int)} (hl : p.length ≤ 100) : f_terms_of [.dat (polD p)] = some (.frs ((termsFrom p 0).map fun (i : Nat) => .int i), [.dat (polD p)]) := by
  have h : (sm g9 [] wfuel i_terms_of_c0).e [some (.dat (polD p)), none, none] = some (.frs ((termsFrom p 0).map fun (i : Nat) => .int i), [some (.dat (polD p)), none, none]) := by
    unfold i_terms_of_c0
    refine lc_ev (ρ1 := [some (.dat (polD p)), none, none]) (xs := (p.map optD).mapIdx fun (i : Nat) x => PyData.tuple [.int i, x]) (by simp [sm, ownsAt, outs, argG, varI, isAbs, arsD, arD, refs, slsOf, slOf, putBack, pubD, getD, getO, setS, wipeE, backE, partD, parG, polD]) (by simp) ?_
    rw [lcG_fm (p := enP) (g := enG) _ [] (fun x hx => ?_) (by simp [szE]; omega)]
    · have := enum_terms p 0
      simp only [Nat.add_zero] at this
      rw [this]; rfl
    · obtain ⟨i, hi, rfl⟩ := List.mem_mapIdx.mp hx
      generalize (p.map optD)[i] = y
      refine ⟨[some (.dat (polD p)), some (.dat (.int i)), some (.dat y)], .dat (.bool (!isNon y)), by simp [sm, ownsAt, outs, argG, varI, isAbs, arsD, arD, refs, slsOf, slOf, putBack, pubD, getD, getO, setS, wipeE, backE, partD, parG], ?_, rfl, fun _ => ⟨.dat (.int i), ?_, rfl⟩, by simp [sm, ownsAt, outs, argG, varI, isAbs, arsD, arD, refs, slsOf, slOf, putBack, pubD, getD, getO, setS, wipeE, backE, partD, parG]⟩
      · unfold i_terms_of_c0q
        simp [sm, ownsAt, outs, argG, varI, isAbs, arsD, arD, refs, slsOf, slOf, putBack, pubD, getD, getO, setS, wipeE, backE, partD, parG]
      · unfold i_terms_of_c0e
        simp [sm, ownsAt, outs, argG, varI, isAbs, arsD, arD, refs, slsOf, slOf, putBack, pubD, getD, getO, setS, wipeE, backE, partD, parG]
  unfold f_terms_of fnS i_terms_of
  simp [sm, ownsAt, outs, argG, varI, isAbs, arsD, arD, refs, slsOf, slOf, putBack, pubD, getD, getO, setS, wipeE, backE, partD, parG, h, outs]
def fO (f : Option (Int × Int)) : Prop := ∀ g, f = some g → fOk g
theorem best_ok {f : Option (Int × Int)} {t : Int × Int} (h : fO f) (ht : fOk t) : fO (best f t) := by
  intro g e
  unfold best at e
  split at e
  · cases e; exact ht
  · split at e
    · cases e; exact ht
    · cases e; exact h _ rfl
theorem isNon_frO (f : Option (Int × Int)) : isNon (frO f) = f.isNone := by cases f <;> rfl
theorem vof_body {p : List (Option Int)} {pt : Int × Int} {i : Nat} {one : Int} {f : Option (Int × Int)} {b : Option Sl} (hp : ptB pt) (hi : p[i]? = some (some one)) (hP : polB p) (hf : fO f) :
    (sm g11 [] wfuel i_value_of_w0b).s [some (.dat (polD p)), some (.dat (frD pt)), some (.dat (frO f)), some (.dat (.int i)), b] =
      some (.nx [some (.dat (polD p)), some (.dat (frD pt)), some (.dat (frO (best f (trm pt i one)))), some (.dat (.int i)), some (.dat (frD (trm pt i one)))]) := by
  have e1 := e_term_at hp hi hP
  obtain ⟨h1, h2⟩ := hP.2 _ (List.mem_of_getElem? hi) one rfl
  have hil : i < p.length := (List.getElem?_eq_some_iff.mp hi).1
  have ht := trm_ok hp (i := i) (by have := hP.1; omega) h1 h2
  unfold i_value_of_w0b
  cases f with
  | none => simp [sm, ownsAt, outs, argG, varI, isAbs, arsD, arD, refs, slsOf, slOf, putBack, pubD, getD, getO, setS, wipeE, backE, partD, parG, q11_term_at, e1, frO, best]
  | some g =>
    have hg := hf g rfl
    have e2 := e_is_less hg.a hg.b ht.a ht.b
    cases q : lessF g (trm pt i one) with
    | true =>
      rw [show decide (g.1 * (trm pt i one).2 < (trm pt i one).1 * g.2) = true from q] at e2
      simp [sm, ownsAt, outs, argG, varI, isAbs, arsD, arD, refs, slsOf, slOf, putBack, pubD, getD, getO, setS, wipeE, backE, partD, parG, q11_term_at, e1, q11_is_less, e2, frO, best, q]
      simp [frD]
    | false =>
      rw [show decide (g.1 * (trm pt i one).2 < (trm pt i one).1 * g.2) = false from q] at e2
      simp [sm, ownsAt, outs, argG, varI, isAbs, arsD, arD, refs, slsOf, slOf, putBack, pubD, getD, getO, setS, wipeE, backE, partD, parG, q11_term_at, e1, q11_is_less, e2, frO, best, q]
      simp [frD]
theorem valF_ok {pt : Int × Int} (hp : ptB pt) : ∀ (r : List (Option Int)) (i : Nat) (f : Option (Int × Int)), i + r.length ≤ 100 → (∀ o ∈ r, ∀ n, o = some n → -(2 ^ 40) < n ∧ n < 2 ^ 40) → fO f → fO (valF pt r i f)
  | [], _, _, _, _, hf => hf
  | none :: r, i, f, hl, hb, hf => valF_ok hp r (i + 1) f (by simp at hl; omega) (fun o ho => hb o (List.mem_cons_of_mem _ ho)) hf
  | some n :: r, i, f, hl, hb, hf => by
    obtain ⟨h1, h2⟩ := hb _ List.mem_cons_self n rfl
    exact valF_ok hp r (i + 1) _ (by simp at hl; omega) (fun o ho => hb o (List.mem_cons_of_mem _ ho)) (best_ok hf (trm_ok hp (by omega) h1 h2))
theorem vof_loop {p : List (Option Int)} {pt : Int × Int} (hp : ptB pt) (hP : polB p) : ∀ (r : List (Option Int)) (i : Nat) (f : Option (Int × Int)) (a b : Option Sl), (∀ j o, r[j]? = some o → p[i + j]? = some o) → fO f →
    ∃ a' b', forG (sm g11 [] wfuel (.tnm 3)).t (sm g11 [] wfuel i_value_of_w0b).s ((termsFrom r i).map fun (i : Nat) => .int i) [some (.dat (polD p)), some (.dat (frD pt)), some (.dat (frO f)), a, b] =
      some (.nx [some (.dat (polD p)), some (.dat (frD pt)), some (.dat (frO (valF pt r i f))), a', b'])
  | [], i, f, a, b, _, _ => ⟨a, b, rfl⟩
  | none :: r, i, f, a, b, h, hf => vof_loop hp hP r (i + 1) f a b (fun j o e => by have := h (j + 1) o (by simpa using e); rwa [show i + (j + 1) = i + 1 + j by omega] at this) hf
  | some n :: r, i, f, a, b, h, hf => by
    have hi : p[i]? = some (some n) := h 0 _ rfl
    obtain ⟨h1, h2⟩ := hP.2 _ (List.mem_of_getElem? hi) n rfl
    have hil : i < p.length := (List.getElem?_eq_some_iff.mp hi).1
    obtain ⟨a', b', ih⟩ := vof_loop hp hP r (i + 1) (best f (trm pt i n)) (some (.dat (.int i))) (some (.dat (frD (trm pt i n)))) (fun j o e => by have := h (j + 1) o (by simpa using e); rwa [show i + (j + 1) = i + 1 + j by omega] at this)
      (best_ok hf (trm_ok hp (by have := hP.1; omega) h1 h2))
    refine ⟨a', b', ?_⟩
    have bd := vof_body (b := b) hp hi hP hf
    show forG _ _ (PyData.int i :: (termsFrom r (i + 1)).map fun (i : Nat) => .int i) _ = _
    unfold forG
    have t1 : (sm g11 [] wfuel (.tnm 3)).t (.int i) [some (.dat (polD p)), some (.dat (frD pt)), some (.dat (frO f)), a, b] = some [some (.dat (polD p)), some (.dat (frD pt)), some (.dat (frO f)), some (.dat (.int i)), b] := by simp [sm, ownsAt, outs, argG, varI, isAbs, arsD, arD, refs, slsOf, slOf, putBack, pubD, getD, getO, setS, wipeE, backE, partD, parG]
    rw [t1]
    simp only [Option.bind_eq_bind, Option.bind_some, bd]
    exact ih
theorem e_value_of {p : List (Option Int)} {pt : Int × Int} (hp : ptB pt) (hP : polB p) : f_value_of [.dat (polD p), .dat (frD pt)] = some (.dat (frO (valF pt p 0 none)), [.dat (polD p), .dat (frD pt)]) := by
  obtain ⟨a', b', h⟩ := vof_loop hp hP p 0 none none none (fun j o e => by simpa using e) (fun g e => by cases e)
  have w : (sm g11 [] wfuel i_value_of_w0).s [some (.dat (polD p)), some (.dat (frD pt)), some (.dat .none), none, none] = some (.nx [some (.dat (polD p)), some (.dat (frD pt)), some (.dat (frO (valF pt p 0 none))), a', b']) := by
    unfold i_value_of_w0
    refine for_ev (ρ1 := [some (.dat (polD p)), some (.dat (frD pt)), some (.dat .none), none, none]) (xs := (termsFrom p 0).map fun (i : Nat) => .int i) ?_ h
    simp [sm, ownsAt, outs, argG, varI, isAbs, arsD, arD, refs, slsOf, slOf, putBack, pubD, getD, getO, setS, wipeE, backE, partD, parG, q11_terms_of, e_terms_of hP.1]
  unfold f_value_of fnS i_value_of
  simp [sm, ownsAt, outs, argG, varI, isAbs, arsD, arD, refs, slsOf, slOf, putBack, pubD, getD, getO, setS, wipeE, backE, partD, parG, w, outs]
theorem e_value_at {p : List (Option Int)} {pt : Int × Int} (hp : ptOk pt) (hP : isP (polD p) = true) (hB : polB p) : f_value_at [.dat (polD p), .dat (frD pt)] = some (.dat (frO (valF pt p 0 none)), [.dat (polD p), .dat (frD pt)]) := by
  have e1 := e_want_poly hP
  have e2 := e_want_point hp
  obtain ⟨h1, h2, h3, h4, h5⟩ := hp
  have e3 := e_value_of (p := p) (pt := pt) ⟨by omega, by omega, h3, by omega⟩ hB
  unfold f_value_at fnS i_value_at
  simp [sm, ownsAt, outs, argG, varI, isAbs, arsD, arD, refs, slsOf, slOf, putBack, pubD, getD, getO, setS, wipeE, backE, partD, parG, q13_want_poly, q13_want_point, q13_value_of, e1, e2, e3, outs]
/-! ### the law's own value -/
theorem lv_body {p : List (Option Int)} {pt : Int × Int} {i : Nat} {o : Option Int} {f : Option (Int × Int)} {c : Option Sl} (hp : ptB pt) (hi : i ≤ 100) (hb : ∀ n, o = some n → -(2 ^ 40) < n ∧ n < 2 ^ 40) (hf : fO f) :
    ∃ c', (sm g20 [] wfuel i_l_value_w0b).s [some (.dat (polD p)), some (.dat (frD pt)), some (.dat (frO f)), some (.dat (.int i)), some (.dat (optD o)), c] =
      some (.nx [some (.dat (polD p)), some (.dat (frD pt)), some (.dat (frO (valF pt [o] i f))), some (.dat (.int i)), some (.dat (optD o)), c']) := by
  unfold i_l_value_w0b
  cases o with
  | none => exact ⟨c, by simp [sm, ownsAt, outs, argG, varI, isAbs, arsD, arD, refs, slsOf, slOf, putBack, pubD, getD, getO, setS, wipeE, backE, partD, parG, optD, valF]⟩
  | some one =>
    obtain ⟨h1, h2⟩ := hb one rfl
    obtain ⟨b1, b2⟩ := trm_bd hp hi h1 h2
    have ht := trm_ok hp hi h1 h2
    obtain ⟨a1, a2, a3, a4⟩ := hp
    have m1 := bin_mul (i := one) (j := pt.2) (sm9_small ⟨by omega, by omega⟩) (sm9_small ⟨by omega, by omega⟩)
    have m2 := bin_mul (i := (i : Int)) (j := pt.1) (sm9_small ⟨by omega, by omega⟩) (sm9_small ⟨by omega, by omega⟩)
    have e := e_l_low (t := one * pt.2 + i * pt.1) (b := pt.2) ⟨by omega, by omega⟩ ⟨by omega, by omega⟩ a3
    refine ⟨some (.dat (frD (trm pt i one))), ?_⟩
    rw [show lowI (one * pt.2 + i * pt.1) pt.2 = trm pt i one from rfl] at e
    cases f with
    | none => simp [sm, ownsAt, outs, argG, varI, isAbs, arsD, arD, refs, slsOf, slOf, putBack, pubD, getD, getO, setS, wipeE, backE, partD, parG, frD, m1, m2, q20_l_low, e, frO, best, optD, valF, isNon]
    | some g =>
      have hg := hf g rfl
      have e2 := e_l_is_less hg.a hg.b ht.a ht.b
      cases q : lessF g (trm pt i one) with
      | true =>
        rw [show decide (g.1 * (trm pt i one).2 < (trm pt i one).1 * g.2) = true from q] at e2
        simp only [frD] at e2 e
        simp [sm, ownsAt, outs, argG, varI, isAbs, arsD, arD, refs, slsOf, slOf, putBack, pubD, getD, getO, setS, wipeE, backE, partD, parG, frD, m1, m2, q20_l_low, e, frO, best, optD, valF, isNon, q20_l_is_less, q, e2]
      | false =>
        rw [show decide (g.1 * (trm pt i one).2 < (trm pt i one).1 * g.2) = false from q] at e2
        simp only [frD] at e2 e
        simp [sm, ownsAt, outs, argG, varI, isAbs, arsD, arD, refs, slsOf, slOf, putBack, pubD, getD, getO, setS, wipeE, backE, partD, parG, frD, m1, m2, q20_l_low, e, frO, best, optD, valF, isNon, q20_l_is_less, q, e2]
theorem valF_cons (pt : Int × Int) (o : Option Int) (r : List (Option Int)) (i : Nat) (f : Option (Int × Int)) : valF pt (o :: r) i f = valF pt r (i + 1) (valF pt [o] i f) := by
  cases o <;> rfl
theorem lv_loop {p : List (Option Int)} {pt : Int × Int} (hp : ptB pt) : ∀ (r : List (Option Int)) (i : Nat) (f : Option (Int × Int)) (a b c : Option Sl), i + r.length ≤ 100 → (∀ o ∈ r, ∀ n, o = some n → -(2 ^ 40) < n ∧ n < 2 ^ 40) → fO f →
    ∃ a' b' c', forG (sm g20 [] wfuel (.ttp (.cons (.tnm 3) (.cons (.tnm 4) .nil)))).t (sm g20 [] wfuel i_l_value_w0b).s ((r.map optD).mapIdx fun (k : Nat) x => PyData.tuple [.int (k + i : Nat), x]) [some (.dat (polD p)), some (.dat (frD pt)), some (.dat (frO f)), a, b, c] =
      some (.nx [some (.dat (polD p)), some (.dat (frD pt)), some (.dat (frO (valF pt r i f))), a', b', c'])
  | [], i, f, a, b, c, _, _, _ => ⟨a, b, c, rfl⟩
  | o :: r, i, f, a, b, c, hl, hb, hf => by
    simp only [List.length_cons] at hl
    have ho := hb o List.mem_cons_self
    obtain ⟨c1, bd⟩ := lv_body (p := p) (c := c) (o := o) hp (by omega : i ≤ 100) ho hf
    have hf1 : fO (valF pt [o] i f) := valF_ok hp [o] i f (by simp; omega) (fun x hx => by
      have : x = o := by simpa using hx
      subst this; exact ho) hf
    obtain ⟨a', b', c', ih⟩ := lv_loop hp r (i + 1) (valF pt [o] i f) (some (.dat (.int i))) (some (.dat (optD o))) c1 (by omega) (fun x hx => hb x (List.mem_cons_of_mem _ hx)) hf1
    refine ⟨a', b', c', ?_⟩
    have e : (fun (k : Nat) (x : PyData) => PyData.tuple [.int ((k + 1 + i : Nat)), x]) = fun (k : Nat) x => PyData.tuple [.int (k + (i + 1) : Nat), x] := by
      funext k x; rw [show k + 1 + i = k + (i + 1) by omega]
    rw [List.map_cons, List.mapIdx_cons, e, Nat.zero_add, valF_cons]
    unfold forG
    have t1 : (sm g20 [] wfuel (.ttp (.cons (.tnm 3) (.cons (.tnm 4) .nil)))).t (.tuple [.int i, optD o]) [some (.dat (polD p)), some (.dat (frD pt)), some (.dat (frO f)), a, b, c] = some [some (.dat (polD p)), some (.dat (frD pt)), some (.dat (frO f)), some (.dat (.int i)), some (.dat (optD o)), c] := by simp [sm, ownsAt, outs, argG, varI, isAbs, arsD, arD, refs, slsOf, slOf, putBack, pubD, getD, getO, setS, wipeE, backE, partD, parG]
    rw [t1]
    simp only [Option.bind_eq_bind, Option.bind_some, bd]
    exact ih
theorem e_l_value {p : List (Option Int)} {pt : Int × Int} (hp : ptB pt) (hP : polB p) : f_l_value [.dat (polD p), .dat (frD pt)] = some (.dat (frO (valF pt p 0 none)), [.dat (polD p), .dat (frD pt)]) := by
  obtain ⟨a', b', c', h⟩ := lv_loop (p := p) hp p 0 none none none none (by have := hP.1; omega) hP.2 (fun g e => by cases e)
  simp only [Nat.add_zero] at h
  have w : (sm g20 [] wfuel i_l_value_w0).s [some (.dat (polD p)), some (.dat (frD pt)), some (.dat .none), none, none, none] = some (.nx [some (.dat (polD p)), some (.dat (frD pt)), some (.dat (frO (valF pt p 0 none))), a', b', c']) := by
    unfold i_l_value_w0
    exact for_ev (by simp [sm, ownsAt, outs, argG, varI, isAbs, arsD, arD, refs, slsOf, slOf, putBack, pubD, getD, getO, setS, wipeE, backE, partD, parG, polD]; rfl) h
  unfold f_l_value fnS i_l_value
  simp [sm, ownsAt, outs, argG, varI, isAbs, arsD, arD, refs, slsOf, slOf, putBack, pubD, getD, getO, setS, wipeE, backE, partD, parG, w, outs]
end k81

namespace k81
open PySem PySem.Spec PyProof.Rows L2 Dx
theorem nice_filter {k m : Nat} {xs : List PyData} (h : ∀ x ∈ xs, Nice k m x) (p : PyData → Bool) : ∀ x ∈ xs.filter p, Nice k m x := fun x hx => h x (List.mem_filter.mp hx).1
theorem eqv_nil (xs : List PyData) : PyData.eqv (.list xs) (.list []) = xs.isEmpty := by
  cases xs <;> simp [PyData.eqv, PyData.eqvAll]
theorem okD_nil : okD (.list []) = true := by decide
def inR (d : PyData) : Bool := isW d (-1000000) 1000000
theorem lip_c0 {xs : List PyData} (hl : xs.length ≤ 13) : (sm g23 [] wfuel i_l_is_poly_c0).e [some (.dat (.tuple xs)), none, none] = some (.frs (xs.filter fun d => !isNon d), [some (.dat (.tuple xs)), none, none]) := by
  unfold i_l_is_poly_c0
  refine lc_ev (ρ1 := [some (.dat (.tuple xs)), none, none]) (xs := xs) (by simp [sm, ownsAt, outs, argG, varI, isAbs, arsD, arD, refs, slsOf, slOf, putBack, pubD, getD, getO, setS, wipeE, backE, partD, parG]) (by simp) ?_
  rw [lcG_fm (p := fun d => !isNon d) (g := fun d => d) xs [] (fun x _ => ⟨[some (.dat (.tuple xs)), none, some (.dat x)], .dat (.bool (!isNon x)), by simp [sm, ownsAt, outs, argG, varI, isAbs, arsD, arD, refs, slsOf, slOf, putBack, pubD, getD, getO, setS, wipeE, backE, partD, parG], ?_, rfl, fun _ => ⟨.dat x, ?_, rfl⟩, by simp [sm, ownsAt, outs, argG, varI, isAbs, arsD, arD, refs, slsOf, slOf, putBack, pubD, getD, getO, setS, wipeE, backE, partD, parG]⟩) (by simp [szE]; omega)]
  · simp
  · unfold i_l_is_poly_c0q
    simp [sm, ownsAt, outs, argG, varI, isAbs, arsD, arD, refs, slsOf, slOf, putBack, pubD, getD, getO, setS, wipeE, backE, partD, parG]
  · unfold i_l_is_poly_c0e
    simp [sm, ownsAt, outs, argG, varI, isAbs, arsD, arD, refs, slsOf, slOf, putBack, pubD, getD, getO, setS, wipeE, backE, partD, parG]
theorem lip_c1 {xs ys : List PyData} (hl : ys.length ≤ 13) (hn : ∀ y ∈ ys, isNon y = false) : (sm g23 [] wfuel i_l_is_poly_c1).e [some (.dat (.tuple xs)), some (.dat (.list ys)), none] = some (.frs (ys.map fun d => .bool (inR d)), [some (.dat (.tuple xs)), some (.dat (.list ys)), none]) := by
  unfold i_l_is_poly_c1
  refine lc_ev (ρ1 := [some (.dat (.tuple xs)), some (.dat (.list ys)), none]) (xs := ys) (by simp [sm, ownsAt, outs, argG, varI, isAbs, arsD, arD, refs, slsOf, slOf, putBack, pubD, getD, getO, setS, wipeE, backE, partD, parG]) (by simp) ?_
  rw [lcG_map (g := fun d => .bool (inR d)) ys [] (fun x _ => ⟨[some (.dat (.tuple xs)), some (.dat (.list ys)), some (.dat x)], .dat (.bool true), by simp [sm, ownsAt, outs, argG, varI, isAbs, arsD, arD, refs, slsOf, slOf, putBack, pubD, getD, getO, setS, wipeE, backE, partD, parG], by simp [sm, ownsAt, outs, argG, varI, isAbs, arsD, arD, refs, slsOf, slOf, putBack, pubD, getD, getO, setS, wipeE, backE, partD, parG], rfl, ?_, by simp [sm, ownsAt, outs, argG, varI, isAbs, arsD, arD, refs, slsOf, slOf, putBack, pubD, getD, getO, setS, wipeE, backE, partD, parG]⟩) (by simp [szE]; omega)]
  · simp
  · unfold i_l_is_poly_c1e
    have pw : binD .Pow (.int 10) (.int 6) = some (.dat (.int 1000000)) := rfl
    cases x with
    | int i =>
      simp [sm, ownsAt, outs, argG, varI, isAbs, arsD, arD, refs, slsOf, slOf, putBack, pubD, getD, getO, setS, wipeE, backE, partD, parG, isNum, isBlD, pw, inR, isW]
      by_cases h : i < 0 <;> by_cases h1 : -1000000 ≤ i <;> by_cases h2 : i ≤ 1000000 <;> simp [h, h1, h2] <;> omega
    | _ => simp [sm, ownsAt, outs, argG, varI, isAbs, arsD, arD, refs, slsOf, slOf, putBack, pubD, getD, getO, setS, wipeE, backE, partD, parG, isNum, isBlD, pw, inR, isW]
theorem isP_law (xs : List PyData) : (xs.all okE && xs.any fun d => !isNon d) = ((!(xs.filter fun d => !isNon d).isEmpty) && (xs.filter fun d => !isNon d).all inR) := by
  induction xs with
  | nil => rfl
  | cons x xs ih =>
    cases h : isNon x with
    | true =>
      simp only [List.all_cons, List.any_cons, List.filter_cons, h, okE, Bool.not_true, Bool.true_or, Bool.true_and, Bool.false_or]
      simpa using ih
    | false =>
      have e : ∀ ys : List PyData, ys.all okE = (ys.filter fun d => !isNon d).all inR := fun ys => by
        induction ys with
        | nil => rfl
        | cons y ys ih2 =>
          cases h : isNon y <;> simp [List.filter_cons, h, okE, ih2, inR]
      simp only [List.all_cons, List.any_cons, List.filter_cons, h, okE, Bool.not_false, Bool.false_or, Bool.true_or, Bool.and_true, if_true, List.isEmpty_cons, Bool.true_and, e xs]
      rfl
theorem e_l_is_poly {k m : Nat} {d : PyData} (hk : k ≤ 60) (hd : ∀ xs, d = .tuple xs → ∀ x ∈ xs, Nice k m x) : f_l_is_poly [.dat d] = some (.dat (.bool (isP d)), [.dat d]) := by
  unfold f_l_is_poly fnS i_l_is_poly
  cases d with
  | tuple xs =>
    by_cases h1 : 1 ≤ (xs.length : Int)
    · by_cases h2 : (xs.length : Int) ≤ 13
      · have c0 := lip_c0 (xs := xs) (by omega)
        have hfl : (xs.filter fun d => !isNon d).length ≤ 13 := Nat.le_trans (List.length_filter_le _ _) (by omega)
        have c1 := lip_c1 (xs := xs) (ys := xs.filter fun d => !isNon d) hfl (fun y hy => by simpa using (List.mem_filter.mp hy).2)
        have ok := (Nice.list (nice_filter (hd xs rfl) fun d => !isNon d)).ok (by omega)
        have ne := cmp_ne ok okD_nil
        rw [eqv_nil] at ne
        have key := isP_law xs
        simp only [isP, h1, h2, decide_true, Bool.true_and, key]
        cases q : (xs.filter fun d => !isNon d).isEmpty <;> simp only [q] at ne <;> simp [sm, ownsAt, outs, argG, varI, isAbs, arsD, arD, refs, slsOf, slOf, putBack, pubD, getD, getO, setS, wipeE, backE, partD, parG, szE, isTupD, c0, c1, h1, h2, allBl_of, ne, List.all_map, Function.comp_def]
      · simp [sm, ownsAt, outs, argG, varI, isAbs, arsD, arD, refs, slsOf, slOf, putBack, pubD, getD, getO, setS, wipeE, backE, partD, parG, isTupD, isP, h1, h2]
    · simp [sm, ownsAt, outs, argG, varI, isAbs, arsD, arD, refs, slsOf, slOf, putBack, pubD, getD, getO, setS, wipeE, backE, partD, parG, isTupD, isP, h1]
  | _ => simp [sm, ownsAt, outs, argG, varI, isAbs, arsD, arD, refs, slsOf, slOf, putBack, pubD, getD, getO, setS, wipeE, backE, partD, parG, isTupD, isP]
end k81

namespace k81
open PySem PySem.Spec PyProof.Rows L2 Dx
def potS (a b : Int) : Sl := .own [.int a, .int b]
def potB (b : Int) : Prop := 0 ≤ b ∧ b < 2 ^ 31
theorem e_l_draw {a b m : Int} (hb : potB b) (h1 : 0 < m) (h2 : m < 2 ^ 29) : ∃ r a' b', f_l_draw [potS a b, .dat (.int m)] = some (.dat (.int r), [potS a' b', .dat (.int m)]) ∧ 0 ≤ r ∧ r < m ∧ potB b' := by
  obtain ⟨hb1, hb2⟩ := hb
  unfold f_l_draw fnS i_l_draw potS
  by_cases ha : 0 < a
  · refine ⟨a % m, a / m, b, ?_, Int.emod_nonneg _ (by omega), Int.emod_lt_of_pos _ h1, hb1, hb2⟩
    simp [sm, ownsAt, outs, argG, varI, isAbs, arsD, arD, refs, slsOf, slOf, putBack, pubD, getD, getO, setS, wipeE, backE, partD, parG, ha, h1, show m < 536870912 by omega, outs]
  · have m1 := bin_mul (i := b) (j := 39373) (sm9_small ⟨by omega, by omega⟩) (sm9_small ⟨by omega, by omega⟩)
    have m2 := bin_mod (i := b * 39373 + 733) (j := 2147483587) (by omega)
    have u1 : 0 ≤ (b * 39373 + 733) % 2147483587 := Int.emod_nonneg _ (by omega)
    have u2 : (b * 39373 + 733) % 2147483587 < 2147483587 := Int.emod_lt_of_pos _ (by omega)
    generalize hc : (b * 39373 + 733) % 2147483587 = c at m2 u1 u2
    have m3 := bin_mul (i := c) (j := c) (sm9_small ⟨by omega, by omega⟩) (sm9_small ⟨by omega, by omega⟩)
    have m4 := bin_mod (i := c * c) (j := 2147483563) (by omega)
    have u3 : 0 ≤ (c * c) % 2147483563 := Int.emod_nonneg _ (by omega)
    have u4 : (c * c) % 2147483563 < 2147483563 := Int.emod_lt_of_pos _ (by omega)
    generalize hd : (c * c) % 2147483563 = d at m4 u3 u4
    have m5 := bin_div (i := d) (j := 29) (by omega) (sm9_small ⟨by omega, by omega⟩)
    have m6 := bin_mod (i := d / 29) (j := m) h1
    refine ⟨(d / 29) % m, a, c, ?_, Int.emod_nonneg _ (by omega), Int.emod_lt_of_pos _ h1, u1, by omega⟩
    simp [sm, ownsAt, outs, argG, varI, isAbs, arsD, arD, refs, slsOf, slOf, putBack, pubD, getD, getO, setS, wipeE, backE, partD, parG, ha, m1, m2, m3, m4, m5, m6, outs]
theorem e_l_pick {a b : Int} {xs : List PyData} (hb : potB b) (h0 : 0 < xs.length) (h1 : xs.length < 2 ^ 20) : ∃ x a' b', f_l_pick [potS a b, .dat (.list xs)] = some (.dat x, [potS a' b', .dat (.list xs)]) ∧ x ∈ xs ∧ potB b' := by
  obtain ⟨r, a', b', e, r1, r2, hb'⟩ := e_l_draw (a := a) (m := xs.length) hb (by omega) (by omega)
  obtain ⟨n, rfl⟩ : ∃ n : Nat, r = n := ⟨r.toNat, by omega⟩
  have hn : n < xs.length := by omega
  have g : atI xs (n : Int) = some xs[n] := at_nat (List.getElem?_eq_getElem hn)
  refine ⟨xs[n], a', b', ?_, List.getElem_mem hn, hb'⟩
  unfold f_l_pick fnS i_l_pick
  unfold potS at e ⊢
  simp [sm, ownsAt, outs, argG, varI, isAbs, arsD, arD, refs, slsOf, slOf, putBack, pubD, getD, getO, setS, wipeE, backE, partD, parG, q16_l_draw, e, g, outs]
end k81

namespace k81
open PySem PySem.Spec PyProof.Rows L2 Dx
theorem e_l_pot {ns : List Int} {k : Nat} (hk : k ≤ 1000) : ∃ p0 p1, f_l_pot [.dat (.list (ns.map .int)), .dat (.int k)] = some (.frs [.int p0, .int p1], [.dat (.list (ns.map .int)), .dat (.int k)]) ∧ potB p1 := by
  have pw : binD .Pow (.int 10) (.int 18) = some (.dat (.int 1000000000000000000)) := rfl
  have fin : ∀ cell : Int, ∃ p1, ((cell % 2147483549 * 40693 + 1871 * k + 1487) % 2147483563 + 1) = p1 ∧ potB p1 := fun cell => ⟨_, rfl, by
    have := Int.emod_nonneg (cell % 2147483549 * 40693 + 1871 * k + 1487) (show (2147483563 : Int) ≠ 0 by omega)
    have := Int.emod_lt_of_pos (cell % 2147483549 * 40693 + 1871 * k + 1487) (show (0 : Int) < 2147483563 by omega)
    exact ⟨by omega, by omega⟩⟩
  have mm : ∀ cell : Int, binD .Mod (.int cell) (.int 2147483549) = some (.dat (.int (cell % 2147483549))) ∧ binD .Mult (.int (cell % 2147483549)) (.int 40693) = some (.dat (.int (cell % 2147483549 * 40693))) := fun cell => by
    have h1 := Int.emod_nonneg cell (show (2147483549 : Int) ≠ 0 by omega)
    have h2 := Int.emod_lt_of_pos cell (show (0 : Int) < 2147483549 by omega)
    exact ⟨bin_mod (by omega), bin_mul (sm9_small ⟨by omega, by omega⟩) (sm9_small ⟨by omega, by omega⟩)⟩
  have mk := bin_mul (i := 1871) (j := (k : Int)) (sm9_small ⟨by omega, by omega⟩) (sm9_small ⟨by omega, by omega⟩)
  have mk2 := bin_mul (i := 751) (j := (k : Int)) (sm9_small ⟨by omega, by omega⟩) (sm9_small ⟨by omega, by omega⟩)
  have md : ∀ i : Int, binD .Mod (.int i) (.int 2147483563) = some (.dat (.int (i % 2147483563))) := fun i => bin_mod (by omega)
  unfold f_l_pot fnS i_l_pot
  by_cases hl : k < ns.length
  · have g : atI (ns.map PyData.int) (k : Int) = some (.int ns[k]) := at_nat (by rw [List.getElem?_map, List.getElem?_eq_getElem hl]; rfl)
    obtain ⟨m1, m2⟩ := mm (ns[k].natAbs : Int)
    obtain ⟨p1, e1, e2⟩ := fin (ns[k].natAbs : Int)
    refine ⟨if ((ns[k].natAbs : Int) - 1000000000000000000) > 0 then ((ns[k].natAbs : Int) - 1000000000000000000) else 0, p1, ?_, e2⟩
    rw [← e1]
    simp [sm, ownsAt, outs, argG, varI, isAbs, arsD, arD, refs, slsOf, slOf, putBack, pubD, getD, getO, setS, wipeE, backE, partD, parG, szE, hl, g, abs_if, pw, m1, m2, mk, md]
  · obtain ⟨m1, m2⟩ := mm (751 * k + 1487)
    obtain ⟨p1, e1, e2⟩ := fin (751 * k + 1487)
    refine ⟨if ((751 * k + 1487 : Int) - 1000000000000000000) > 0 then ((751 * k + 1487 : Int) - 1000000000000000000) else 0, p1, ?_, e2⟩
    rw [← e1]
    simp [sm, ownsAt, outs, argG, varI, isAbs, arsD, arD, refs, slsOf, slOf, putBack, pubD, getD, getO, setS, wipeE, backE, partD, parG, szE, hl, mk2, pw, m1, m2, mk, md]
/-! ### what is drawn: points -/
theorem e_l_point {a b : Int} (hb : potB b) : ∃ pt a' b', f_l_point [potS a b] = some (.dat (frD pt), [potS a' b']) ∧ ptOk pt ∧ potB b' := by
  obtain ⟨x, a1, b1, e1, hx, hb1⟩ := e_l_pick (a := a) (xs := [.int 1, .int 1, .int 2, .int 3, .int 7, .int 1000]) hb (by simp) (by simp)
  obtain ⟨n, rfl, n1, n2⟩ : ∃ n : Int, x = .int n ∧ 1 ≤ n ∧ n ≤ 1000 := by
    simp at hx
    rcases hx with rfl | rfl | rfl | rfl | rfl <;> exact ⟨_, rfl, by omega, by omega⟩
  obtain ⟨r, a2, b2, e2, r1, r2, hb2⟩ := e_l_draw (a := a1) (m := 20 * n + 1) hb1 (by omega) (by omega)
  have m1 := bin_mul (i := 20) (j := n) (sm9_small ⟨by omega, by omega⟩) (sm9_small ⟨by omega, by omega⟩)
  have m2 := bin_mul (i := 10) (j := n) (sm9_small ⟨by omega, by omega⟩) (sm9_small ⟨by omega, by omega⟩)
  have e3 := e_l_low (t := r - 10 * n) (b := n) ⟨by omega, by omega⟩ ⟨by omega, by omega⟩ (by omega)
  refine ⟨lowI (r - 10 * n) n, a2, b2, ?_, ?_, hb2⟩
  · unfold f_l_point fnS i_l_point
    unfold potS at e1 e2 ⊢
    simp [sm, ownsAt, outs, argG, varI, isAbs, arsD, arD, refs, slsOf, slOf, putBack, pubD, getD, getO, setS, wipeE, backE, partD, parG, szE, q22_l_pick, e1, q22_l_draw, m1, e2, m2, q22_l_low, e3]
  · have g0 : 0 < Nat.gcd (r - 10 * n).natAbs n.natAbs := Nat.gcd_pos_of_pos_right _ (by omega)
    have c1 := div_bd (t := r - 10 * n) g0
    have c2 := div_bd (t := n) g0
    have d : 0 < n / (Nat.gcd (r - 10 * n).natAbs n.natAbs : Nat) := Int.ediv_pos_of_pos_of_dvd (by omega) (by omega) (Int.ofNat_dvd_left.mpr (Nat.gcd_dvd_right _ _))
    refine ⟨?_, ?_, d, ?_, ?_⟩ <;> simp only [lowI]
    · omega
    · omega
    · omega
    · have h1 : ((r - 10 * n) / ((Nat.gcd (r - 10 * n).natAbs n.natAbs : Nat) : Int)).natAbs = (r - 10 * n).natAbs / Nat.gcd (r - 10 * n).natAbs n.natAbs := by
        rw [Int.natAbs_ediv_of_dvd (Int.ofNat_dvd_left.mpr (Nat.gcd_dvd_left _ _))]; simp
      have h2 : (n / ((Nat.gcd (r - 10 * n).natAbs n.natAbs : Nat) : Int)).natAbs = n.natAbs / Nat.gcd (r - 10 * n).natAbs n.natAbs := by
        rw [Int.natAbs_ediv_of_dvd (Int.ofNat_dvd_left.mpr (Nat.gcd_dvd_right _ _))]; simp
      rw [h1, h2]
      exact Nat.gcd_div_gcd_div_gcd_of_pos_right (by omega)
end k81

namespace k81
open PySem PySem.Spec PyProof.Rows L2 Dx
/-- an entry that _law_poly gives -/
def entD (d : PyData) : Prop := ∃ o : Option Int, d = optD o ∧ ∀ n, o = some n → -1000000 ≤ n ∧ n ≤ 1000000
theorem lpoly_e {a b most many size t : Int} {f : Option Sl} (hb : potB b) (h1 : 0 < size) (h2 : size ≤ 1000000) :
    ∃ r a' b', (sm g21 [0] wfuel i_l_poly_c0e).e [some (potS a b), some (.dat (.int most)), some (.dat (.int many)), some (.dat (.int size)), f, some (.dat (.int t))] =
      some (r, [some (potS a' b'), some (.dat (.int most)), some (.dat (.int many)), some (.dat (.int size)), f, some (.dat (.int t))]) ∧ entD r.d ∧ potB b' := by
  obtain ⟨r1, a1, b1, e1, r11, r12, hb1⟩ := e_l_draw (a := a) (m := 4) hb (by omega) (by omega)
  unfold i_l_poly_c0e
  by_cases h0 : r1 = 0
  · subst h0
    refine ⟨.dat .none, a1, b1, ?_, ⟨none, rfl, fun n e => by cases e⟩, hb1⟩
    unfold potS at e1 ⊢
    simp [sm, ownsAt, outs, argG, varI, isAbs, arsD, arD, refs, slsOf, slOf, putBack, pubD, getD, getO, setS, wipeE, backE, partD, parG, q21_l_draw, e1]
  · obtain ⟨r2, a2, b2, e2, r21, r22, hb2⟩ := e_l_draw (a := a1) (m := 2 * size + 1) hb1 (by omega) (by omega)
    have m1 := bin_mul (i := 2) (j := size) (sm9_small ⟨by omega, by omega⟩) (sm9_small ⟨by omega, by omega⟩)
    refine ⟨.dat (.int (r2 - size)), a2, b2, ?_, ⟨some (r2 - size), rfl, fun n e => by cases e; omega⟩, hb2⟩
    unfold potS at e1 e2 ⊢
    simp [sm, ownsAt, outs, argG, varI, isAbs, arsD, arD, refs, slsOf, slOf, putBack, pubD, getD, getO, setS, wipeE, backE, partD, parG, q21_l_draw, e1, h0, m1, e2]
theorem entD_list : ∀ {ds : List PyData}, (∀ d ∈ ds, entD d) → ∃ p : List (Option Int), ds = p.map optD ∧ ∀ o ∈ p, ∀ n, o = some n → -1000000 ≤ n ∧ n ≤ 1000000
  | [], _ => ⟨[], rfl, fun o ho => (List.not_mem_nil ho).elim⟩
  | d :: ds, h => by
    obtain ⟨o, rfl, ho⟩ := h d List.mem_cons_self
    obtain ⟨p, rfl, hp⟩ := entD_list fun x hx => h x (List.mem_cons_of_mem _ hx)
    refine ⟨o :: p, rfl, fun x hx => ?_⟩
    rcases List.mem_cons.mp hx with rfl | hx
    · exact ho
    · exact hp x hx
/-- polynomials as _law_poly gives them -/
def polyOk (n : Nat) (p : List (Option Int)) : Prop := 1 ≤ p.length ∧ p.length ≤ n ∧ (∀ o ∈ p, ∀ n, o = some n → -1000000 ≤ n ∧ n ≤ 1000000) ∧ ∃ (i : Nat) (n : Int), p[i]? = some (some n)
theorem e_l_poly {a b : Int} {most : Nat} (hb : potB b) (h1 : 1 ≤ most) (h2 : most ≤ 13) : ∃ p a' b', f_l_poly [potS a b, .dat (.int most)] = some (.dat (polD p), [potS a' b', .dat (.int most)]) ∧ polyOk most p ∧ potB b' := by
  obtain ⟨r, a1, b1, e1, r1, r2, hb1⟩ := e_l_draw (a := a) (m := most) hb (by omega) (by omega)
  obtain ⟨x, a2, b2, e2, hx, hb2⟩ := e_l_pick (a := a1) (xs := [.int 3, .int 3, .int 9, .int 40, .int 1000000]) hb1 (by simp) (by simp)
  obtain ⟨size, rfl, n1, n2⟩ : ∃ n : Int, x = .int n ∧ 1 ≤ n ∧ n ≤ 1000000 := by
    simp at hx
    rcases hx with rfl | rfl | rfl | rfl <;> exact ⟨_, rfl, by omega, by omega⟩
  obtain ⟨m, rfl⟩ : ∃ m : Nat, r = m := ⟨r.toNat, by omega⟩
  have pw : binD .Pow (.int 10) (.int 6) = some (.dat (.int 1000000)) := rfl
  -- the comprehension
  obtain ⟨ds, ρ', g1, g2, g3, a3, b3, rfl, hb3⟩ := lcG_inv (vs := [5]) (ρ0 := [some (potS a2 b2), some (.dat (.int most)), some (.dat (.int (1 + m))), some (.dat (.int size)), none, none]) (t := (sm g21 [0] wfuel (.tnm 5)).t) (c := (sm g21 [0] wfuel (.bl true)).e) (e := (sm g21 [0] wfuel i_l_poly_c0e).e)
    (fun ρ => ∃ a b, ρ = [some (potS a b), some (.dat (.int most)), some (.dat (.int (1 + m))), some (.dat (.int size)), none, none] ∧ potB b) entD ((List.range (1 + (m : Int)).toNat).map fun (i : Nat) => .int i)
    [some (potS a2 b2), some (.dat (.int most)), some (.dat (.int (1 + m))), some (.dat (.int size)), none, none] [] ⟨a2, b2, rfl, hb2⟩ (by simp [szE]; omega) (by
      rintro x hx ρ ⟨a, b, rfl, hb⟩
      obtain ⟨i, hi, rfl⟩ := List.mem_map.mp hx
      obtain ⟨r, a', b', e, q1, q2⟩ := lpoly_e (a := a) (most := most) (many := 1 + m) (size := size) (t := (i : Int)) (f := none) hb (by omega) (by omega)
      refine ⟨_, .dat (.bool true), _, r, _, ?_, rfl, rfl, e, q1, a', b', ?_, q2⟩
      · simp [sm, ownsAt, outs, argG, varI, isAbs, arsD, arD, refs, slsOf, slOf, putBack, pubD, getD, getO, setS, wipeE, backE, partD, parG]
      · simp [sm, ownsAt, outs, argG, varI, isAbs, arsD, arD, refs, slsOf, slOf, putBack, pubD, getD, getO, setS, wipeE, backE, partD, parG])
  simp only [List.nil_append] at g1
  have hlen : ds.length = 1 + m := by rw [g2]; simp; omega
  obtain ⟨p, rfl, hp⟩ := entD_list g3
  have hpl : p.length = 1 + m := by simpa using hlen
  have cv : (sm g21 [0] wfuel i_l_poly_c0).e [some (potS a2 b2), some (.dat (.int most)), some (.dat (.int (1 + m))), some (.dat (.int size)), none, none] = some (.frs (p.map optD), [some (potS a3 b3), some (.dat (.int most)), some (.dat (.int (1 + m))), some (.dat (.int size)), none, none]) := by
    unfold i_l_poly_c0
    refine lc_ev (ρ1 := [some (potS a2 b2), some (.dat (.int most)), some (.dat (.int (1 + m))), some (.dat (.int size)), none, none]) (xs := (List.range (1 + (m : Int)).toNat).map fun (i : Nat) => .int i) ?_ (by simp) g1
    have hr : rngD [.int (1 + (m : Int))] = some ((List.range (1 + (m : Int)).toNat).map fun (i : Nat) => .int i) := if_pos ⟨by omega, by omega⟩
    simp [sm, ownsAt, outs, argG, varI, isAbs, arsD, arD, refs, slsOf, slOf, putBack, pubD, getD, getO, setS, wipeE, backE, partD, parG, hr]
  obtain ⟨r4, a4, b4, e4, r41, r42, hb4⟩ := e_l_draw (a := a3) (m := 2 * size + 1) hb3 (by omega) (by omega)
  obtain ⟨r5, a5, b5, e5, r51, r52, hb5⟩ := e_l_draw (a := a4) (m := 1 + m) hb4 (by omega) (by omega)
  obtain ⟨j, rfl⟩ : ∃ j : Nat, r5 = j := ⟨r5.toNat, by omega⟩
  have hj : j < p.length := by omega
  have ix : ixN p.length (j : Int) = some j := by
    unfold ixN
    simp [hj]
  have m1 := bin_mul (i := 2) (j := size) (sm9_small ⟨by omega, by omega⟩) (sm9_small ⟨by omega, by omega⟩)
  refine ⟨p.set j (some (r4 - size)), a5, b5, ?_, ⟨by simp; omega, by simp; omega, fun o ho n e => ?_, j, r4 - size, by simp [hj]⟩, hb5⟩
  · unfold f_l_poly fnS i_l_poly
    unfold potS at *
    simp [sm, ownsAt, outs, argG, varI, isAbs, arsD, arD, refs, slsOf, slOf, putBack, pubD, getD, getO, setS, wipeE, backE, partD, parG, szE, q21_l_draw, e1, q21_l_pick, pw, e2, cv, m1, e4, e5, ix, polD, List.map_set, optD]
  · subst e
    rcases List.mem_or_eq_of_mem_set ho with h | h
    · exact hp _ h n rfl
    · cases h; omega
/-! ### what is bent -/
theorem nice_entry {o : Option Int} (h : ∀ n, o = some n → -1000000 ≤ n ∧ n ≤ 1000000) : Nice 3 40 (optD o) := by
  cases o with
  | none => exact Nice.none.mono (by omega) (by omega)
  | some n =>
    obtain ⟨h1, h2⟩ := h n rfl
    exact (Nice.int (n := 20) (by omega) (by omega) (by omega)).mono (by omega) (by omega)
/-- what value may stand at is_polynomial: entries that are nice, few of them -/
def candD (d : PyData) : Prop := Nice 5 2000 d ∧ ∀ xs, d = .tuple xs → ∀ x ∈ xs, Nice 4 60 x
theorem cut_len (xs : List PyData) (lo hi : Option Int) : (Dx.cutD xs lo hi).length ≤ xs.length := by
  unfold Dx.cutD
  rw [List.length_take, List.length_drop]; omega
theorem cand_of {xs : List PyData} (hl : xs.length ≤ 30) (h : ∀ x ∈ xs, Nice 4 60 x) : candD (.tuple xs) ∧ candD (.list xs) := by
  refine ⟨⟨(Nice.tup h).mono (by omega) (by omega), fun ys e x hx => ?_⟩, ⟨(Nice.list h).mono (by omega) (by omega), fun ys e => by cases e⟩⟩
  cases e; exact h x hx
def odd9 : List PyData := [.none, .bool true, .str "1", .int 1000000, .int 1000001, .int (-1000000), .int (-1000001), .tuple [.int 1], .int 0]
theorem nice_odd : ∀ x ∈ odd9, Nice 4 60 x := by
  intro x hx
  simp only [odd9, List.mem_cons, List.not_mem_nil, or_false] at hx
  rcases hx with rfl | rfl | rfl | rfl | rfl | rfl | rfl | rfl | rfl
  · exact Nice.none.mono (by omega) (by omega)
  · exact (Nice.bool _).mono (by omega) (by omega)
  · exact (Nice.str (m := 60) (by decide +kernel)).mono (by omega) (by omega)
  · exact (Nice.int (n := 21) (by omega) (by omega) (by omega)).mono (by omega) (by omega)
  · exact (Nice.int (n := 21) (by omega) (by omega) (by omega)).mono (by omega) (by omega)
  · exact (Nice.int (n := 21) (by omega) (by omega) (by omega)).mono (by omega) (by omega)
  · exact (Nice.int (n := 21) (by omega) (by omega) (by omega)).mono (by omega) (by omega)
  · exact (Nice.tup (k := 0) (m := 21) (xs := [.int 1]) (by
      intro y hy
      have : y = .int 1 := by simpa using hy
      subst this
      exact Nice.int (n := 20) (by omega) (by omega) (by omega))).mono (by omega) (by simp)
  · exact (Nice.int (n := 21) (by omega) (by omega) (by omega)).mono (by omega) (by omega)
theorem e_l_bent {a b : Int} {p : List (Option Int)} (hb : potB b) (hp : polyOk 13 p) : ∃ r a' b', f_l_bent [potS a b, .dat (polD p)] = some (r, [potS a' b', .dat (polD p)]) ∧ candD r.d ∧ potB b' := by
  obtain ⟨l1, l2, pe, _⟩ := hp
  have ne : ∀ x ∈ p.map optD, Nice 4 60 x := fun x hx => by
    obtain ⟨o, ho, rfl⟩ := List.mem_map.mp hx
    exact (nice_entry (pe o ho)).mono (by omega) (by omega)
  obtain ⟨r1, a1, b1, e1, r11, r12, hb1⟩ := e_l_draw (a := a) (m := p.length) hb (by omega) (by omega)
  obtain ⟨r2, a2, b2, e2, r21, r22, hb2⟩ := e_l_draw (a := a1) (m := 5) hb1 (by omega) (by omega)
  obtain ⟨j, rfl⟩ : ∃ j : Nat, r1 = j := ⟨r1.toNat, by omega⟩
  have hj : j < p.length := by omega
  have ix : ixN p.length (j : Int) = some j := by
    unfold ixN
    simp [hj]
  have pw : binD .Pow (.int 10) (.int 6) = some (.dat (.int 1000000)) := rfl
  unfold f_l_bent fnS i_l_bent polD
  unfold potS at *
  by_cases c0 : r2 = 0
  · subst c0
    have cat := bin_cat (xs := Dx.cutD (p.map optD) none (some j)) (ys := Dx.cutD (p.map optD) (some (j + 1)) none) (by
      have h1 := cut_len (p.map optD) none (some j)
      have h2 := cut_len (p.map optD) (some (j + 1)) none
      rw [List.length_map] at h1 h2
      rw [szE]; omega)
    refine ⟨.dat (.tuple (Dx.cutD (p.map optD) none (some j) ++ Dx.cutD (p.map optD) (some (j + 1)) none)), a2, b2, ?_, ?_, hb2⟩
    · simp [sm, ownsAt, outs, argG, varI, isAbs, arsD, arD, refs, slsOf, slOf, putBack, pubD, getD, getO, setS, wipeE, backE, partD, parG, q24_l_draw, e1, e2, cat]
    · refine (cand_of (by
        have h1 := cut_len (p.map optD) none (some j)
        have h2 := cut_len (p.map optD) (some (j + 1)) none
        rw [List.length_map] at h1 h2
        rw [List.length_append]; omega) fun x hx => ?_).1
      rcases List.mem_append.mp hx with h | h
      · exact ne x (List.mem_of_mem_drop (List.mem_of_mem_take h))
      · exact ne x (List.mem_of_mem_drop (List.mem_of_mem_take h))
  · by_cases c1 : r2 = 1
    · subst c1
      refine ⟨.frs (p.map optD), a2, b2, ?_, (cand_of (by simp; omega) ne).2, hb2⟩
      simp [sm, ownsAt, outs, argG, varI, isAbs, arsD, arD, refs, slsOf, slOf, putBack, pubD, getD, getO, setS, wipeE, backE, partD, parG, q24_l_draw, e1, e2]
    · obtain ⟨x, a3, b3, e3, hx, hb3⟩ := e_l_pick (a := a2) (xs := odd9) hb2 (by simp [odd9]) (by simp [odd9])
      refine ⟨.dat (.tuple ((p.map optD).set j x)), a3, b3, ?_, (cand_of (by simp; omega) fun y hy => ?_).1, hb3⟩
      · unfold potS odd9 at e3
        simp [sm, ownsAt, outs, argG, varI, isAbs, arsD, arD, refs, slsOf, slOf, putBack, pubD, getD, getO, setS, wipeE, backE, partD, parG, szE, q24_l_draw, e1, e2, c0, c1, pw, q24_l_pick, e3, ix]
      · rcases List.mem_or_eq_of_mem_set hy with h | h
        · exact ne y h
        · subst h; exact nice_odd _ hx
end k81

namespace k81
open PySem PySem.Spec PyProof.Rows L2 Dx
theorem ne_str (x : Str) : cmpD .NotEq (.str x) (.str x) = some false := by
  rw [cmp_ne (okD_str x) (okD_str x)]
  simp [PyData.eqv]
theorem nice2 {k m : Nat} {d : PyData} (h : Nice k m d) : Nice (k + 1) (2 * (m + 2) + 3) (.list [d, d]) := Nice.list (xs := [d, d]) fun x hx => by
  have : x = d := by simpa using hx
  subst this; exact h
theorem rt_w0b {P p v s4 s5 s6 s7 s8 s9 : Option Sl} {d : PyData} (h : candD d) : ∃ t8, (sm g25 [0] wfuel i_l_right_w0b).s [P, p, v, some (.dat d), s4, s5, s6, s7, s8, s9] =
    some (.nx [P, p, v, some (.dat d), s4, some (.dat (.bool (isP d))), s6, s7, t8, s9]) := by
  obtain ⟨h1, h2⟩ := h
  have e1 := e_l_is_poly (k := 4) (m := 60) (d := d) (by omega) h2
  have e2 := e_is_polynomial d
  have r1 := bl_repr (h1.repr (by omega) (by rw [szE]; omega))
  have r2 := bl_repr ((nice2 (Nice.bool (isP d))).repr (by omega) (by rw [szE]; omega))
  refine ⟨some (.dat (.str d.shown)), ?_⟩
  unfold i_l_right_w0b
  simp [sm, ownsAt, outs, argG, varI, isAbs, arsD, arD, refs, slsOf, slOf, putBack, pubD, getD, getO, setS, wipeE, backE, partD, parG, szE, q25_l_is_poly, e1, q25_is_polynomial, e2, r1, r2, ne_str]
theorem rt_c0 {a b : Int} {p : List (Option Int)} {v : Option Sl} (hb : potB b) (hp : polyOk 13 p) : ∃ ds a' b', (sm g25 [0] wfuel i_l_right_c0).e [some (potS a b), some (.dat (polD p)), v, none, none, none, none, none, none, none] =
    some (.frs ds, [some (potS a' b'), some (.dat (polD p)), v, none, none, none, none, none, none, none]) ∧ ds.length = 12 ∧ (∀ d ∈ ds, candD d) ∧ potB b' := by
  obtain ⟨ds, ρ', g1, g2, g3, a3, b3, rfl, hb3⟩ := lcG_inv (vs := [9]) (ρ0 := [some (potS a b), some (.dat (polD p)), v, none, none, none, none, none, none, none]) (t := (sm g25 [0] wfuel (.tnm 9)).t) (c := (sm g25 [0] wfuel (.bl true)).e) (e := (sm g25 [0] wfuel i_l_right_c0e).e)
    (fun ρ => ∃ a b, ρ = [some (potS a b), some (.dat (polD p)), v, none, none, none, none, none, none, none] ∧ potB b) candD ((List.range (12 : Int).toNat).map fun (i : Nat) => .int i)
    [some (potS a b), some (.dat (polD p)), v, none, none, none, none, none, none, none] [] ⟨a, b, rfl, hb⟩ (by simp [szE]) (by
      rintro x hx ρ ⟨a, b, rfl, hb⟩
      obtain ⟨i, hi, rfl⟩ := List.mem_map.mp hx
      obtain ⟨r, a', b', e, q1, q2⟩ := e_l_bent (a := a) hb hp
      refine ⟨[some (potS a b), some (.dat (polD p)), v, none, none, none, none, none, none, some (.dat (.int i))], .dat (.bool true), _, r, [some (potS a' b'), some (.dat (polD p)), v, none, none, none, none, none, none, some (.dat (.int i))], ?_, rfl, rfl, ?_, q1, a', b', ?_, q2⟩
      · simp [sm, ownsAt, outs, argG, varI, isAbs, arsD, arD, refs, slsOf, slOf, putBack, pubD, getD, getO, setS, wipeE, backE, partD, parG]
      · unfold i_l_right_c0e
        unfold potS at e ⊢
        simp [sm, ownsAt, outs, argG, varI, isAbs, arsD, arD, refs, slsOf, slOf, putBack, pubD, getD, getO, setS, wipeE, backE, partD, parG, q25_l_bent, e]
      · simp [sm, ownsAt, outs, argG, varI, isAbs, arsD, arD, refs, slsOf, slOf, putBack, pubD, getD, getO, setS, wipeE, backE, partD, parG])
  refine ⟨ds, a3, b3, ?_, by rw [g2]; simp, g3, hb3⟩
  unfold i_l_right_c0
  refine lc_ev (ρ1 := [some (potS a b), some (.dat (polD p)), v, none, none, none, none, none, none, none]) (xs := (List.range (12 : Int).toNat).map fun (i : Nat) => .int i) ?_ (by simp) g1
  have hr : rngD [.int 12] = some ((List.range (12 : Int).toNat).map fun (i : Nat) => .int i) := by simp [rngD]
  simp [sm, ownsAt, outs, argG, varI, isAbs, arsD, arD, refs, slsOf, slOf, putBack, pubD, getD, getO, setS, wipeE, backE, partD, parG, hr]
/-- the values that are tried -/
def valsD (p : List (Option Int)) : List PyData := [polD p, .list (p.map optD), .tuple [], .tuple [.none], .tuple [.none, .none], .none, .int 0, .str "poly", .tuple (List.replicate 13 (.int 0)), .tuple (List.replicate 14 (.int 0)), .tuple (List.replicate 12 .none ++ [.int 1]),
  .tuple [.int 1000000], .tuple [.int 1000001], .tuple [.bool true], .tuple [.tuple [.int 0]]]
theorem cand_vals {p : List (Option Int)} (hp : polyOk 13 p) : ∀ d ∈ valsD p, candD d := by
  obtain ⟨l1, l2, pe, _⟩ := hp
  have ne : ∀ x ∈ p.map optD, Nice 4 60 x := fun x hx => by
    obtain ⟨o, ho, rfl⟩ := List.mem_map.mp hx
    exact (nice_entry (pe o ho)).mono (by omega) (by omega)
  have ni : ∀ i : Int, i.natAbs < 2 ^ 21 → Nice 4 60 (.int i) := fun i h => (Nice.int (n := 21) h (by omega) (by omega)).mono (by omega) (by omega)
  have n0 : Nice 4 60 .none := Nice.none.mono (by omega) (by omega)
  have nb : Nice 4 60 (.bool true) := (Nice.bool _).mono (by omega) (by omega)
  have one : ∀ {x : PyData}, Nice 4 60 x → ∀ y ∈ [x], Nice 4 60 y := fun {x} h y hy => by
    have : y = x := by simpa using hy
    subst this; exact h
  have nt : Nice 4 60 (.tuple [.int 0]) := (Nice.tup (k := 0) (m := 22) (xs := [.int 0]) (fun y hy => by
    have : y = .int 0 := by simpa using hy
    subst this; exact Nice.int (n := 21) (by omega) (by omega) (by omega))).mono (by omega) (by simp)
  intro d hd
  simp only [valsD, List.mem_cons, List.not_mem_nil, or_false] at hd
  rcases hd with rfl | rfl | rfl | rfl | rfl | rfl | rfl | rfl | rfl | rfl | rfl | rfl | rfl | rfl | rfl
  · exact (cand_of (by simp; omega) ne).1
  · exact (cand_of (by simp; omega) ne).2
  · exact (cand_of (by simp) fun x hx => (List.not_mem_nil hx).elim).1
  · exact (cand_of (by simp) (one n0)).1
  · refine (cand_of (by simp) fun x hx => ?_).1
    have : x = .none := by simpa using hx
    subst this; exact n0
  · exact ⟨n0.mono (by omega) (by omega), fun xs e => by cases e⟩
  · exact ⟨(ni 0 (by omega)).mono (by omega) (by omega), fun xs e => by cases e⟩
  · exact ⟨(Nice.str (m := 60) (by decide +kernel)).mono (by omega) (by omega), fun xs e => by cases e⟩
  · refine (cand_of (by simp) fun x hx => ?_).1
    rw [List.eq_of_mem_replicate hx]; exact ni 0 (by omega)
  · refine (cand_of (by simp) fun x hx => ?_).1
    rw [List.eq_of_mem_replicate hx]; exact ni 0 (by omega)
  · refine (cand_of (by simp) fun x hx => ?_).1
    rcases List.mem_append.mp hx with h | h
    · rw [List.eq_of_mem_replicate h]; exact n0
    · exact one (ni 1 (by omega)) x h
  · exact (cand_of (by simp) (one (ni _ (by omega)))).1
  · exact (cand_of (by simp) (one (ni _ (by omega)))).1
  · exact (cand_of (by simp) (one nb)).1
  · exact (cand_of (by simp) (one nt)).1
theorem rt_w0 {a b : Int} {p : List (Option Int)} (hb : potB b) (hp : polyOk 13 p) : ∃ a' b' s3 s5 s8, (sm g25 [0] wfuel i_l_right_w0).s [some (potS a b), some (.dat (polD p)), some (.dat (.list (valsD p))), none, none, none, none, none, none, none] =
    some (.nx [some (potS a' b'), some (.dat (polD p)), some (.dat (.list (valsD p))), s3, none, s5, none, none, s8, none]) ∧ potB b' := by
  obtain ⟨ds, a1, b1, e1, l1, hc, hb1⟩ := rt_c0 (a := a) (v := some (.dat (.list (valsD p)))) hb hp
  have cat := bin_cat (xs := valsD p) (ys := ds) (by rw [szE, l1]; simp [valsD])
  obtain ⟨ρ', f1, s3, s5, s8, rfl, _⟩ := forG_inv (t := (sm g25 [0] wfuel (.tnm 3)).t) (b := (sm g25 [0] wfuel i_l_right_w0b).s)
    (fun r ρ => ∃ s3 s5 s8, ρ = [some (potS a1 b1), some (.dat (polD p)), some (.dat (.list (valsD p))), s3, none, s5, none, none, s8, none] ∧ ∀ d ∈ r, candD d) (valsD p ++ ds)
    [some (potS a1 b1), some (.dat (polD p)), some (.dat (.list (valsD p))), none, none, none, none, none, none, none] ⟨none, none, none, rfl, fun d hd => (List.mem_append.mp hd).elim (cand_vals hp d) (hc d)⟩ (by
      rintro x r ρ ⟨s3, s5, s8, rfl, hr⟩
      obtain ⟨t8, eb⟩ := rt_w0b (P := some (potS a1 b1)) (p := some (.dat (polD p))) (v := some (.dat (.list (valsD p)))) (s4 := none) (s5 := s5) (s6 := none) (s7 := none) (s8 := s8) (s9 := none) (hr x List.mem_cons_self)
      exact ⟨_, _, by simp [sm, ownsAt, outs, argG, varI, isAbs, arsD, arD, refs, slsOf, slOf, putBack, pubD, getD, getO, setS, wipeE, backE, partD, parG], .inl eb, _, _, _, rfl, fun d hd => hr d (List.mem_cons_of_mem _ hd)⟩)
  refine ⟨a1, b1, s3, s5, s8, ?_, hb1⟩
  unfold i_l_right_w0
  refine for_ev ?_ f1
  simp [sm, ownsAt, outs, argG, varI, isAbs, arsD, arD, refs, slsOf, slOf, putBack, pubD, getD, getO, setS, wipeE, backE, partD, parG, e1, cat]
/-! ### the points -/
theorem rt_c1 {a b : Int} {P v s3 s5 s8 : Option Sl} (hb : potB b) : ∃ ds a' b', (sm g25 [0] wfuel i_l_right_c1).e [some (potS a b), P, v, s3, none, s5, none, none, s8, none] =
    some (.frs ds, [some (potS a' b'), P, v, s3, none, s5, none, none, s8, none]) ∧ ds.length = 8 ∧ (∀ d ∈ ds, ∃ pt, d = frD pt ∧ ptOk pt) ∧ potB b' := by
  obtain ⟨ds, ρ', g1, g2, g3, a3, b3, rfl, hb3⟩ := lcG_inv (vs := [9]) (ρ0 := [some (potS a b), P, v, s3, none, s5, none, none, s8, none]) (t := (sm g25 [0] wfuel (.tnm 9)).t) (c := (sm g25 [0] wfuel (.bl true)).e) (e := (sm g25 [0] wfuel i_l_right_c1e).e)
    (fun ρ => ∃ a b, ρ = [some (potS a b), P, v, s3, none, s5, none, none, s8, none] ∧ potB b) (fun d => ∃ pt, d = frD pt ∧ ptOk pt) ((List.range (8 : Int).toNat).map fun (i : Nat) => .int i)
    [some (potS a b), P, v, s3, none, s5, none, none, s8, none] [] ⟨a, b, rfl, hb⟩ (by simp [szE]) (by
      rintro x hx ρ ⟨a, b, rfl, hb⟩
      obtain ⟨i, hi, rfl⟩ := List.mem_map.mp hx
      obtain ⟨pt, a', b', e, q1, q2⟩ := e_l_point (a := a) hb
      refine ⟨[some (potS a b), P, v, s3, none, s5, none, none, s8, some (.dat (.int i))], .dat (.bool true), _, .dat (frD pt), [some (potS a' b'), P, v, s3, none, s5, none, none, s8, some (.dat (.int i))], ?_, rfl, rfl, ?_, ⟨pt, rfl, q1⟩, a', b', ?_, q2⟩
      · simp [sm, ownsAt, outs, argG, varI, isAbs, arsD, arD, refs, slsOf, slOf, putBack, pubD, getD, getO, setS, wipeE, backE, partD, parG]
      · unfold i_l_right_c1e
        unfold potS at e ⊢
        simp [sm, ownsAt, outs, argG, varI, isAbs, arsD, arD, refs, slsOf, slOf, putBack, pubD, getD, getO, setS, wipeE, backE, partD, parG, q25_l_point, e]
      · simp [sm, ownsAt, outs, argG, varI, isAbs, arsD, arD, refs, slsOf, slOf, putBack, pubD, getD, getO, setS, wipeE, backE, partD, parG])
  refine ⟨ds, a3, b3, ?_, by rw [g2]; simp, g3, hb3⟩
  unfold i_l_right_c1
  refine lc_ev (ρ1 := [some (potS a b), P, v, s3, none, s5, none, none, s8, none]) (xs := (List.range (8 : Int).toNat).map fun (i : Nat) => .int i) ?_ (by simp) g1
  have hr : rngD [.int 8] = some ((List.range (8 : Int).toNat).map fun (i : Nat) => .int i) := by simp [rngD]
  simp [sm, ownsAt, outs, argG, varI, isAbs, arsD, arD, refs, slsOf, slOf, putBack, pubD, getD, getO, setS, wipeE, backE, partD, parG, hr]
theorem isP_pol {n : Nat} {p : List (Option Int)} (h : polyOk n p) (hn : n ≤ 13) : isP (polD p) = true := by
  obtain ⟨l1, l2, pe, i, m, hi⟩ := h
  have a1 : decide (1 ≤ ((p.map optD).length : Int)) = true := decide_eq_true (by simp; omega)
  have a2 : decide (((p.map optD).length : Int) ≤ 13) = true := decide_eq_true (by simp; omega)
  have a3 : (p.map optD).all okE = true := List.all_eq_true.mpr fun x hx => by
    obtain ⟨o, ho, rfl⟩ := List.mem_map.mp hx
    cases o with
    | none => rfl
    | some n =>
      obtain ⟨h1, h2⟩ := pe _ ho n rfl
      simp [okE, optD, isW, h1, h2]
  have a4 : ((p.map optD).any fun d => !isNon d) = true := List.any_eq_true.mpr ⟨.int m, List.mem_map.mpr ⟨some m, List.mem_of_getElem? hi, rfl⟩, rfl⟩
  show (decide (1 ≤ ((p.map optD).length : Int)) && decide (((p.map optD).length : Int) ≤ 13) && (p.map optD).all okE && (p.map optD).any fun d => !isNon d) = true
  rw [a1, a2, a3, a4]; rfl
theorem polB_of {n : Nat} {p : List (Option Int)} (h : polyOk n p) (hn : n ≤ 13) : polB p := ⟨by have := h.2.1; omega, fun i hi n e => by have := h.2.2.1 i hi n e; omega⟩
theorem ptB_of {pt : Int × Int} (h : ptOk pt) : ptB pt := ⟨by have := h.1; omega, by have := h.2.1; omega, h.2.2.1, by have := h.2.2.2.1; omega⟩
theorem nice_frO {f : Option (Int × Int)} (h : fO f) : Nice 1 300 (frO f) := by
  cases f with
  | none => exact Nice.none.mono (by omega) (by omega)
  | some g =>
    obtain ⟨h1, h2, h3, h4⟩ := h g rfl
    refine (Nice.tup (k := 0) (m := 91) (xs := [.int g.1, .int g.2]) fun x hx => ?_).mono (by omega) (by simp)
    simp at hx
    rcases hx with rfl | rfl
    · exact Nice.int (n := 90) (by omega) (by omega) (by omega)
    · exact Nice.int (n := 90) (by omega) (by omega) (by omega)
theorem rt_w1b {A v s3 s5 s6 s7 s8 s9 : Option Sl} {p : List (Option Int)} {pt : Int × Int} (hp : polyOk 13 p) (hpt : ptOk pt) : (sm g25 [0] wfuel i_l_right_w1b).s [A, some (.dat (polD p)), v, s3, some (.dat (frD pt)), s5, s6, s7, s8, s9] =
    some (.nx [A, some (.dat (polD p)), v, s3, some (.dat (frD pt)), some (.dat (frO (valF pt p 0 none))), s6, s7, s8, s9]) := by
  have hB := polB_of hp (by omega)
  have e1 := e_l_value (p := p) (ptB_of hpt) hB
  have e2 := e_value_at hpt (isP_pol hp (by omega)) hB
  have nf := nice_frO (valF_ok (ptB_of hpt) p 0 none (by have := hB.1; omega) hB.2 (fun g e => by cases e))
  have r := bl_repr ((nice2 nf).repr (by omega) (by rw [szE]; omega))
  unfold i_l_right_w1b
  simp [sm, ownsAt, outs, argG, varI, isAbs, arsD, arD, refs, slsOf, slOf, putBack, pubD, getD, getO, setS, wipeE, backE, partD, parG, szE, q25_l_value, e1, q25_value_at, e2, r, ne_str]
end k81

namespace k81
open PySem PySem.Spec PyProof.Rows L2 Dx
theorem low_cross {t b : Int} (h : 0 < b) : (lowI t b).1 * b = t * (lowI t b).2 := by
  have h1 : ((Nat.gcd t.natAbs b.natAbs : Nat) : Int) ∣ t := Int.ofNat_dvd_left.mpr (Nat.gcd_dvd_left _ _)
  have h2 : ((Nat.gcd t.natAbs b.natAbs : Nat) : Int) ∣ b := Int.ofNat_dvd_left.mpr (Nat.gcd_dvd_right _ _)
  show t / (Nat.gcd t.natAbs b.natAbs : Nat) * b = t * (b / (Nat.gcd t.natAbs b.natAbs : Nat))
  rw [← Int.mul_ediv_assoc t h2, Int.mul_comm (t / _) b, ← Int.mul_ediv_assoc b h1, Int.mul_comm b t]
theorem low_pos {t b : Int} (h : 0 < b) : 0 < (lowI t b).2 := by
  have g0 : 0 < Nat.gcd t.natAbs b.natAbs := Nat.gcd_pos_of_pos_right _ (by omega)
  exact Int.ediv_pos_of_pos_of_dvd h (by omega) (Int.ofNat_dvd_left.mpr (Nat.gcd_dvd_right _ _))
theorem low_less {t u b : Int} (h : 0 < b) : lessF (lowI t b) (lowI u b) = decide (t < u) := by
  have c1 := low_cross (t := t) h
  have c2 := low_cross (t := u) h
  have p1 := low_pos (t := t) h
  have p2 := low_pos (t := u) h
  unfold lessF
  generalize lowI t b = f at *
  generalize lowI u b = g at *
  have pp : 0 < f.2 * g.2 := Int.mul_pos p1 p2
  have e1 : f.1 * g.2 * b = t * (f.2 * g.2) := by rw [Int.mul_right_comm, c1, Int.mul_assoc]
  have e2 : g.1 * f.2 * b = u * (f.2 * g.2) := by rw [Int.mul_right_comm, c2, Int.mul_assoc, Int.mul_comm g.2 f.2]
  have k : f.1 * g.2 < g.1 * f.2 ↔ t < u := by
    constructor
    · intro z
      have z2 := Int.mul_lt_mul_of_pos_right z h
      rw [e1, e2] at z2
      exact Int.lt_of_mul_lt_mul_right z2 (Int.le_of_lt pp)
    · intro z
      have z2 := Int.mul_lt_mul_of_pos_right z pp
      rw [← e1, ← e2] at z2
      exact Int.lt_of_mul_lt_mul_right z2 (Int.le_of_lt h)
  simp only [k]
theorem val_up {pt : Int × Int} {l : Int} (h : 0 < pt.2) (hp : 0 < pt.1) : ∀ (k i : Nat), valF pt (List.replicate k (some l)) (i + 1) (some (trm pt i l)) = some (trm pt (i + k) l)
  | 0, i => rfl
  | k + 1, i => by
    have e : best (some (trm pt i l)) (trm pt (i + 1) l) = some (trm pt (i + 1) l) := by
      unfold best trm
      simp only [low_less h]
      rw [if_pos]
      refine decide_eq_true ?_
      push_cast
      rw [Int.add_mul]; omega
    show valF pt (List.replicate k (some l)) (i + 1 + 1) (best (some (trm pt i l)) (trm pt (i + 1) l)) = _
    rw [e, val_up h hp k (i + 1), show i + 1 + k = i + (k + 1) by omega]
theorem val_dn {pt : Int × Int} {l : Int} (h : 0 < pt.2) (hp : pt.1 ≤ 0) : ∀ (k i : Nat), valF pt (List.replicate k (some l)) (i + 1) (some (trm pt 0 l)) = some (trm pt 0 l)
  | 0, i => rfl
  | k + 1, i => by
    have e : best (some (trm pt 0 l)) (trm pt (i + 1) l) = some (trm pt 0 l) := by
      unfold best trm
      simp only [low_less h]
      rw [if_neg]
      intro z
      have z := of_decide_eq_true z
      have : ((i + 1 : Nat) : Int) * pt.1 ≤ 0 := Int.mul_nonpos_of_nonneg_of_nonpos (by omega) hp
      have z0 : ((0 : Nat) : Int) * pt.1 = 0 := by simp
      omega
    show valF pt (List.replicate k (some l)) (i + 1 + 1) (best (some (trm pt 0 l)) (trm pt (i + 1) l)) = _
    rw [e, val_dn h hp k (i + 1)]
theorem low_one (l : Int) : lowI (l * 1 + 0 * 1) (1 * 1) = (l, 1) := by
  simp [lowI]
theorem low_mul {l q : Int} (h : 0 < q) : lowI (l * q + ((0 : Nat) : Int) * 0) q = (l, 1) := by
  have g : Nat.gcd (l * q + ((0 : Nat) : Int) * 0).natAbs q.natAbs = q.natAbs := by
    simp [Int.natAbs_mul]
  unfold lowI
  rw [g, show ((q.natAbs : Nat) : Int) = q by omega]
  simp
  rw [Int.mul_ediv_cancel l (by omega), Int.ediv_self (by omega)]
  simp
theorem trm0 (pt : Int × Int) (l : Int) (h : 0 < pt.2) : trm pt 0 l = (l, 1) := by
  have := low_mul (l := l) h
  unfold trm
  simpa using this
theorem val_top {pt : Int × Int} {l : Int} (h : 0 < pt.2) (n : Nat) : valF pt (List.replicate (n + 1) (some l)) 0 none = some (if 0 < pt.1 then trm pt n l else (l, 1)) := by
  show valF pt (List.replicate n (some l)) (0 + 1) (some (trm pt 0 l)) = _
  split
  · rename_i hp
    rw [val_up h hp n 0, Nat.zero_add]
  · rename_i hp
    rw [val_dn h (by omega) n 0, trm0 pt l h]
end k81

namespace k81
open PySem PySem.Spec PyProof.Rows L2 Dx
def fixedP : List PyData := [frD (999999999, 1), frD (-999999999, 1), frD (1, 999999999), frD (0, 1)]
theorem fixed_ok : ∀ d ∈ fixedP, ∃ pt, d = frD pt ∧ ptOk pt := by
  intro d hd
  simp only [fixedP, List.mem_cons, List.not_mem_nil, or_false] at hd
  rcases hd with rfl | rfl | rfl | rfl <;> exact ⟨_, rfl, by refine ⟨?_, ?_, ?_, ?_, ?_⟩ <;> decide⟩
theorem rt_w1 {a b : Int} {p : List (Option Int)} {v s3 s5 s8 : Option Sl} (hb : potB b) (hp : polyOk 13 p) : ∃ a' b' s4 t5, (sm g25 [0] wfuel i_l_right_w1).s [some (potS a b), some (.dat (polD p)), v, s3, none, s5, none, none, s8, none] =
    some (.nx [some (potS a' b'), some (.dat (polD p)), v, s3, s4, t5, none, none, s8, none]) ∧ potB b' := by
  obtain ⟨ds, a1, b1, e1, l1, hc, hb1⟩ := rt_c1 (a := a) (P := some (.dat (polD p))) (v := v) (s3 := s3) (s5 := s5) (s8 := s8) hb
  have cat := bin_cat (xs := ds) (ys := fixedP) (by rw [szE, l1]; simp [fixedP])
  obtain ⟨ρ', f1, s4, t5, rfl, _⟩ := forG_inv (t := (sm g25 [0] wfuel (.tnm 4)).t) (b := (sm g25 [0] wfuel i_l_right_w1b).s)
    (fun r ρ => ∃ s4 t5, ρ = [some (potS a1 b1), some (.dat (polD p)), v, s3, s4, t5, none, none, s8, none] ∧ ∀ d ∈ r, ∃ pt, d = frD pt ∧ ptOk pt) (ds ++ fixedP)
    [some (potS a1 b1), some (.dat (polD p)), v, s3, none, s5, none, none, s8, none] ⟨none, s5, rfl, fun d hd => (List.mem_append.mp hd).elim (hc d) (fixed_ok d)⟩ (by
      rintro x r ρ ⟨s4, t5, rfl, hr⟩
      obtain ⟨pt, rfl, hpt⟩ := hr x List.mem_cons_self
      have eb := rt_w1b (A := some (potS a1 b1)) (v := v) (s3 := s3) (s5 := t5) (s6 := none) (s7 := none) (s8 := s8) (s9 := none) hp hpt
      exact ⟨_, _, by simp [sm, ownsAt, outs, argG, varI, isAbs, arsD, arD, refs, slsOf, slOf, putBack, pubD, getD, getO, setS, wipeE, backE, partD, parG], .inl eb, _, _, rfl, fun d hd => hr d (List.mem_cons_of_mem _ hd)⟩)
  refine ⟨a1, b1, s4, t5, ?_, hb1⟩
  unfold i_l_right_w1
  refine for_ev ?_ f1
  unfold fixedP frD at *
  simp [sm, ownsAt, outs, argG, varI, isAbs, arsD, arD, refs, slsOf, slOf, putBack, pubD, getD, getO, setS, wipeE, backE, partD, parG, szE, e1, cat]
theorem eqv_frD (p : Int × Int) : PyData.eqv (frD p) (frD p) = true := by
  simp [frD, PyData.eqv, PyData.eqvAll]
theorem polyOk_rep {l : Int} {n : Nat} (hn : n ≤ 12) (h1 : -50 ≤ l) (h2 : l ≤ 50) : polyOk 13 (List.replicate (n + 1) (some l)) := by
  refine ⟨by simp, by simp; omega, fun o ho m e => ?_, 0, l, rfl⟩
  rw [List.eq_of_mem_replicate ho] at e
  cases e; omega
theorem fr_flat (l : Int) : ∀ n : Nat, (List.replicate n [PyData.int l]).flatten = (List.replicate n (some l)).map optD
  | 0 => rfl
  | n + 1 => by
    rw [List.replicate_succ, List.flatten_cons, fr_flat l n, List.replicate_succ]; rfl
theorem e_l_right {a b : Int} (hb : potB b) : ∃ a' b', f_l_right [potS a b] = some (.dat (.bool true), [potS a' b']) ∧ potB b' := by
  obtain ⟨p, a1, b1, e1, hp, hb1⟩ := e_l_poly (a := a) (most := 6) hb (by omega) (by omega)
  have hp13 : polyOk 13 p := ⟨hp.1, by have := hp.2.1; omega, hp.2.2⟩
  obtain ⟨a2, b2, s3, s5, s8, e2, hb2⟩ := rt_w0 (a := a1) hb1 hp13
  obtain ⟨a3, b3, s4, t5, e3, hb3⟩ := rt_w1 (a := a2) (v := some (.dat (.list (valsD p)))) (s3 := s3) (s5 := s5) (s8 := s8) hb2 hp13
  obtain ⟨r1, a4, b4, e4, r11, r12, hb4⟩ := e_l_draw (a := a3) (m := 13) hb3 (by omega) (by omega)
  obtain ⟨r2, a5, b5, e5, r21, r22, hb5⟩ := e_l_draw (a := a4) (m := 99) hb4 (by omega) (by omega)
  obtain ⟨pt, a6, b6, e6, hpt, hb6⟩ := e_l_point (a := a5) hb5
  obtain ⟨n, rfl⟩ : ∃ n : Nat, r1 = n := ⟨r1.toNat, by omega⟩
  have hB := ptB_of hpt
  obtain ⟨q1, q2, q3, q4, q5⟩ := hpt
  have hpr := polyOk_rep (l := r2 - 50) (n := n) (by omega) (by omega) (by omega)
  have ev := e_value_at (p := List.replicate (n + 1) (some (r2 - 50))) ⟨q1, q2, q3, q4, q5⟩ (isP_pol hpr (by omega)) (polB_of hpr (by omega))
  rw [val_top q3] at ev
  have rep := bin_rep (xs := [.int (r2 - 50)]) (k := 1 + (n : Int)) (by omega) (by omega) (by simp)
  rw [fr_flat, show (1 + (n : Int)).toNat = n + 1 by omega] at rep
  refine ⟨a6, b6, ?_, hb6⟩
  have okf : ∀ g : Int × Int, fOk g → cmpD .Eq (frD g) (frD g) = some true := fun g hg => by
    have nf := nice_frO (f := some g) (fun x e => by cases e; exact hg)
    have := nf.ok (by omega)
    rw [show frO (some g) = frD g from rfl] at this
    rw [cmp_eq this this, eqv_frD]
  have k1 : binD .Mult (.tuple [.int 0]) (.int 13) = some (.dat (.tuple (List.replicate 13 (.int 0)))) := rfl
  have k2 : binD .Mult (.tuple [.int 0]) (.int 14) = some (.dat (.tuple (List.replicate 14 (.int 0)))) := rfl
  have k3 : binD .Mult (.tuple [.none]) (.int 12) = some (.dat (.tuple (List.replicate 12 .none))) := rfl
  have k4 := bin_catT (xs := List.replicate 12 .none) (ys := [.int 1]) (by rw [szE]; decide)
  simp at k4
  have pw : binD .Pow (.int 10) (.int 6) = some (.dat (.int 1000000)) := rfl
  have st1 : (sm g25 [0] wfuel (.sset 1 (.call "_law_poly" (.cons (.var 0) (.cons (.int (6)) .nil)) []))).s [some (potS a b), none, none, none, none, none, none, none, none, none] = some (.nx [some (potS a1 b1), some (.dat (polD p)), none, none, none, none, none, none, none, none]) := by
    have e1' : f_l_poly [potS a b, .dat (.int 6)] = some (.dat (polD p), [potS a1 b1, .dat (.int 6)]) := e1
    unfold potS at e1' ⊢
    simp [sm, ownsAt, outs, argG, varI, isAbs, arsD, arD, refs, slsOf, slOf, putBack, pubD, getD, getO, setS, wipeE, backE, partD, parG, q25_l_poly, e1']
  have hlp : (.tuple (p.map optD) : PyData) = polD p := rfl
  have ll : bltD "list" [polD p] = some (.frs (p.map optD)) := rfl
  unfold f_l_right
  refine fn_rt rfl (ρ := [some (potS a6 b6), some (.dat (polD p)), some (.dat (.list (valsD p))), s3, some (.dat (frD pt)), some (.dat (frD (if 0 < pt.1 then trm pt n (r2 - 50) else (r2 - 50, 1)))), some (.dat (.int (1 + n))), some (.dat (.int (r2 - 50))), s8, none]) ?_ (by simp [outs, potS])
  show (sm g25 [0] wfuel i_l_right).s [some (potS a b), none, none, none, none, none, none, none, none, none] = _
  unfold i_l_right
  refine ss_nx st1 ?_
  refine ss_nx (ρ1 := [some (potS a1 b1), some (.dat (polD p)), some (.dat (.list (valsD p))), none, none, none, none, none, none, none]) ?_ ?_
  · simp [sm, ownsAt, outs, argG, varI, isAbs, arsD, arD, refs, slsOf, slOf, putBack, pubD, getD, getO, setS, wipeE, backE, partD, parG, szE, ll, k1, k2, k3, k4, pw, valsD]
  refine ss_nx e2 (ss_nx e3 ?_)
  refine ss_nx (ρ1 := [some (potS a6 b6), some (.dat (polD p)), some (.dat (.list (valsD p))), s3, some (.dat (frD pt)), t5, some (.dat (.int (1 + n))), some (.dat (.int (r2 - 50))), s8, none]) ?_ ?_
  · unfold potS at *
    simp [sm, ownsAt, outs, argG, varI, isAbs, arsD, arD, refs, slsOf, slOf, putBack, pubD, getD, getO, setS, wipeE, backE, partD, parG, q25_l_draw, e4, e5, q25_l_point, e6]
  by_cases hpos : 0 < pt.1
  · have hm : (-(2 ^ 90) : Int) < pt.1 * n ∧ pt.1 * n < 2 ^ 90 := by
      have := mul_bd (a := pt.1) (b := (n : Int)) (m := 1000000000) (n := 12) (by omega) (by omega)
      generalize pt.1 * (n : Int) = u at *
      omega
    have hm2 : (-(2 ^ 80) : Int) < (r2 - 50) * pt.2 ∧ (r2 - 50) * pt.2 < 2 ^ 80 := by
      have := mul_bd (a := r2 - 50) (b := pt.2) (m := 50) (n := 1000000000) (by omega) (by omega)
      generalize (r2 - 50) * pt.2 = u at *
      omega
    have hm3 : (-(2 ^ 80) : Int) < pt.1 * n ∧ pt.1 * n < 2 ^ 80 := by
      have := mul_bd (a := pt.1) (b := (n : Int)) (m := 1000000000) (n := 12) (by omega) (by omega)
      generalize pt.1 * (n : Int) = u at *
      omega
    have m1 := bin_mul (i := pt.1) (j := (n : Int)) (sm9_small ⟨by omega, by omega⟩) (sm9_small ⟨by omega, by omega⟩)
    have e7 := e_l_plus (p := (r2 - 50, 1)) (q := (pt.1 * n, pt.2)) ⟨by simp only [Int.mul_one]; omega, by simp only [Int.mul_one]; omega, by simp only [Int.one_mul]; omega, by simp only [Int.one_mul]; omega⟩ ⟨by simp only; omega, by simp only; omega, by simp, by simp⟩ ⟨by simp only; omega, by simp only; omega, q3, by simp only; omega⟩
    have et : lowI ((r2 - 50) * pt.2 + pt.1 * n * 1) (1 * pt.2) = trm pt n (r2 - 50) := by
      unfold trm
      rw [Int.mul_one, Int.one_mul, Int.mul_comm pt.1]
    simp only [et] at e7
    simp only [hpos, if_true] at ev ⊢
    have ok := okf (trm pt n (r2 - 50)) (trm_ok hB (by omega) (by omega) (by omega))
    refine ss_nx (ρ1 := [some (potS a6 b6), some (.dat (polD p)), some (.dat (.list (valsD p))), s3, some (.dat (frD pt)), some (.dat (frD (trm pt n (r2 - 50)))), some (.dat (.int (1 + n))), some (.dat (.int (r2 - 50))), s8, none]) ?_ ?_
    · have e7' := e7
      unfold frD at e7' ⊢
      simp [sm, ownsAt, outs, argG, varI, isAbs, arsD, arD, refs, slsOf, slOf, putBack, pubD, getD, getO, setS, wipeE, backE, partD, parG, szE, hpos, show (1 + (n : Int) - 1) = n by omega, m1, q25_l_plus, e7']
    · refine ss_rt ?_
      unfold polD at ev
      have ev' := ev
      simp only [frO, List.map_replicate] at ev'
      simp [sm, ownsAt, outs, argG, varI, isAbs, arsD, arD, refs, slsOf, slOf, putBack, pubD, getD, getO, setS, wipeE, backE, partD, parG, szE, rep, q25_value_at, ev', ok]
  · have e7 := e_l_plus (p := (r2 - 50, 1)) (q := (0, 1)) ⟨by simp; omega, by simp; omega, by simp, by simp⟩ ⟨by simp only; omega, by simp only; omega, by simp, by simp⟩ ⟨by simp, by simp, by simp, by simp⟩
    simp only [low_one] at e7
    simp only [hpos, if_false] at ev ⊢
    have ok := okf (r2 - 50, 1) ⟨by simp only; omega, by simp only; omega, by simp, by simp⟩
    refine ss_nx (ρ1 := [some (potS a6 b6), some (.dat (polD p)), some (.dat (.list (valsD p))), s3, some (.dat (frD pt)), some (.dat (frD (r2 - 50, 1))), some (.dat (.int (1 + n))), some (.dat (.int (r2 - 50))), s8, none]) ?_ ?_
    · have e7' := e7
      unfold frD at e7' ⊢
      simp [sm, ownsAt, outs, argG, varI, isAbs, arsD, arD, refs, slsOf, slOf, putBack, pubD, getD, getO, setS, wipeE, backE, partD, parG, szE, hpos, q25_l_plus, e7']
    · refine ss_rt ?_
      unfold polD at ev
      have ev' := ev
      simp only [frO, List.map_replicate] at ev'
      simp [sm, ownsAt, outs, argG, varI, isAbs, arsD, arD, refs, slsOf, slOf, putBack, pubD, getD, getO, setS, wipeE, backE, partD, parG, szE, rep, q25_value_at, ev', ok]
end k81

namespace k81
open PySem PySem.Spec PyProof.Rows L2 Dx
theorem law_c0 {ns : List Int} (hl : ns.length ≤ 63) : ∃ ds, (sm g26 [] wfuel i_law_c0).e [some (.dat (.list (ns.map .int))), none] = some (.frs ds, [some (.dat (.list (ns.map .int))), none]) ∧ ∀ d ∈ ds, d = .bool true := by
  obtain ⟨m, hm, hm2⟩ : ∃ m : Nat, (if (if (ns.length : Int) < 2 then (ns.length : Int) else 2) > 1 then (if (ns.length : Int) < 2 then (ns.length : Int) else 2) else 1) = (m : Int) ∧ m ≤ 2 := by
    refine ⟨(if (if (ns.length : Int) < 2 then (ns.length : Int) else 2) > 1 then (if (ns.length : Int) < 2 then (ns.length : Int) else 2) else 1).toNat, ?_, ?_⟩ <;> (repeat' split) <;> omega
  obtain ⟨ds, ρ', g1, g2, g3, rfl⟩ := lcG_inv (vs := [1]) (ρ0 := [some (.dat (.list (ns.map .int))), none]) (t := (sm g26 [] wfuel (.tnm 1)).t) (c := (sm g26 [] wfuel (.bl true)).e) (e := (sm g26 [] wfuel i_law_c0e).e)
    (fun ρ => ρ = [some (.dat (.list (ns.map .int))), none]) (fun d => d = .bool true) ((List.range (m : Int).toNat).map fun (i : Nat) => .int i)
    [some (.dat (.list (ns.map .int))), none] [] rfl (by simp [szE]; omega) (by
      rintro x hx ρ rfl
      obtain ⟨i, hi, rfl⟩ := List.mem_map.mp hx
      have hi := List.mem_range.mp hi
      obtain ⟨p0, p1, e1, hb⟩ := e_l_pot (ns := ns) (k := i) (by omega)
      obtain ⟨a', b', e2, _⟩ := e_l_right (a := p0) hb
      refine ⟨[some (.dat (.list (ns.map .int))), some (.dat (.int i))], .dat (.bool true), _, .dat (.bool true), [some (.dat (.list (ns.map .int))), some (.dat (.int i))], by simp [sm, ownsAt, outs, argG, varI, isAbs, arsD, arD, refs, slsOf, slOf, putBack, pubD, getD, getO, setS, wipeE, backE, partD, parG], rfl, rfl, ?_, rfl, by simp [sm, ownsAt, outs, argG, varI, isAbs, arsD, arD, refs, slsOf, slOf, putBack, pubD, getD, getO, setS, wipeE, backE, partD, parG]⟩
      unfold i_law_c0e
      unfold potS at e2
      simp [sm, ownsAt, outs, argG, varI, isAbs, arsD, arD, refs, slsOf, slOf, putBack, pubD, getD, getO, setS, wipeE, backE, partD, parG, q26_l_pot, e1, q26_l_right, e2])
  refine ⟨ds, ?_, g3⟩
  unfold i_law_c0
  refine lc_ev (ρ1 := [some (.dat (.list (ns.map .int))), none]) (xs := (List.range (m : Int).toNat).map fun (i : Nat) => .int i) ?_ (by simp) g1
  have hr : rngD [.int (m : Int)] = some ((List.range (m : Int).toNat).map fun (i : Nat) => .int i) := if_pos ⟨by omega, by omega⟩
  rw [← hm] at hr ⊢
  simp [sm, ownsAt, outs, argG, varI, isAbs, arsD, arD, refs, slsOf, slOf, putBack, pubD, getD, getO, setS, wipeE, backE, partD, parG] at hr ⊢
  simp [hr]
theorem allBl_true : ∀ {ds : List PyData}, (∀ d ∈ ds, d = .bool true) → ∃ bs, allBl ds = some bs ∧ bs.all id = true
  | [], _ => ⟨[], rfl, rfl⟩
  | d :: ds, h => by
    obtain ⟨bs, e1, e2⟩ := allBl_true fun x hx => h x (List.mem_cons_of_mem _ hx)
    have e := h d List.mem_cons_self
    subst e
    exact ⟨true :: bs, by simp [allBl, e1], by simpa using e2⟩
theorem law_true (ns : List Int) (h1 : ns.length ≤ 63) (h2 : ∀ z ∈ ns, Builtin.Int.intBits z ≤ 1048576) : ∃ out, f_law [.dat (.list (ns.map PyData.int))] = some (.dat (.bool true), out) := by
  obtain ⟨ds, e, hd⟩ := law_c0 h1
  obtain ⟨bs, e1, e2⟩ := allBl_true hd
  refine ⟨[.dat (.list (ns.map PyData.int))], ?_⟩
  unfold f_law
  refine fn_rt rfl (ρ := [some (.dat (.list (ns.map PyData.int))), none]) ?_ rfl
  show (sm g26 [] wfuel i_law).s [some (.dat (.list (ns.map PyData.int))), none] = _
  unfold i_law
  refine ss_rt ?_
  simp only [sm, argG, varI, e, Option.bind_eq_bind, Option.bind_some, arsD, arD, rd_frs, bl_all, e1, Option.map_some, e2, List.tail_nil]
end k81

namespace k81
open PySem PySem.Spec PyProof.Rows L2 Dx
theorem all_mk {l : PySem.W.OpenLaw} {w : World} {K : PySem.W.Frag} {h : Heap} {mg : Str → Option Value} {fa f0 f1 f2 f3 f4 f5 f6 f7 f8 f9 f10 f11 f12 f13 f14 f15 f16 f17 f18 f19 f20 f21 f22 f23 f24 f25 f26 : Addr} (X : K.In h) (G : h.Ns mainGlobals mg) (hfa : mg "law" = some (.ref fa))
    {od0 od1 od2 od3 od4 od5 od6 od7 od8 od9 od10 od11 od12 od13 od14 od15 od16 od17 od18 od19 od20 od21 od22 od23 od24 od25 od26 an0 an1 an2 an3 an4 an5 an6 an7 an8 an9 an10 an11 an12 an13 an14 an15 an16 an17 an18 an19 an20 an21 an22 an23 an24 an25 an26 : Option Addr} {sl0 sl1 sl2 sl3 sl4 sl5 sl6 sl7 sl8 sl9 sl10 sl11 sl12 sl13 sl14 sl15 sl16 sl17 sl18 sl19 sl20 sl21 sl22 sl23 sl24 sl25 sl26 : Array (Option Value)} {oc0 oc1 oc2 oc3 oc4 oc5 oc6 oc7 oc8 oc9 oc10 oc11 oc12 oc13 oc14 oc15 oc16 oc17 oc18 oc19 oc20 oc21 oc22 oc23 oc24 oc25 oc26 kV0 kV1 kV2 kV3 kV4 kV5 kV6 kV7 kV8 kV9 kV10 kV11 kV12 kV13 kV14 kV15 kV16 kV17 kV18 kV19 kV20 kV21 kV22 kV23 kV24 kV25 kV26 dc0 dc1 dc2 dc3 dc4 dc5 dc6 dc7 dc8 dc9 dc10 dc11 dc12 dc13 dc14 dc15 dc16 dc17 dc18 dc19 dc20 dc21 dc22 dc23 dc24 dc25 dc26 pm0 pm1 pm2 pm3 pm4 pm5 pm6 pm7 pm8 pm9 pm10 pm11 pm12 pm13 pm14 pm15 pm16 pm17 pm18 pm19 pm20 pm21 pm22 pm23 pm24 pm25 pm26 cd0 cd1 cd2 cd3 cd4 cd5 cd6 cd7 cd8 cd9 cd10 cd11 cd12 cd13 cd14 cd15 cd16 cd17 cd18 cd19 cd20 cd21 cd22 cd23 cd24 cd25 cd26 ct0 ct1 ct2 ct3 ct4 ct5 ct6 ct7 ct8 ct9 ct10 ct11 ct12 ct13 ct14 ct15 ct16 ct17 ct18 ct19 ct20 ct21 ct22 ct23 ct24 ct25 ct26 : Value} {tk0 tk1 tk2 : Tok}
    (a0 : PySem.W.nsIn K mainGlobals "is_integer" = some (some (.ref f0))) (l0 : K.lookup f0 = some ⟨oc0, od0, .func (PySem.W.fnOf "is_integer" "is_integer" (defArgs (tp 2)) (defBody (tp 2)) (defScope (tp 2)) .none kV0 dc0 pm0 an0 cd0 ct0), sl0⟩) (c0 : PySem.W.codeIn K cd0 "is_integer" = true) (k0 : PySem.W.keepIn K (.ref f0) = true)
    (a1 : PySem.W.nsIn K mainGlobals "is_within" = some (some (.ref f1))) (l1 : K.lookup f1 = some ⟨oc1, od1, .func (PySem.W.fnOf "is_within" "is_within" (defArgs (tp 3)) (defBody (tp 3)) (defScope (tp 3)) .none kV1 dc1 pm1 an1 cd1 ct1), sl1⟩) (c1 : PySem.W.codeIn K cd1 "is_within" = true) (k1 : PySem.W.keepIn K (.ref f1) = true)
    (a2 : PySem.W.nsIn K mainGlobals "is_tuple" = some (some (.ref f2))) (l2 : K.lookup f2 = some ⟨oc2, od2, .func (PySem.W.fnOf "is_tuple" "is_tuple" (defArgs (tp 4)) (defBody (tp 4)) (defScope (tp 4)) .none kV2 dc2 pm2 an2 cd2 ct2), sl2⟩) (c2 : PySem.W.codeIn K cd2 "is_tuple" = true) (k2 : PySem.W.keepIn K (.ref f2) = true)
    (a3 : PySem.W.nsIn K mainGlobals "fraction" = some (some (.ref f3))) (l3 : K.lookup f3 = some ⟨oc3, od3, .func (PySem.W.fnOf "fraction" "fraction" (defArgs (tp 11)) (defBody (tp 11)) (defScope (tp 11)) .none kV3 dc3 pm3 an3 cd3 ct3), sl3⟩) (c3 : PySem.W.codeIn K cd3 "fraction" = true) (k3 : PySem.W.keepIn K (.ref f3) = true)
    (a4 : PySem.W.nsIn K mainGlobals "is_less" = some (some (.ref f4))) (l4 : K.lookup f4 = some ⟨oc4, od4, .func (PySem.W.fnOf "is_less" "is_less" (defArgs (tp 12)) (defBody (tp 12)) (defScope (tp 12)) .none kV4 dc4 pm4 an4 cd4 ct4), sl4⟩) (c4 : PySem.W.codeIn K cd4 "is_less" = true) (k4 : PySem.W.keepIn K (.ref f4) = true)
    (a5 : PySem.W.nsIn K mainGlobals "is_fraction_any" = some (some (.ref f5))) (l5 : K.lookup f5 = some ⟨oc5, od5, .func (PySem.W.fnOf "is_fraction_any" "is_fraction_any" (defArgs (tp 13)) (defBody (tp 13)) (defScope (tp 13)) .none kV5 dc5 pm5 an5 cd5 ct5), sl5⟩) (c5 : PySem.W.codeIn K cd5 "is_fraction_any" = true) (k5 : PySem.W.keepIn K (.ref f5) = true)
    (a6 : PySem.W.nsIn K mainGlobals "is_polynomial_any" = some (some (.ref f6))) (l6 : K.lookup f6 = some ⟨oc6, od6, .func (PySem.W.fnOf "is_polynomial_any" "is_polynomial_any" (defArgs (tp 17)) (defBody (tp 17)) (defScope (tp 17)) .none kV6 dc6 pm6 an6 cd6 ct6), sl6⟩) (c6 : PySem.W.codeIn K cd6 "is_polynomial_any" = true) (k6 : PySem.W.keepIn K (.ref f6) = true)
    (a7 : PySem.W.nsIn K mainGlobals "want_poly" = some (some (.ref f7))) (l7 : K.lookup f7 = some ⟨oc7, od7, .func (PySem.W.fnOf "want_poly" "want_poly" (defArgs (tp 18)) (defBody (tp 18)) (defScope (tp 18)) .none kV7 dc7 pm7 an7 cd7 ct7), sl7⟩) (c7 : PySem.W.codeIn K cd7 "want_poly" = true) (k7 : PySem.W.keepIn K (.ref f7) = true)
    (a8 : PySem.W.nsIn K mainGlobals "want_point" = some (some (.ref f8))) (l8 : K.lookup f8 = some ⟨oc8, od8, .func (PySem.W.fnOf "want_point" "want_point" (defArgs (tp 19)) (defBody (tp 19)) (defScope (tp 19)) .none kV8 dc8 pm8 an8 cd8 ct8), sl8⟩) (c8 : PySem.W.codeIn K cd8 "want_point" = true) (k8 : PySem.W.keepIn K (.ref f8) = true)
    (a9 : PySem.W.nsIn K mainGlobals "terms_of" = some (some (.ref f9))) (l9 : K.lookup f9 = some ⟨oc9, od9, .func (PySem.W.fnOf "terms_of" "terms_of" (defArgs (tp 20)) (defBody (tp 20)) (defScope (tp 20)) .none kV9 dc9 pm9 an9 cd9 ct9), sl9⟩) (c9 : PySem.W.codeIn K cd9 "terms_of" = true) (k9 : PySem.W.keepIn K (.ref f9) = true)
    (a10 : PySem.W.nsIn K mainGlobals "term_at" = some (some (.ref f10))) (l10 : K.lookup f10 = some ⟨oc10, od10, .func (PySem.W.fnOf "term_at" "term_at" (defArgs (tp 21)) (defBody (tp 21)) (defScope (tp 21)) .none kV10 dc10 pm10 an10 cd10 ct10), sl10⟩) (c10 : PySem.W.codeIn K cd10 "term_at" = true) (k10 : PySem.W.keepIn K (.ref f10) = true)
    (a11 : PySem.W.nsIn K mainGlobals "value_of" = some (some (.ref f11))) (l11 : K.lookup f11 = some ⟨oc11, od11, .func (PySem.W.fnOf "value_of" "value_of" (defArgs (tp 22)) (defBody (tp 22)) (defScope (tp 22)) .none kV11 dc11 pm11 an11 cd11 ct11), sl11⟩) (c11 : PySem.W.codeIn K cd11 "value_of" = true) (k11 : PySem.W.keepIn K (.ref f11) = true)
    (a12 : PySem.W.nsIn K mainGlobals "is_polynomial" = some (some (.ref f12))) (l12 : K.lookup f12 = some ⟨oc12, od12, .func (PySem.W.fnOf "is_polynomial" "is_polynomial" (defArgs (tp 23)) (defBody (tp 23)) (defScope (tp 23)) .none kV12 dc12 pm12 an12 cd12 ct12), sl12⟩) (c12 : PySem.W.codeIn K cd12 "is_polynomial" = true) (k12 : PySem.W.keepIn K (.ref f12) = true)
    (a13 : PySem.W.nsIn K mainGlobals "value_at" = some (some (.ref f13))) (l13 : K.lookup f13 = some ⟨oc13, od13, .func (PySem.W.fnOf "value_at" "value_at" (defArgs (tp 24)) (defBody (tp 24)) (defScope (tp 24)) .none kV13 dc13 pm13 an13 cd13 ct13), sl13⟩) (c13 : PySem.W.codeIn K cd13 "value_at" = true) (k13 : PySem.W.keepIn K (.ref f13) = true)
    (a14 : PySem.W.nsIn K mainGlobals "_law_pot" = some (some (.ref f14))) (l14 : K.lookup f14 = some ⟨oc14, od14, .func (PySem.W.fnOf "_law_pot" "_law_pot" (defArgs (tp 26)) (defBody (tp 26)) (defScope (tp 26)) .none kV14 dc14 pm14 an14 cd14 ct14), sl14⟩) (c14 : PySem.W.codeIn K cd14 "_law_pot" = true) (k14 : PySem.W.keepIn K (.ref f14) = true)
    (a15 : PySem.W.nsIn K mainGlobals "_law_draw" = some (some (.ref f15))) (l15 : K.lookup f15 = some ⟨oc15, od15, .func (PySem.W.fnOf "_law_draw" "_law_draw" (defArgs (tp 27)) (defBody (tp 27)) (defScope (tp 27)) .none kV15 dc15 pm15 an15 cd15 ct15), sl15⟩) (c15 : PySem.W.codeIn K cd15 "_law_draw" = true) (k15 : PySem.W.keepIn K (.ref f15) = true)
    (a16 : PySem.W.nsIn K mainGlobals "_law_pick" = some (some (.ref f16))) (l16 : K.lookup f16 = some ⟨oc16, od16, .func (PySem.W.fnOf "_law_pick" "_law_pick" (defArgs (tp 28)) (defBody (tp 28)) (defScope (tp 28)) .none kV16 dc16 pm16 an16 cd16 ct16), sl16⟩) (c16 : PySem.W.codeIn K cd16 "_law_pick" = true) (k16 : PySem.W.keepIn K (.ref f16) = true)
    (a17 : PySem.W.nsIn K mainGlobals "_law_low" = some (some (.ref f17))) (l17 : K.lookup f17 = some ⟨oc17, od17, .func (PySem.W.fnOf "_law_low" "_law_low" (defArgs (tp 29)) (defBody (tp 29)) (defScope (tp 29)) .none kV17 dc17 pm17 an17 cd17 ct17), sl17⟩) (c17 : PySem.W.codeIn K cd17 "_law_low" = true) (k17 : PySem.W.keepIn K (.ref f17) = true)
    (a18 : PySem.W.nsIn K mainGlobals "_law_is_less" = some (some (.ref f18))) (l18 : K.lookup f18 = some ⟨oc18, od18, .func (PySem.W.fnOf "_law_is_less" "_law_is_less" (defArgs (tp 30)) (defBody (tp 30)) (defScope (tp 30)) .none kV18 dc18 pm18 an18 cd18 ct18), sl18⟩) (c18 : PySem.W.codeIn K cd18 "_law_is_less" = true) (k18 : PySem.W.keepIn K (.ref f18) = true)
    (a19 : PySem.W.nsIn K mainGlobals "_law_plus" = some (some (.ref f19))) (l19 : K.lookup f19 = some ⟨oc19, od19, .func (PySem.W.fnOf "_law_plus" "_law_plus" (defArgs (tp 31)) (defBody (tp 31)) (defScope (tp 31)) .none kV19 dc19 pm19 an19 cd19 ct19), sl19⟩) (c19 : PySem.W.codeIn K cd19 "_law_plus" = true) (k19 : PySem.W.keepIn K (.ref f19) = true)
    (a20 : PySem.W.nsIn K mainGlobals "_law_value" = some (some (.ref f20))) (l20 : K.lookup f20 = some ⟨oc20, od20, .func (PySem.W.fnOf "_law_value" "_law_value" (defArgs (tp 33)) (defBody (tp 33)) (defScope (tp 33)) .none kV20 dc20 pm20 an20 cd20 ct20), sl20⟩) (c20 : PySem.W.codeIn K cd20 "_law_value" = true) (k20 : PySem.W.keepIn K (.ref f20) = true)
    (a21 : PySem.W.nsIn K mainGlobals "_law_poly" = some (some (.ref f21))) (l21 : K.lookup f21 = some ⟨oc21, od21, .func (PySem.W.fnOf "_law_poly" "_law_poly" (defArgs (tp 36)) (defBody (tp 36)) (defScope (tp 36)) .none kV21 dc21 pm21 an21 cd21 ct21), sl21⟩) (c21 : PySem.W.codeIn K cd21 "_law_poly" = true) (k21 : PySem.W.keepIn K (.ref f21) = true)
    (a22 : PySem.W.nsIn K mainGlobals "_law_point" = some (some (.ref f22))) (l22 : K.lookup f22 = some ⟨oc22, od22, .func (PySem.W.fnOf "_law_point" "_law_point" (defArgs (tp 37)) (defBody (tp 37)) (defScope (tp 37)) .none kV22 dc22 pm22 an22 cd22 ct22), sl22⟩) (c22 : PySem.W.codeIn K cd22 "_law_point" = true) (k22 : PySem.W.keepIn K (.ref f22) = true)
    (a23 : PySem.W.nsIn K mainGlobals "_law_is_poly" = some (some (.ref f23))) (l23 : K.lookup f23 = some ⟨oc23, od23, .func (PySem.W.fnOf "_law_is_poly" "_law_is_poly" (defArgs (tp 40)) (defBody (tp 40)) (defScope (tp 40)) .none kV23 dc23 pm23 an23 cd23 ct23), sl23⟩) (c23 : PySem.W.codeIn K cd23 "_law_is_poly" = true) (k23 : PySem.W.keepIn K (.ref f23) = true)
    (a24 : PySem.W.nsIn K mainGlobals "_law_bent" = some (some (.ref f24))) (l24 : K.lookup f24 = some ⟨oc24, od24, .func (PySem.W.fnOf "_law_bent" "_law_bent" (defArgs (tp 41)) (defBody (tp 41)) (defScope (tp 41)) .none kV24 dc24 pm24 an24 cd24 ct24), sl24⟩) (c24 : PySem.W.codeIn K cd24 "_law_bent" = true) (k24 : PySem.W.keepIn K (.ref f24) = true)
    (a25 : PySem.W.nsIn K mainGlobals "_law_right" = some (some (.ref f25))) (l25 : K.lookup f25 = some ⟨oc25, od25, .func (PySem.W.fnOf "_law_right" "_law_right" (defArgs (tp 42)) (defBody (tp 42)) (defScope (tp 42)) .none kV25 dc25 pm25 an25 cd25 ct25), sl25⟩) (c25 : PySem.W.codeIn K cd25 "_law_right" = true) (k25 : PySem.W.keepIn K (.ref f25) = true)
    (a26 : PySem.W.nsIn K mainGlobals "law" = some (some (.ref f26))) (l26 : K.lookup f26 = some ⟨oc26, od26, .func (PySem.W.fnOf "law" "law" (defArgs (tp 43)) (defBody (tp 43)) (defScope (tp 43)) .none kV26 dc26 pm26 an26 cd26 ct26), sl26⟩) (c26 : PySem.W.codeIn K cd26 "law" = true) (k26 : PySem.W.keepIn K (.ref f26) = true)
    (m0 : PySem.W.nsIn K mainGlobals "MOST_TIME" = some (some (.int (1000000000) tk0)))
    (m1 : PySem.W.nsIn K mainGlobals "MOST_TERMS" = some (some (.int (13) tk1)))
    (m2 : PySem.W.nsIn K mainGlobals "MOST_COEFFICIENT" = some (some (.int (1000000) tk2)))
    (z0 : PySem.W.nsIn K mainGlobals "len" = some none)
    (z1 : PySem.W.nsIn K mainGlobals "abs" = some none)
    (z2 : PySem.W.nsIn K mainGlobals "int" = some none)
    (z3 : PySem.W.nsIn K mainGlobals "max" = some none)
    (z4 : PySem.W.nsIn K mainGlobals "min" = some none)
    (z5 : PySem.W.nsIn K mainGlobals "all" = some none)
    (z6 : PySem.W.nsIn K mainGlobals "any" = some none)
    (z7 : PySem.W.nsIn K mainGlobals "sum" = some none)
    (z8 : PySem.W.nsIn K mainGlobals "list" = some none)
    (z9 : PySem.W.nsIn K mainGlobals "tuple" = some none)
    (z10 : PySem.W.nsIn K mainGlobals "range" = some none)
    (z11 : PySem.W.nsIn K mainGlobals "enumerate" = some none)
    (z12 : PySem.W.nsIn K mainGlobals "zip" = some none)
    (z13 : PySem.W.nsIn K mainGlobals "isinstance" = some none)
    (z14 : PySem.W.nsIn K mainGlobals "bool" = some none)
    (z15 : PySem.W.nsIn K mainGlobals "str" = some none)
    (z16 : PySem.W.nsIn K mainGlobals "repr" = some none)
    (z17 : PySem.W.nsIn K mainGlobals "divmod" = some none)
    (z18 : PySem.W.nsIn K mainGlobals "sorted" = some none)
    (z19 : PySem.W.nsIn K mainGlobals "dict" = some none)
    (gg : PySem.W.nsIn K mainGlobals "gcd" = some (some (.builtin "math.gcd")))
    : ∃ fd : FuncData, (∀ (s : Shared) (u : Value), BindsTo s fd ⟨[u], []⟩ [("script", u)]) ∧ ∀ base : Heap, K.In base → base.Ns mainGlobals mg → Ct l.prog w K mg base 27 fa fd ["script"] (spR K ⟨[false], f_law⟩) := by
  have e := hfa.symm.trans (PySem.W.mg_of X G a26)
  cases e
  refine ⟨PySem.W.fnOf "law" "law" (defArgs (tp 43)) (defBody (tp 43)) (defScope (tp 43)) .none kV26 dc26 pm26 an26 cd26 ct26, fun s u => .of_eq rfl, fun base _ _ => ?_⟩
  have hg := PySem.W.mg_of X G gg
  have T0 : Tb l.prog w K mg base g0 0 := ⟨fun f g e => (by cases e), fun x d e => ?_, ?_⟩
  · have T1 := t_is_integer T0 hg (fun_mk l0 c0 k0) (PySem.W.mg_of X G a0)
    have T2 := t_is_within T1 hg (fun_mk l1 c1 k1) (PySem.W.mg_of X G a1)
    have T3 := t_is_tuple T2 hg (fun_mk l2 c2 k2) (PySem.W.mg_of X G a2)
    have T4 := t_fraction T3 hg (fun_mk l3 c3 k3) (PySem.W.mg_of X G a3)
    have T5 := t_is_less T4 hg (fun_mk l4 c4 k4) (PySem.W.mg_of X G a4)
    have T6 := t_is_fraction_any T5 hg (fun_mk l5 c5 k5) (PySem.W.mg_of X G a5)
    have T7 := t_is_polynomial_any T6 hg (fun_mk l6 c6 k6) (PySem.W.mg_of X G a6)
    have T8 := t_want_poly T7 hg (fun_mk l7 c7 k7) (PySem.W.mg_of X G a7)
    have T9 := t_want_point T8 hg (fun_mk l8 c8 k8) (PySem.W.mg_of X G a8)
    have T10 := t_terms_of T9 hg (fun_mk l9 c9 k9) (PySem.W.mg_of X G a9)
    have T11 := t_term_at T10 hg (fun_mk l10 c10 k10) (PySem.W.mg_of X G a10)
    have T12 := t_value_of T11 hg (fun_mk l11 c11 k11) (PySem.W.mg_of X G a11)
    have T13 := t_is_polynomial T12 hg (fun_mk l12 c12 k12) (PySem.W.mg_of X G a12)
    have T14 := t_value_at T13 hg (fun_mk l13 c13 k13) (PySem.W.mg_of X G a13)
    have T15 := t_l_pot T14 hg (fun_mk l14 c14 k14) (PySem.W.mg_of X G a14)
    have T16 := t_l_draw T15 hg (fun_mk l15 c15 k15) (PySem.W.mg_of X G a15)
    have T17 := t_l_pick T16 hg (fun_mk l16 c16 k16) (PySem.W.mg_of X G a16)
    have T18 := t_l_low T17 hg (fun_mk l17 c17 k17) (PySem.W.mg_of X G a17)
    have T19 := t_l_is_less T18 hg (fun_mk l18 c18 k18) (PySem.W.mg_of X G a18)
    have T20 := t_l_plus T19 hg (fun_mk l19 c19 k19) (PySem.W.mg_of X G a19)
    have T21 := t_l_value T20 hg (fun_mk l20 c20 k20) (PySem.W.mg_of X G a20)
    have T22 := t_l_poly T21 hg (fun_mk l21 c21 k21) (PySem.W.mg_of X G a21)
    have T23 := t_l_point T22 hg (fun_mk l22 c22 k22) (PySem.W.mg_of X G a22)
    have T24 := t_l_is_poly T23 hg (fun_mk l23 c23 k23) (PySem.W.mg_of X G a23)
    have T25 := t_l_bent T24 hg (fun_mk l24 c24 k24) (PySem.W.mg_of X G a24)
    have T26 := t_l_right T25 hg (fun_mk l25 c25 k25) (PySem.W.mg_of X G a25)
    exact ct_of (c := cc ["script", "k"] [] 26) (ks := [false]) (fun_mk l26 c26 k26) s_law T26 (fun _ => hg) rfl rfl c_law
  · have e : consF x = some d := e
    unfold consF at e
    split at e
    · rename_i hx; subst hx; cases e; exact ⟨.int (1000000000), .int (1000000000) tk0, PySem.W.mg_of X G m0, ⟨tk0, rfl⟩, fun Z => .int _⟩
    split at e
    · rename_i hx; subst hx; cases e; exact ⟨.int (13), .int (13) tk1, PySem.W.mg_of X G m1, ⟨tk1, rfl⟩, fun Z => .int _⟩
    split at e
    · rename_i hx; subst hx; cases e; exact ⟨.int (1000000), .int (1000000) tk2, PySem.W.mg_of X G m2, ⟨tk2, rfl⟩, fun Z => .int _⟩
    cases e
  · exact List.forall_mem_cons.mpr ⟨PySem.W.mg_none_of X G z0, List.forall_mem_cons.mpr ⟨PySem.W.mg_none_of X G z1, List.forall_mem_cons.mpr ⟨PySem.W.mg_none_of X G z2, List.forall_mem_cons.mpr ⟨PySem.W.mg_none_of X G z3, List.forall_mem_cons.mpr ⟨PySem.W.mg_none_of X G z4, List.forall_mem_cons.mpr ⟨PySem.W.mg_none_of X G z5, List.forall_mem_cons.mpr ⟨PySem.W.mg_none_of X G z6, List.forall_mem_cons.mpr ⟨PySem.W.mg_none_of X G z7, List.forall_mem_cons.mpr ⟨PySem.W.mg_none_of X G z8, List.forall_mem_cons.mpr ⟨PySem.W.mg_none_of X G z9, List.forall_mem_cons.mpr ⟨PySem.W.mg_none_of X G z10, List.forall_mem_cons.mpr ⟨PySem.W.mg_none_of X G z11, List.forall_mem_cons.mpr ⟨PySem.W.mg_none_of X G z12, List.forall_mem_cons.mpr ⟨PySem.W.mg_none_of X G z13, List.forall_mem_cons.mpr ⟨PySem.W.mg_none_of X G z14, List.forall_mem_cons.mpr ⟨PySem.W.mg_none_of X G z15, List.forall_mem_cons.mpr ⟨PySem.W.mg_none_of X G z16, List.forall_mem_cons.mpr ⟨PySem.W.mg_none_of X G z17, List.forall_mem_cons.mpr ⟨PySem.W.mg_none_of X G z18, List.forall_mem_cons.mpr ⟨PySem.W.mg_none_of X G z19, fun x z => nomatch z⟩⟩⟩⟩⟩⟩⟩⟩⟩⟩⟩⟩⟩⟩⟩⟩⟩⟩⟩⟩
end k81
open PySem PySem.W PyProof.Rows
set_option maxHeartbeats 0 in
theorem PySem.Challenge.cw_laterthen_k81_any_value_as_a_polynomial_holds : PySem.Challenge.rw_laterthen_k81_any_value_as_a_polynomial.Holds := by
  w_on; o_law; k_head; (case hw => w_witness2)
  k_fill
  refine Dx.walk_ct (l := PySem.Challenge.rw_laterthen_k81_any_value_as_a_polynomial) (n := 63) (k := 27) (x := "script") (f := k81.f_law) rfl (by decide) rfl ⟨⟨rfl, by decide, by decide⟩, rfl⟩ (fun w h Y => PySem.W.kIn_of Y) ?F k81.law_true
  case F =>
    intro w mg fa h KX G hmg
    refine' k81.all_mk KX G hmg ?a0 ?l0 ?c0 ?k0 ?a1 ?l1 ?c1 ?k1 ?a2 ?l2 ?c2 ?k2 ?a3 ?l3 ?c3 ?k3 ?a4 ?l4 ?c4 ?k4 ?a5 ?l5 ?c5 ?k5 ?a6 ?l6 ?c6 ?k6 ?a7 ?l7 ?c7 ?k7 ?a8 ?l8 ?c8 ?k8 ?a9 ?l9 ?c9 ?k9 ?a10 ?l10 ?c10 ?k10 ?a11 ?l11 ?c11 ?k11 ?a12 ?l12 ?c12 ?k12 ?a13 ?l13 ?c13 ?k13 ?a14 ?l14 ?c14 ?k14 ?a15 ?l15 ?c15 ?k15 ?a16 ?l16 ?c16 ?k16 ?a17 ?l17 ?c17 ?k17 ?a18 ?l18 ?c18 ?k18 ?a19 ?l19 ?c19 ?k19 ?a20 ?l20 ?c20 ?k20 ?a21 ?l21 ?c21 ?k21 ?a22 ?l22 ?c22 ?k22 ?a23 ?l23 ?c23 ?k23 ?a24 ?l24 ?c24 ?k24 ?a25 ?l25 ?c25 ?k25 ?a26 ?l26 ?c26 ?k26 ?m0 ?m1 ?m2 ?z0 ?z1 ?z2 ?z3 ?z4 ?z5 ?z6 ?z7 ?z8 ?z9 ?z10 ?z11 ?z12 ?z13 ?z14 ?z15 ?z16 ?z17 ?z18 ?z19 ?gg
    (case a0 => k_is); (case l0 => k_is); (case c0 => k_is); (case k0 => k_is); (case a1 => k_is); (case l1 => k_is); (case c1 => k_is); (case k1 => k_is)
    (case a2 => k_is); (case l2 => k_is); (case c2 => k_is); (case k2 => k_is); (case a3 => k_is); (case l3 => k_is); (case c3 => k_is); (case k3 => k_is)
    (case a4 => k_is); (case l4 => k_is); (case c4 => k_is); (case k4 => k_is); (case a5 => k_is); (case l5 => k_is); (case c5 => k_is); (case k5 => k_is)
    (case a6 => k_is); (case l6 => k_is); (case c6 => k_is); (case k6 => k_is); (case a7 => k_is); (case l7 => k_is); (case c7 => k_is); (case k7 => k_is)
    (case a8 => k_is); (case l8 => k_is); (case c8 => k_is); (case k8 => k_is); (case a9 => k_is); (case l9 => k_is); (case c9 => k_is); (case k9 => k_is)
    (case a10 => k_is); (case l10 => k_is); (case c10 => k_is); (case k10 => k_is); (case a11 => k_is); (case l11 => k_is); (case c11 => k_is); (case k11 => k_is)
    (case a12 => k_is); (case l12 => k_is); (case c12 => k_is); (case k12 => k_is); (case a13 => k_is); (case l13 => k_is); (case c13 => k_is); (case k13 => k_is)
    (case a14 => k_is); (case l14 => k_is); (case c14 => k_is); (case k14 => k_is); (case a15 => k_is); (case l15 => k_is); (case c15 => k_is); (case k15 => k_is)
    (case a16 => k_is); (case l16 => k_is); (case c16 => k_is); (case k16 => k_is); (case a17 => k_is); (case l17 => k_is); (case c17 => k_is); (case k17 => k_is)
    (case a18 => k_is); (case l18 => k_is); (case c18 => k_is); (case k18 => k_is); (case a19 => k_is); (case l19 => k_is); (case c19 => k_is); (case k19 => k_is)
    (case a20 => k_is); (case l20 => k_is); (case c20 => k_is); (case k20 => k_is); (case a21 => k_is); (case l21 => k_is); (case c21 => k_is); (case k21 => k_is)
    (case a22 => k_is); (case l22 => k_is); (case c22 => k_is); (case k22 => k_is); (case a23 => k_is); (case l23 => k_is); (case c23 => k_is); (case k23 => k_is)
    (case a24 => k_is); (case l24 => k_is); (case c24 => k_is); (case k24 => k_is); (case a25 => k_is); (case l25 => k_is); (case c25 => k_is); (case k25 => k_is)
    (case a26 => k_is); (case l26 => k_is); (case c26 => k_is); (case k26 => k_is); (case m0 => k_is); (case m1 => k_is); (case m2 => k_is); (case z0 => k_is)
    (case z1 => k_is); (case z2 => k_is); (case z3 => k_is); (case z4 => k_is); (case z5 => k_is); (case z6 => k_is); (case z7 => k_is); (case z8 => k_is)
    (case z9 => k_is); (case z10 => k_is); (case z11 => k_is); (case z12 => k_is); (case z13 => k_is); (case z14 => k_is); (case z15 => k_is); (case z16 => k_is)
    (case z17 => k_is); (case z18 => k_is); (case z19 => k_is); (case gg => k_is)
