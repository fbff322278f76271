import PyProof.Rows.All
import Wide.All
import OpenK.AllK
import Wide.FinOn
import PyProof.P3Statements
import HandS.ForMost
import HandS.WordsExc
import HandS.Defaults
import HandS.HeadHook2
import KE.GoesMore
import KE.GoesEnum
import KE.DataEq
import HandS.IterVal
import HandS.SetFor
import HandS.Strs
import KE.KDictPairs
import HandS.Star
import HandS.TupAny
import HandS.Conv
import HandS.Flow
import HandS.IsInst
import HandS.Style
import KE.KDictZip
import OpenK.KOps
import HandS.HeadWalk
import HandS.HeadHook1
import HandS.HeadHook4
import HandS.Codes
import HandS.HeadEnd
import KE.KStateDown
import HandS.Head0
import HandS.Head1
import HandS.Head2
import PySem.Challenge.RW_latesights_k87_whole_laps_and_renewals
set_option Elab.async false
set_option linter.all false
set_option maxRecDepth 100000
/-! Mp, part A: the mini language and its evaluator, plain Lean over data. -/
namespace Mp
open PySem

abbrev D := PyData

/-- a value of a name: data, a mutable thing of the small heap, the script -/
inductive EV where
  | d (v : D) | ref (k : Nat) | scr
/-- a mutable thing: a list, a list that is written no more, an instance, a zip that was not walked yet (and what belongs to it), what is no more -/
inductive MO where
  | lst (xs : List D) | ice (xs : List D) | ins (c : Str) (fs : List (Str × D)) | zp (xs ys : List D) | aux | gone

abbrev Hm := List MO
abbrev Ev := List (Option EV)

/-- unary operations -/
inductive UOp where
  | neg | len | abs | int | tuple | list (m : Bool) | sset | sorted | all | any | sum | isi (ts : List String) | fld (f : Str)
inductive BOp where
  | add (m : Bool) | sub | mul | fdiv | mod | pow
  | eq | ne | lt | le | gt | ge | isin | notin | isn | isnn
  | ix | dget | max | min | apnd | popat | index

mutual
inductive ME where
  | var (i : Nat) | con (v : D) | gl (x : Str) (v : D)
  | un (o : UOp) (a : ME) | bin (o : BOp) (a b : ME) | chain (o1 o2 : BOp) (a b c : ME)
  | and (a b : ME) | or (a b : ME) | not (a : ME) | ite (c a b : ME)
  | tup (es : MEs) | lst (m : Bool) (es : MEs) | sl (m : Bool) (a lo hi : ME)
  | call (f : Str) (es : MEs) | meth (i : Nat) (c m : Str) (es : MEs) | lenm (i : Nat) (c : Str) | make (c : Str) (es : MEs)
  | zip (a b : ME) | tupEn (e : ME) | lstRg (m : Bool) (e : ME) | nev
  | lc (m : Bool) (elt : ME) (t : MT) (it : MI) (cond : ME) (own : List Nat)
  | lc2 (m : Bool) (elt : ME) (t : MT) (it : MI) (cond : ME) (t2 : MT) (it2 : MI) (cond2 : ME) (own own2 : List Nat)
inductive MEs where
  | nil | cons (e : ME) (r : MEs) | star (e : ME) (r : MEs)
/-- what is walked -/
inductive MI where
  | seq (e : ME) | rng (e : ME) | rng2 (a b : ME) | enum (e : ME) | zip (a b : ME) | var (i : Nat)
inductive MT where
  | nm (i : Nat) | tup (ts : MTs)
inductive MTs where
  | nil | cons (t : MT) (r : MTs)
end
/-- targets of an assignment -/
inductive MA where
  | pt (t : MT) | fld (i : Nat) (c f : Str) | sub (o ix : ME)
inductive MAs where
  | nil | cons (t : MA) (r : MAs)
mutual
inductive MS where
  | asg (t : MA) (e : ME) | par (ts : MAs) (es : MEs) | expr (e : ME) | ret (e : ME) | retN
  | ifs (c : ME) (a b : MSs) | for_ (t : MT) (it : MI) (body : MSs) | while_ (c : ME) (body : MSs)
  | brk | cont | pass | never
inductive MSs where
  | nil | cons (s : MS) (r : MSs)
end
inductive Out where
  | next | brk | cont | ret (v : EV)

structure Cl where
  call : Str → Option Str → List EV → Hm → Option (EV × Hm)
  scr : List Int
  base : Nat

abbrev R1 := Option (EV × Hm)

def most : Nat := 16777216

/-! ### values -/
/-- what a value is to be read as -/
def rd (c : Cl) (v : EV) (h : Hm) : Option D := match v with
  | .d x => some x
  | .ref k => (match h[k]? with
    | some (.lst xs) => some (.list xs)
    | some (.ice xs) => some (.list xs)
    | _ => none)
  | .scr => some (.list (c.scr.map PyData.int))
/-- .. the script left out -/
def rdn (c : Cl) (v : EV) (h : Hm) : Option D := match v with
  | .scr => none
  | _ => rd c v h
/-- a value as data for good: a list is written no more -/
def toD (v : EV) (h : Hm) : Option (D × Hm) := match v with
  | .d x => some (x, h)
  | .ref k => (match h[k]? with
    | some (.lst xs) => some (.list xs, h.set k (.ice xs))
    | some (.ice xs) => some (.list xs, h)
    | _ => none)
  | _ => none
/-- a new list: mutable or not -/
def mkL (m : Bool) (ds : List D) (h : Hm) : EV × Hm := match m with
  | true => (.ref h.length, h ++ [.lst ds])
  | false => (.d (.list ds), h)
abbrev pu (v : D) (h : Hm) : R1 := some (.d v, h)

def tru (c : Cl) (v : EV) (h : Hm) : Option Bool := match rd c v h with
  | some .none => some false
  | some (.bool b) => some b
  | some (.int i) => some (i != 0)
  | some (.str s) => if s.length ≤ most then some ((s.length : Int) != 0) else none
  | some (.list xs) => some (!xs.isEmpty)
  | some (.tuple xs) => some (!xs.isEmpty)
  | _ => none

def seqD : D → Option (List D)
  | .list xs => some xs
  | .tuple xs => some xs
  | _ => none
def intsD : List D → Option (List Int)
  | [] => some []
  | .int i :: r => (intsD r).map (i :: ·)
  | _ :: _ => none
def boolsD : List D → Option (List Bool)
  | [] => some []
  | .bool i :: r => (boolsD r).map (i :: ·)
  | _ :: _ => none

/-- insertion into an ascending row without duplicates -/
def insI (k : Int) : List Int → List Int
  | [] => [k]
  | x :: r => if k < x then k :: x :: r else if k = x then x :: r else x :: insI k r
def sortI : List Int → List Int
  | [] => []
  | x :: r => insI x (sortI r)

/-- .. with duplicates -/
def insJ (k : Int) : List Int → List Int
  | [] => [k]
  | x :: r => if k ≤ x then k :: x :: r else x :: insJ k r
def isortI : List Int → List Int
  | [] => []
  | x :: r => insJ x (isortI r)
def intsD' : D → Option (List Int)
  | .list xs => intsD xs
  | _ => none

def typD : D → String
  | .none => "NoneType"
  | .bool _ => "bool"
  | .int _ => "int"
  | .str _ => "str"
  | .list _ => "list"
  | .tuple _ => "tuple"
  | .dict _ => "dict"
/-- isinstance of data with a built-in class -/
def isi1 (t c : String) : Bool := t == c || (t == "bool" && c == "int")
def okTy (c : String) : Bool := ["int", "bool", "str", "list", "tuple"].contains c

def unOp (c : Cl) (o : UOp) (v : EV) (h : Hm) : R1 := match o with
  | .neg => (match v with | .d (.int i) => pu (.int (-i)) h | _ => none)
  | .len => (match rd c v h with
    | some (.list xs) => pu (.int xs.length) h
    | some (.tuple xs) => pu (.int xs.length) h
    | some (.str s) => if s.length ≤ most then pu (.int s.length) h else none
    | _ => none)
  | .abs => (match v with | .d (.int i) => pu (.int (if i < 0 then -i else i)) h | _ => none)
  | .int => (match v with | .d (.int i) => pu (.int i) h | .d (.bool b) => pu (.int (if b then 1 else 0)) h | _ => none)
  | .tuple => (match rd c v h with | some (.list xs) => pu (.tuple xs) h | some (.tuple xs) => pu (.tuple xs) h | _ => none)
  | .list m => (match (rd c v h).bind seqD with | some xs => some (mkL m xs h) | _ => none)
  | .sset => (match ((rdn c v h).bind seqD).bind intsD with
    | some ns => if ns.length < 64 then pu (.list ((sortI ns).map PyData.int)) h else none
    | _ => none)
  | .sorted => (match (rd c v h).bind intsD' with
    | some ns => if ns.length < 64 then pu (.list ((isortI ns).map PyData.int)) h else none
    | _ => none)
  | .all => (match rd c v h with
    | some (.list xs) => (match boolsD xs with | some bs => pu (.bool (bs.all id)) h | none => none)
    | _ => none)
  | .any => (match rd c v h with
    | some (.list xs) => (match boolsD xs with | some bs => pu (.bool (bs.any id)) h | none => none)
    | _ => none)
  | .sum => (match rd c v h with
    | some (.list xs) => (match intsD xs with | some ns => pu (.int ns.sum) h | none => none)
    | _ => none)
  | .isi ts => if ts.all okTy then (match rd c v h with
    | some x => pu (.bool (ts.any (isi1 (typD x)))) h
    | none => none) else none
  | .fld f => (match v with
    | .ref k => (match h[k]? with
      | some (.ins _ fs) => (match fs.lookup f with | some x => pu x h | none => none)
      | _ => none)
    | _ => none)

def ixN (n : Nat) (i : Int) : Option Nat := if 0 ≤ i then (if i < n then some i.toNat else none) else if -(n : Int) ≤ i then some (i + n).toNat else none
def atI {α : Type} (xs : List α) (i : Int) : Option α := (ixN xs.length i).bind fun j => xs[j]?

/-- the last pair with this key -/
def pairAt (k : Int) : List D → Option (Option D)
  | [] => some none
  | .tuple [.int j, v] :: r => (match pairAt k r with
    | none => none
    | some (some w) => some (some w)
    | some none => some (if j = k then some v else none))
  | _ :: _ => none

def eqD (a b : D) : Option Bool := if a.depth ≤ 64 then some (PyData.eqv a b) else none
def depthOk (xs : List D) : Bool := decide (PyData.depthAll xs ≤ 64)

def binOp (c : Cl) (o : BOp) (v w : EV) (h : Hm) : R1 := match o with
  | .add m => (match rd c v h, rd c w h with
    | some (.int i), some (.int j) => pu (.int (i + j)) h
    | some (.str i), some (.str j) => if i.length + j.length ≤ most then pu (.str (i ++ j)) h else none
    | some (.list xs), some (.list ys) => (match v, w with
      | .scr, _ => none
      | _, .scr => none
      | _, _ => if xs.length + ys.length ≤ most then some (mkL m (xs ++ ys) h) else none)
    | some (.tuple xs), some (.tuple ys) => if xs.length + ys.length ≤ most then pu (.tuple (xs ++ ys)) h else none
    | _, _ => none)
  | .sub => (match v, w with | .d (.int i), .d (.int j) => pu (.int (i - j)) h | _, _ => none)
  | .mul => (match v, w with
    | .d (.int i), .d (.int j) => if (-(2 ^ 64) < i ∧ i < 2 ^ 64) ∨ (-(2 ^ 64) < j ∧ j < 2 ^ 64) then pu (.int (i * j)) h else none
    | _, _ => none)
  | .fdiv => (match v, w with | .d (.int i), .d (.int j) => if 0 < j ∧ j < 1073741824 then pu (.int (i / j)) h else none | _, _ => none)
  | .mod => (match v, w with | .d (.int i), .d (.int j) => if 0 < j then pu (.int (i % j)) h else none | _, _ => none)
  | .pow => (match v, w with
    | .d (.int i), .d (.int j) => if 0 ≤ j ∧ j ≤ 1000000 ∧ i.natAbs < 2 ^ 64 then pu (.int (i ^ j.toNat)) h else none
    | _, _ => none)
  | .eq => (match rd c v h, rd c w h with | some a, some b => (match eqD a b with | some k => pu (.bool k) h | none => none) | _, _ => none)
  | .ne => (match rd c v h, rd c w h with | some a, some b => (match eqD a b with | some k => pu (.bool (!k)) h | none => none) | _, _ => none)
  | .lt => (match v, w with | .d (.int i), .d (.int j) => pu (.bool (decide (i < j))) h | _, _ => none)
  | .le => (match v, w with | .d (.int i), .d (.int j) => pu (.bool (decide (i ≤ j))) h | _, _ => none)
  | .gt => (match v, w with | .d (.int i), .d (.int j) => pu (.bool (decide (j < i))) h | _, _ => none)
  | .ge => (match v, w with | .d (.int i), .d (.int j) => pu (.bool (decide (j ≤ i))) h | _, _ => none)
  | .isin => (match rd c v h, (rd c w h).bind seqD with
    | some a, some xs => if depthOk xs then pu (.bool (xs.any fun y => PyData.eqv y a)) h else none
    | _, _ => none)
  | .notin => (match rd c v h, (rd c w h).bind seqD with
    | some a, some xs => if depthOk xs then pu (.bool (!xs.any fun y => PyData.eqv y a)) h else none
    | _, _ => none)
  | .isn => (match w with
    | .d .none => (match v with | .d .none => pu (.bool true) h | _ => pu (.bool false) h)
    | _ => none)
  | .isnn => (match w with
    | .d .none => (match v with | .d .none => pu (.bool false) h | _ => pu (.bool true) h)
    | _ => none)
  | .ix => (match (rd c v h).bind seqD, w with
    | some xs, .d (.int i) => (match atI xs i with | some x => pu x h | none => none)
    | _, _ => none)
  | .dget => (match (rd c v h).bind seqD, w with
    | some xs, .d (.int i) => (match pairAt i xs with | some (some x) => if xs.length ≤ most then pu x h else none | _ => none)
    | _, _ => none)
  | .max => (match v, w with | .d (.int i), .d (.int j) => pu (.int (if j > i then j else i)) h | _, _ => none)
  | .min => (match v, w with | .d (.int i), .d (.int j) => pu (.int (if j < i then j else i)) h | _, _ => none)
  | .apnd => (match v with
    | .ref k => (match toD w h with
      | some (x, h1) => (match h1[k]? with
        | some (.lst xs) => if xs.length < most then some (.d .none, h1.set k (.lst (xs ++ [x]))) else none
        | _ => none)
      | none => none)
    | _ => none)
  | .popat => (match v, w with
    | .ref k, .d (.int i) => (match h[k]? with
      | some (.lst xs) => (match ixN xs.length i with
        | some j => (match xs[j]? with
          | some x => if xs.length ≤ most then some (.d x, h.set k (.lst (xs.eraseIdx j))) else none
          | none => none)
        | none => none)
      | _ => none)
    | _, _ => none)
  | .index => none

def pairsOk : List D → Bool
  | [] => true
  | .tuple [.int _, _] :: r => pairsOk r
  | _ :: _ => false
/-- what the left operand must be ahead of the right one's evaluation -/
def pre (o : BOp) (v : EV) (h : Hm) : Bool := match o with
  | .apnd => isL v h
  | .popat => isL v h
  | .dget => (match v with
    | .d (.list xs) => pairsOk xs && decide (xs.length ≤ most)
    | .d (.tuple xs) => pairsOk xs && decide (xs.length ≤ most)
    | _ => false)
  | _ => true
where isL (v : EV) (h : Hm) : Bool := match v with
  | .ref k => (match h[k]? with
    | some (.lst _) => true
    | _ => false)
  | _ => false

/-- a slice's bound as a place among n -/
def sIx (n d : Nat) : Option Int → Nat
  | none => d
  | some v => if v < 0 then (v + (n : Int)).toNat else min v.toNat n
def cutD (xs : List D) (lo hi : Option Int) : List D := (xs.drop (sIx xs.length 0 lo)).take (sIx xs.length xs.length hi - sIx xs.length 0 lo)
def partD (e : ME) (v : EV) : Option (Option Int) := match v with
  | .d (.int i) => some (some i)
  | .d .none => (match e with
    | .con .none => some none
    | _ => none)
  | _ => none
def slOp (c : Cl) (m : Bool) (v : EV) (lo hi : Option Int) (h : Hm) : R1 := match rd c v h with
  | some (.list xs) => some (mkL m (cutD xs lo hi) h)
  | some (.tuple xs) => pu (.tuple (cutD xs lo hi)) h
  | _ => none

/-! ### targets -/
mutual
def sto : MT → EV → Ev → Option Ev
  | .nm i, v, env => some (env.set i (some v))
  | .tup ts, v, env => (match v with
    | .d (.tuple xs) => stos ts xs env
    | _ => none)
def stos : MTs → List D → Ev → Option Ev
  | .nil, [], env => some env
  | .cons t r, x :: xs, env => (sto t (.d x) env).bind fun e => stos r xs e
  | _, _, _ => none
end
def wipeE (env : Ev) : List Nat → Ev
  | [] => env
  | v :: vs => (wipeE env vs).set v none

/-- a comprehension's walk -/
def compL (step : D → List D → Hm → Option (List D × Hm)) : List D → List D → Hm → Option (List D × Hm)
  | [], acc, h => some (acc, h)
  | x :: xs, acc, h => (step x acc h).bind fun r => compL step xs r.1 r.2
/-- a for loop's walk -/
def forL (step : D → Ev → Hm → Option (Out × Ev × Hm)) : List D → Ev → Hm → Option (Out × Ev × Hm)
  | [], env, h => some (.next, env, h)
  | x :: xs, env, h => (step x env h).bind fun r => match r.1 with
    | .next => forL step xs r.2.1 r.2.2
    | .cont => forL step xs r.2.1 r.2.2
    | .brk => some (.next, r.2)
    | .ret v => some (.ret v, r.2)
def whileL (test : Ev → Hm → Option (Bool × Hm)) (body : Ev → Hm → Option (Out × Ev × Hm)) : Nat → Ev → Hm → Option (Out × Ev × Hm)
  | 0, _, _ => none
  | n + 1, env, h => (test env h).bind fun t => match t.1 with
    | false => some (.next, env, t.2)
    | true => (body env t.2).bind fun r => match r.1 with
      | .next => whileL test body n r.2.1 r.2.2
      | .cont => whileL test body n r.2.1 r.2.2
      | .brk => some (.next, r.2)
      | .ret v => some (.ret v, r.2)

def rngD (lo : Int) (n : Nat) : List D := (List.range n).map fun i => PyData.int (lo + (i : Nat))
def enumD (xs : List D) : List D := (List.range xs.length).zipWith (fun i x => PyData.tuple [.int (i : Nat), x]) xs
def zipD (xs ys : List D) : List D := xs.zipWith (fun x y => PyData.tuple [x, y]) ys

/-- a walked sequence, kept as it is -/
def frz (v : EV) (h : Hm) : Option (List D × Hm) := (toD v h).bind fun r => (seqD r.1).map fun xs => (xs, r.2)

/-! ### the evaluator -/
mutual
def evE (c : Cl) : ME → Ev → Hm → R1
  | .var i, env, h => (match env[i]? with | some (some v) => some (v, h) | _ => none)
  | .con v, _, h => pu v h
  | .gl _ v, _, h => pu v h
  | .un o a, env, h => (evE c a env h).bind fun r => unOp c o r.1 r.2
  | .bin o a b, env, h => (evE c a env h).bind fun r => if pre o r.1 r.2 = true then (evE c b env r.2).bind fun s => binOp c o r.1 s.1 s.2 else none
  | .chain o1 o2 a b d, env, h => (evE c a env h).bind fun r => (evE c b env r.2).bind fun s => (binOp c o1 r.1 s.1 s.2).bind fun t => match t.1 with
    | .d (.bool true) => (evE c d env t.2).bind fun u => binOp c o2 s.1 u.1 u.2
    | .d (.bool false) => pu (.bool false) t.2
    | _ => none
  | .and a b, env, h => (evE c a env h).bind fun r => (tru c r.1 r.2).bind fun k => match k with
    | true => evE c b env r.2
    | false => some r
  | .or a b, env, h => (evE c a env h).bind fun r => (tru c r.1 r.2).bind fun k => match k with
    | true => some r
    | false => evE c b env r.2
  | .not a, env, h => (evE c a env h).bind fun r => (tru c r.1 r.2).bind fun k => pu (.bool (!k)) r.2
  | .ite t a b, env, h => (evE c t env h).bind fun r => (tru c r.1 r.2).bind fun k => match k with
    | true => evE c a env r.2
    | false => evE c b env r.2
  | .tup es, env, h => (evDs c es env h).bind fun r => if r.1.length ≤ most then pu (.tuple r.1) r.2 else none
  | .lst m es, env, h => (evDs c es env h).bind fun r => if r.1.length ≤ most then some (mkL m r.1 r.2) else none
  | .sl m a lo hi, env, h => (evE c a env h).bind fun r => (evE c lo env r.2).bind fun s => (partD lo s.1).bind fun l => (evE c hi env s.2).bind fun t => (partD hi t.1).bind fun u => slOp c m r.1 l u t.2
  | .call f es, env, h => (evVs c es env h).bind fun r => c.call f none r.1 r.2
  | .meth i k m es, env, h => (match env[i]? with
    | some (some (.ref j)) => (match h[j]? with
      | some (.ins k' _) => if k' = k then (evVs c es env h).bind fun r => c.call k (some m) (.ref j :: r.1) r.2 else none
      | _ => none)
    | _ => none)
  | .lenm i k, env, h => (match env[i]? with
    | some (some (.ref j)) => (match h[j]? with
      | some (.ins k' _) => if k' = k then (c.call k (some "__len__") [.ref j] h).bind fun r => match r.1 with
          | .d (.int n) => if 0 ≤ n ∧ n < 2 ^ 63 then some (.d (.int n), r.2) else none
          | _ => none
        else none
      | _ => none)
    | _ => none)
  | .make k es, env, h => (evVs c es env h).bind fun r => (c.call k (some "__init__") (.ref r.2.length :: r.1) (r.2 ++ [.ins k []])).bind fun s => match s.1 with
    | .d .none => some (.ref r.2.length, s.2)
    | _ => none
  | .zip a b, env, h => (evE c a env h).bind fun r => (evE c b env r.2).bind fun s => (frz r.1 s.2).bind fun x => (frz s.1 x.2).bind fun y => some (.ref y.2.length, y.2 ++ [.zp x.1 y.1, .aux, .aux, .aux, .aux])
  | .tupEn e, env, h => (evE c e env h).bind fun r => (toD r.1 r.2).bind fun x => match x.1 with
    | .list xs => pu (.tuple (enumD xs)) x.2
    | _ => none
  | .lstRg m e, env, h => (evE c e env h).bind fun r => match r.1 with
    | .d (.int n) => if n ≤ most ∧ -(2 ^ 62) ≤ n then some (mkL m (rngD 0 n.toNat) r.2) else none
    | _ => none
  | .nev, _, _ => none
  | .lc m elt t it cond own, env, h => (evI c it env h).bind fun r =>
    (compL (fun x acc h1 => (sto t (.d x) (wipeE env own)).bind fun env1 => (evE c cond env1 h1).bind fun k => (tru c k.1 k.2).bind fun b => match b with
      | true => (evE c elt env1 k.2).bind fun y => (toD y.1 y.2).bind fun z => some (acc ++ [z.1], z.2)
      | false => some (acc, k.2)) r.1 [] r.2).bind fun s => if s.1.length ≤ most then some (mkL m s.1 s.2) else none
  | .lc2 m elt t it cond t2 it2 cond2 own own2, env, h => (evI c it env h).bind fun r =>
    (compL (fun x acc h1 => (sto t (.d x) (wipeE env own)).bind fun env1 => (evE c cond env1 h1).bind fun k => (tru c k.1 k.2).bind fun b => match b with
      | true => (evI c it2 env1 k.2).bind fun r2 =>
        compL (fun x2 acc2 h2 => (sto t2 (.d x2) (wipeE env1 own2)).bind fun env2 => (evE c cond2 env2 h2).bind fun k2 => (tru c k2.1 k2.2).bind fun b2 => match b2 with
          | true => (evE c elt env2 k2.2).bind fun y => (toD y.1 y.2).bind fun z => some (acc2 ++ [z.1], z.2)
          | false => some (acc2, k2.2)) r2.1 acc r2.2
      | false => some (acc, k.2)) r.1 [] r.2).bind fun s => if s.1.length ≤ most then some (mkL m s.1 s.2) else none
/-- items as data -/
def evDs (c : Cl) : MEs → Ev → Hm → Option (List D × Hm)
  | .nil, _, h => some ([], h)
  | .cons e r, env, h => (evE c e env h).bind fun x => (toD x.1 x.2).bind fun y => (evDs c r env y.2).bind fun z => some (y.1 :: z.1, z.2)
  | .star e r, env, h => (evE c e env h).bind fun x => (frz x.1 x.2).bind fun y => (evDs c r env y.2).bind fun z => some (y.1 ++ z.1, z.2)
/-- arguments -/
def evVs (c : Cl) : MEs → Ev → Hm → Option (List EV × Hm)
  | .nil, _, h => some ([], h)
  | .cons e r, env, h => (evE c e env h).bind fun x => (evVs c r env x.2).bind fun z => some (x.1 :: z.1, z.2)
  | .star _ _, _, _ => none
/-- the items of what is walked -/
def evI (c : Cl) : MI → Ev → Hm → Option (List D × Hm)
  | .seq e, env, h => (evE c e env h).bind fun r => frz r.1 r.2
  | .rng e, env, h => (evE c e env h).bind fun r => match r.1 with
    | .d (.int n) => if n ≤ most ∧ -(2 ^ 62) ≤ n then some (rngD 0 n.toNat, r.2) else none
    | _ => none
  | .rng2 a b, env, h => (evE c a env h).bind fun r => (evE c b env r.2).bind fun s => match r.1, s.1 with
    | .d (.int i), .d (.int j) => if -(2 ^ 60) ≤ i ∧ i ≤ 2 ^ 60 ∧ -(2 ^ 60) ≤ j ∧ j ≤ 2 ^ 60 ∧ j - i ≤ most then some (rngD i (j - i).toNat, s.2) else none
    | _, _ => none
  | .enum e, env, h => (evE c e env h).bind fun r => (frz r.1 r.2).bind fun x => some (enumD x.1, x.2)
  | .zip a b, env, h => (evE c a env h).bind fun r => (evE c b env r.2).bind fun s => (frz r.1 s.2).bind fun x => (frz s.1 x.2).bind fun y => some (zipD x.1 y.1, y.2)
  | .var i, env, h => (match env[i]? with
    | some (some (.ref k)) => (match h[k]? with
      | some (.zp xs ys) => if c.base ≤ k then some (zipD xs ys, ((((h.set k .gone).set (k + 1) .gone).set (k + 2) .gone).set (k + 3) .gone).set (k + 4) .gone) else none
      | _ => none)
    | _ => none)
end

/-- a store to a target -/
def stA (c : Cl) (t : MA) (v : EV) (env : Ev) (h : Hm) : Option (Ev × Hm) := match t with
  | .pt t => (sto t v env).map fun e => (e, h)
  | .fld i c f => (match env[i]? with
    | some (some (.ref k)) => (toD v h).bind fun r => (match r.2[k]? with
      | some (.ins n fs) => if n = c ∧ fs.length < 900 then some (env, r.2.set k (.ins n (putF f r.1 fs))) else none
      | _ => none)
    | _ => none)
  | .sub o ix => (evE c o env h).bind fun r => (evE c ix env r.2).bind fun s => (match r.1, s.1 with
    | .ref k, .d (.int i) => (toD v s.2).bind fun x => (match x.2[k]? with
      | some (.lst xs) => (match ixN xs.length i with
        | some j => some (env, x.2.set k (.lst (xs.set j x.1)))
        | none => none)
      | _ => none)
    | _, _ => none)
where putF (f : Str) (v : D) : List (Str × D) → List (Str × D)
  | [] => [(f, v)]
  | (g, x) :: r => if g = f then (g, v) :: r else (g, x) :: putF f v r
def stAs (c : Cl) : MAs → List EV → Ev → Hm → Option (Ev × Hm)
  | .nil, [], env, h => some (env, h)
  | .cons t r, v :: vs, env, h => (stA c t v env h).bind fun x => stAs c r vs x.1 x.2
  | _, _, _, _ => none

def fuelW : Nat := 1000000

mutual
def evS (c : Cl) : MS → Ev → Hm → Option (Out × Ev × Hm)
  | .asg t e, env, h => (evE c e env h).bind fun r => (stA c t r.1 env r.2).bind fun s => some (.next, s)
  | .par ts es, env, h => (evVs c es env h).bind fun r => (stAs c ts r.1 env r.2).bind fun s => some (.next, s)
  | .expr e, env, h => (evE c e env h).bind fun r => some (.next, env, r.2)
  | .ret e, env, h => (evE c e env h).bind fun r => some (.ret r.1, env, r.2)
  | .retN, env, h => some (.ret (.d .none), env, h)
  | .ifs t a b, env, h => (evE c t env h).bind fun r => (tru c r.1 r.2).bind fun k => match k with
    | true => evSs c a env r.2
    | false => evSs c b env r.2
  | .for_ t it body, env, h => (evI c it env h).bind fun r =>
    forL (fun x env1 h1 => (sto t (.d x) env1).bind fun env2 => evSs c body env2 h1) r.1 env r.2
  | .while_ t body, env, h => whileL (fun env1 h1 => (evE c t env1 h1).bind fun r => (tru c r.1 r.2).map fun k => (k, r.2)) (fun env1 h1 => evSs c body env1 h1) fuelW env h
  | .brk, env, h => some (.brk, env, h)
  | .cont, env, h => some (.cont, env, h)
  | .pass, env, h => some (.next, env, h)
  | .never, _, _ => none
def evSs (c : Cl) : MSs → Ev → Hm → Option (Out × Ev × Hm)
  | .nil, env, h => some (.next, env, h)
  | .cons s r, env, h => (evS c s env h).bind fun x => match x.1 with
    | .next => evSs c r x.2.1 x.2.2
    | .brk => some (.brk, x.2)
    | .cont => some (.cont, x.2)
    | .ret v => some (.ret v, x.2)
end

/-! ### defs -/
/-- what a def hands back: its own things are gone, but the one that it hands back -/
def fin (fresh : Bool) (n : Nat) (v : EV) (h : Hm) : R1 := match v with
  | .ref k => if k < n then some (.ref k, h.take n) else (match h[k]? with
    | some (.lst xs) => (match fresh with
      | true => some (.ref n, h.take n ++ [.lst xs])
      | false => some (.d (.list xs), h.take n))
    | some (.ice xs) => some (.d (.list xs), h.take n)
    | some (.ins c fs) => some (.ref n, h.take n ++ [.ins c fs])
    | _ => none)
  | .d x => some (.d x, h.take n)
  | _ => none
/-- a def: its class, its name, its parameters, its slots (parameters first), whether a list that it hands back may be written -/
structure Df where
  cls : Option Str
  name : Str
  ps : List Str
  N : List Str
  fresh : Bool
  body : MSs

def start (N : List Str) (vs : List EV) : Ev := vs.map some ++ List.replicate (N.length - vs.length) none
def find (T : List Df) (f : Str) (m : Option Str) : Option Df := match m with
  | none => T.find? fun d => d.cls == none && d.name == f
  | some m => T.find? fun d => d.cls == some f && d.name == m
def callN (T : List Df) (scr : List Int) : Nat → Str → Option Str → List EV → Hm → R1
  | 0, _, _, _, _ => none
  | n + 1, f, m, vs, h => match find T f m with
    | none => none
    | some d => if vs.length = d.ps.length then
        (evSs ⟨callN T scr n, scr, h.length⟩ d.body (start d.N vs) h).bind fun r => match r.1 with
          | .ret v => fin d.fresh h.length v r.2.2
          | .next => fin d.fresh h.length (.d .none) r.2.2
          | _ => none
      else none
end Mp
set_option Elab.async false
set_option linter.all false
set_option maxRecDepth 100000
/-! Mp, part B: how data lies in the abstract heap. -/
namespace Mp
open PySem PySem.Spec PyProof.Rows L2

/-- a plain tuple's object -/
def PlT (o : Obj) : Prop := o.cls = .type "tuple" ∧ o.dict = none
/-! ### data at a value: N tells the addresses that data may not name (what may still be written) -/
mutual
def Rep (N : Addr → Prop) (H : Hp) : D → V → Prop
  | .none, v => v = .non
  | .bool b, v => v = .bl b
  | .int i, v => v = .int i
  | .str s, v => v = .str s
  | .tuple ds, v => ∃ a o xs, v = .ref a ∧ H a = some (.frz o (.tup xs)) ∧ PlT o ∧ ¬ N a ∧ Reps N H ds xs
  | .list ds, v => ∃ a xs, v = .ref a ∧ H a = some (.lst xs) ∧ ¬ N a ∧ Reps N H ds xs
  | .dict _, _ => False
def Reps (N : Addr → Prop) (H : Hp) : List D → List V → Prop
  | [], [] => True
  | d :: ds, v :: vs => Rep N H d v ∧ Reps N H ds vs
  | _, _ => False
end
/-- what stands under N stays under N' -/
def Keeps (N N' : Addr → Prop) (H H' : Hp) : Prop := ∀ a o, H a = some o → ¬ N a → H' a = some o ∧ ¬ N' a
mutual
theorem Rep.keep {N N' : Addr → Prop} {H H' : Hp} (k : Keeps N N' H H') : ∀ (d : D) (v : V), Rep N H d v → Rep N' H' d v
  | .none, v, h => h
  | .bool b, v, h => h
  | .int i, v, h => h
  | .str s, v, h => h
  | .tuple ds, v, h => by
    obtain ⟨a, o, xs, e, e2, pl, n, r⟩ := h
    obtain ⟨k1, k2⟩ := k a _ e2 n
    exact ⟨a, o, xs, e, k1, pl, k2, Reps.keep k ds xs r⟩
  | .list ds, v, h => by
    obtain ⟨a, xs, e, e2, n, r⟩ := h
    obtain ⟨k1, k2⟩ := k a _ e2 n
    exact ⟨a, xs, e, k1, k2, Reps.keep k ds xs r⟩
  | .dict _, v, h => h.elim
theorem Reps.keep {N N' : Addr → Prop} {H H' : Hp} (k : Keeps N N' H H') : ∀ (ds : List D) (vs : List V), Reps N H ds vs → Reps N' H' ds vs
  | [], [], _ => trivial
  | d :: ds, v :: vs, h => ⟨Rep.keep k d v h.1, Reps.keep k ds vs h.2⟩
  | [], _ :: _, h => h.elim
  | _ :: _, [], h => h.elim
end
section
variable {N : Addr → Prop} {H : Hp}
theorem Reps.length : ∀ {ds : List D} {vs : List V}, Reps N H ds vs → ds.length = vs.length
  | [], [], _ => rfl
  | _ :: ds, _ :: vs, h => congrArg (· + 1) (Reps.length h.2)
  | [], _ :: _, h => h.elim
  | _ :: _, [], h => h.elim
theorem Reps.append : ∀ {ds es : List D} {vs ws : List V}, Reps N H ds vs → Reps N H es ws → Reps N H (ds ++ es) (vs ++ ws)
  | [], _, [], _, _, h => h
  | _ :: ds, _, _ :: vs, _, h, g => ⟨h.1, Reps.append h.2 g⟩
  | [], _, _ :: _, _, h, _ => h.elim
  | _ :: _, _, [], _, h, _ => h.elim
theorem Reps.get : ∀ {ds : List D} {vs : List V} {i : Nat} {d : D}, Reps N H ds vs → ds[i]? = some d → ∃ v, vs[i]? = some v ∧ Rep N H d v
  | _ :: _, _ :: _, 0, _, h, e => by
    simp only [List.getElem?_cons_zero, Option.some.injEq] at e
    subst e
    exact ⟨_, rfl, h.1⟩
  | _ :: ds, _ :: vs, i + 1, d, h, e => by
    simp only [List.getElem?_cons_succ] at e ⊢
    exact Reps.get h.2 e
  | [], [], i, _, _, e => by simp at e
  | [], _ :: _, _, _, h, _ => h.elim
  | _ :: _, [], _, _, h, _ => h.elim
theorem Reps.get' {ds : List D} {vs : List V} {i : Nat} {v : V} (h : Reps N H ds vs) (e : vs[i]? = some v) : ∃ d, ds[i]? = some d ∧ Rep N H d v := by
  have hi : i < ds.length := by
    rw [h.length]
    exact (List.getElem?_eq_some_iff.mp e).1
  obtain ⟨w, hw, r⟩ := h.get (List.getElem?_eq_getElem hi)
  rw [e] at hw
  cases hw
  exact ⟨_, List.getElem?_eq_getElem hi, r⟩
theorem Reps.drop : ∀ (n : Nat) {ds : List D} {vs : List V}, Reps N H ds vs → Reps N H (ds.drop n) (vs.drop n)
  | 0, _, _, h => h
  | _ + 1, [], [], h => h
  | n + 1, _ :: ds, _ :: vs, h => Reps.drop n h.2
  | _ + 1, [], _ :: _, h => h.elim
  | _ + 1, _ :: _, [], h => h.elim
theorem Reps.take : ∀ (n : Nat) {ds : List D} {vs : List V}, Reps N H ds vs → Reps N H (ds.take n) (vs.take n)
  | 0, _, _, _ => trivial
  | _ + 1, [], [], h => h
  | n + 1, _ :: ds, _ :: vs, h => ⟨h.1, Reps.take n h.2⟩
  | _ + 1, [], _ :: _, h => h.elim
  | _ + 1, _ :: _, [], h => h.elim
theorem Reps.set {d : D} {v : V} (r : Rep N H d v) : ∀ (n : Nat) {ds : List D} {vs : List V}, Reps N H ds vs → Reps N H (ds.set n d) (vs.set n v)
  | _, [], [], h => h
  | 0, _ :: ds, _ :: vs, h => ⟨r, h.2⟩
  | n + 1, _ :: ds, _ :: vs, h => ⟨h.1, Reps.set r n h.2⟩
  | _, [], _ :: _, h => h.elim
  | _, _ :: _, [], h => h.elim
theorem Reps.eraseIdx : ∀ (n : Nat) {ds : List D} {vs : List V}, Reps N H ds vs → Reps N H (ds.eraseIdx n) (vs.eraseIdx n)
  | _, [], [], h => h
  | 0, _ :: ds, _ :: vs, h => h.2
  | n + 1, _ :: ds, _ :: vs, h => ⟨h.1, Reps.eraseIdx n h.2⟩
  | _, [], _ :: _, h => h.elim
  | _, _ :: _, [], h => h.elim
theorem Reps.ints : ∀ {ds : List D} {vs : List V} {ns : List Int}, Reps N H ds vs → intsD ds = some ns → vs = ns.map V.int
  | [], [], ns, _, e => by
    cases e
    rfl
  | .int i :: ds, v :: vs, ns, h, e => by
    simp only [intsD] at e
    cases q : intsD ds with
    | none => rw [q] at e; cases e
    | some ms =>
      rw [q] at e
      cases e
      have e1 : v = .int i := h.1
      rw [e1, Reps.ints h.2 q]
      rfl
  | .none :: _, _, _, _, e => by cases e
  | .bool _ :: _, _, _, _, e => by cases e
  | .str _ :: _, _, _, _, e => by cases e
  | .list _ :: _, _, _, _, e => by cases e
  | .tuple _ :: _, _, _, _, e => by cases e
  | .dict _ :: _, _, _, _, e => by cases e
  | [], _ :: _, _, h, _ => h.elim
  | .int _ :: _, [], _, h, _ => h.elim
theorem Reps.bools : ∀ {ds : List D} {vs : List V} {ns : List Bool}, Reps N H ds vs → boolsD ds = some ns → vs = ns.map V.bl
  | [], [], ns, _, e => by
    cases e
    rfl
  | .bool i :: ds, v :: vs, ns, h, e => by
    simp only [boolsD] at e
    cases q : boolsD ds with
    | none => rw [q] at e; cases e
    | some ms =>
      rw [q] at e
      cases e
      have e1 : v = .bl i := h.1
      rw [e1, Reps.bools h.2 q]
      rfl
  | .none :: _, _, _, _, e => by cases e
  | .int _ :: _, _, _, _, e => by cases e
  | .str _ :: _, _, _, _, e => by cases e
  | .list _ :: _, _, _, _, e => by cases e
  | .tuple _ :: _, _, _, _, e => by cases e
  | .dict _ :: _, _, _, _, e => by cases e
  | [], _ :: _, _, h, _ => h.elim
  | .bool _ :: _, [], _, h, _ => h.elim
theorem reps_ints : ∀ (ns : List Int), Reps N H (ns.map PyData.int) (ns.map V.int)
  | [] => trivial
  | _ :: ns => ⟨rfl, reps_ints ns⟩
end

/-! ### the small heap -/
def isM : MO → Bool
  | .ice _ => false
  | .gone => false
  | _ => true
/-- what may be written -/
def Mx (m : List Addr) (h : Hm) (a : Addr) : Prop := ∃ (k : Nat) (o : MO), m[k]? = some a ∧ h[k]? = some o ∧ isM o = true
/-- what data may not name -/
def Fb (G : Addr → Prop) (m : List Addr) (h : Hm) (a : Addr) : Prop := Mx m h a ∨ G a

/-- what is still there -/
def Live (m : List Addr) (h : Hm) (a : Addr) : Prop := ∃ (k : Nat) (o : MO), m[k]? = some a ∧ h[k]? = some o ∧ o ≠ .gone
def insOk (K : PySem.W.Frag) (N : Addr → Prop) (H : Hp) (a : Addr) (c : Str) (fs : List (Str × D)) : Prop :=
  ∃ (dx : Addr) (vs : List (Str × V)), H a = some (.ins (He.ga K c) dx vs) ∧ vs.map (·.1) = fs.map (·.1) ∧ Cls K (He.ga K c) ∧ (∀ p ∈ fs, NoAttr K (He.ga K c) p.1) ∧ Reps N H (fs.map (·.2)) (vs.map (·.2))
def MOk (K : PySem.W.Frag) (N : Addr → Prop) (H : Hp) (a : Addr) : MO → Prop
  | .lst ds => ∃ xs, H a = some (.lst xs) ∧ Reps N H ds xs
  | .ice ds => ∃ xs, H a = some (.lst xs) ∧ Reps N H ds xs
  | .ins c fs => insOk K N H a c fs
  | .zp _ _ => True
  | .aux => True
  | .gone => True
/-- a list (true) or a tuple (false) at a -/
def SqAt (k : Bool) (H : Hp) (a : Addr) (xs : List V) : Prop := match k with
  | true => H a = some (.lst xs)
  | false => ∃ o, H a = some (.frz o (.tup xs)) ∧ PlT o
def ItS (k : Bool) (h : Heap) (it a : Addr) (i : Nat) : Prop := match k with
  | true => h.IsListIter it a i
  | false => h.IsTupleIter it a i
/-- a sequence that data may name -/
structure Seq (N : Addr → Prop) (H : Hp) (k : Bool) (a : Addr) (xs : List V) (ds : List D) : Prop where
  at_ : SqAt k H a xs
  no : ¬ N a
  rs : Reps N H ds xs
/-- the five things of a zip that was not walked yet -/
structure ZpOk (N : Addr → Prop) (n0 : Nat) (H : Hp) (z TI TO i1 i2 : Addr) (xs ys : List D) : Prop where
  hz : H z = some (.ext fun h => IsZip h z TI TO .none)
  hTI : H TI = some (.ext fun h => IsTupOf2 h TI (.ref i1) (.ref i2))
  hTO : H TO = some (.ext fun h => IsTupOf2 h TO .none .none)
  sq : ∃ (k1 k2 : Bool) (a b : Addr) (vs ws : List V), H i1 = some (.ext fun h => ItS k1 h i1 a 0) ∧ H i2 = some (.ext fun h => ItS k2 h i2 b 0) ∧ Seq N H k1 a vs xs ∧ Seq N H k2 b ws ys
  young : ∀ b ∈ [z, TI, TO, i1, i2], n0 ≤ b
structure Rl (K : PySem.W.Frag) (G : Addr → Prop) (nf : Nat → Nat) (m : List Addr) (h : Hm) (H : Hp) : Prop where
  len : m.length = h.length
  nd : ∀ (i j : Nat) (a : Addr) (o u : MO), m[i]? = some a → m[j]? = some a → h[i]? = some o → h[j]? = some u → o ≠ .gone → u ≠ .gone → i = j
  ob : ∀ (k : Nat) (a : Addr) (o : MO), m[k]? = some a → h[k]? = some o → MOk K (Fb G m h) H a o
  th : ∀ a, Live m h a → ∃ o, H a = some o
  zp : ∀ (k : Nat) (xs ys : List D), h[k]? = some (.zp xs ys) → (∀ j, k < j → j ≤ k + 4 → h[j]? = some .aux) ∧ ∃ z TI TO i1 i2, m[k]? = some z ∧ m[k + 1]? = some TI ∧ m[k + 2]? = some TO ∧ m[k + 3]? = some i1 ∧ m[k + 4]? = some i2 ∧ ZpOk (Fb G m h) (nf k) H z TI TO i1 i2 xs ys
  gd : ∀ a, G a → ∃ o, H a = some o
  gm : ∀ a, Live m h a → ¬ G a
  sm : ∀ a xs, (H a = some (.lst xs) ∨ ∃ o, H a = some (.frz o (.tup xs))) → xs.length ≤ sizeLine
/-- from one state to a later one, within one def -/
structure Stp (K : PySem.W.Frag) (G : Addr → Prop) (nf : Nat → Nat) (m : List Addr) (h : Hm) (H : Hp) (m' : List Addr) (h' : Hm) (H' : Hp) : Prop where
  pre : m <+: m'
  keep : ∀ a o, H a = some o → ¬ Mx m h a → H' a = some o
  new : ∀ a, Mx m' h' a → Mx m h a ∨ H a = none
  zpo : h.length ≤ h'.length ∧ ∀ (k : Nat) (xs ys : List D), h'[k]? = some (.zp xs ys) → k < h.length → h[k]? = some (.zp xs ys)
  rl : Rl K G nf m' h' H'
section
variable {K : PySem.W.Frag} {G : Addr → Prop} {nf : Nat → Nat} {m m' m2 : List Addr} {h h' h2 : Hm} {H H' H2 : Hp}
theorem Rl.at_ (r : Rl K G nf m h H) {k : Nat} {o : MO} (e : h[k]? = some o) : ∃ a, m[k]? = some a ∧ MOk K (Fb G m h) H a o := by
  have hk : k < m.length := by
    rw [r.len]
    exact (List.getElem?_eq_some_iff.mp e).1
  exact ⟨m[k], List.getElem?_eq_getElem hk, r.ob k _ o (List.getElem?_eq_getElem hk) e⟩
theorem Rl.mem (r : Rl K G nf m h H) {a : Addr} (e : Live m h a) : ∃ u, H a = some u := r.th a e
theorem Mx.mem {a : Addr} (x : Mx m h a) : Live m h a := by
  obtain ⟨k, o, e1, e2, e3⟩ := x
  exact ⟨k, o, e1, e2, fun z => by rw [z] at e3; cases e3⟩
theorem live_of {k : Nat} {a : Addr} {o : MO} (e1 : m[k]? = some a) (e2 : h[k]? = some o) (e3 : o ≠ .gone) : Live m h a := ⟨k, o, e1, e2, e3⟩
theorem Rl.inj (r : Rl K G nf m h H) {i j : Nat} {a : Addr} {o u : MO} (e1 : m[i]? = some a) (e2 : m[j]? = some a) (h1 : h[i]? = some o) (h2 : h[j]? = some u) (n1 : o ≠ .gone) (n2 : u ≠ .gone) : i = j := r.nd i j a o u e1 e2 h1 h2 n1 n2
theorem Stp.refl (r : Rl K G nf m h H) : Stp K G nf m h H m h H := ⟨List.prefix_refl _, fun _ _ e _ => e, fun _ e => .inl e, ⟨Nat.le_refl _, fun _ _ _ e _ => e⟩, r⟩
theorem Stp.trans (a : Stp K G nf m h H m' h' H') (b : Stp K G nf m' h' H' m2 h2 H2) : Stp K G nf m h H m2 h2 H2 where
  pre := a.pre.trans b.pre
  keep := fun x o e n => b.keep x o (a.keep x o e n) fun z => by
    rcases a.new x z with z | z
    · exact n z
    · rw [e] at z; cases z
  new := fun x z => by
    rcases b.new x z with z | z
    · exact a.new x z
    · cases q : H x with
      | none => exact .inr rfl
      | some o =>
        by_cases n : Mx m h x
        · exact .inl n
        · rw [a.keep x o q n] at z; cases z
  zpo := ⟨Nat.le_trans a.zpo.1 b.zpo.1, fun k xs ys e l => a.zpo.2 k xs ys (b.zpo.2 k xs ys e (Nat.lt_of_lt_of_le l a.zpo.1)) l⟩
  rl := b.rl
theorem Stp.keeps (a : Stp K G nf m h H m' h' H') : Keeps (Fb G m h) (Fb G m' h') H H' := fun x o e n =>
  ⟨a.keep x o e fun z => n (.inl z), fun z => by
    rcases z with z | z
    · rcases a.new x z with z | z
      · exact n (.inl z)
      · rw [e] at z; cases z
    · exact n (.inr z)⟩
theorem Stp.at_ (s : Stp K G nf m h H m' h' H') {k : Nat} {a : Addr} (e : m[k]? = some a) : m'[k]? = some a := by
  obtain ⟨t, q⟩ := s.pre
  have hk := (List.getElem?_eq_some_iff.mp e).1
  rw [← q, List.getElem?_append_left hk]
  exact e
theorem Stp.lenle (s : Stp K G nf m h H m' h' H') (r : Rl K G nf m h H) : h.length ≤ h'.length := by
  rw [← r.len, ← s.rl.len]
  exact s.pre.length_le
end


/-! ### the values of names -/
def ScrOk (K : PySem.W.Frag) (N : Addr → Prop) (H : Hp) (sc : List Int) (a : Addr) : Prop := sc.length ≤ sizeLine ∧
  ((∃ o, H a = some (.frz o (.lst (sc.map V.int))) ∧ ¬ N a) ∨
    ∃ (o : Obj) (its : Array Value) (n : Nat), K.lookup a = some o ∧ o.cls = .type "list" ∧ o.dict = none ∧ o.data = .seq its n ∧ its.size ≤ sizeLine ∧ Vals (sc.map V.int) its.toList)
theorem ScrOk.keep {K : PySem.W.Frag} {N N' : Addr → Prop} {H H' : Hp} {sc : List Int} {a : Addr} (k : Keeps N N' H H') (s : ScrOk K N H sc a) : ScrOk K N' H' sc a := by
  obtain ⟨z, ⟨o, e, n⟩ | s⟩ := s
  · exact ⟨z, .inl ⟨o, k a _ e n⟩⟩
  · exact ⟨z, .inr s⟩
theorem ScrOk.sq {K : PySem.W.Frag} {N : Addr → Prop} {H : Hp} {sc : List Int} {a : Addr} (s : ScrOk K N H sc a) : SqL K H a (sc.map V.int) := by
  obtain ⟨_, ⟨o, e, n⟩ | s⟩ := s
  · exact .inl (.inr ⟨o, e⟩)
  · exact .inr s
/-- the relation of a value and what the evaluator has for it -/
def RE (K : PySem.W.Frag) (G : Addr → Prop) (sc : List Int) (m : List Addr) (h : Hm) (H : Hp) (v : V) : EV → Prop
  | .d d => Rep (Fb G m h) H d v
  | .ref k => ∃ a, v = .ref a ∧ m[k]? = some a
  | .scr => ∃ a, v = .ref a ∧ ScrOk K (Fb G m h) H sc a
/-- of the slots -/
def REs (K : PySem.W.Frag) (G : Addr → Prop) (sc : List Int) (m : List Addr) (h : Hm) (H : Hp) (σ : L2.St) (env : Ev) : Prop :=
  σ.length = env.length ∧ ∀ (i : Nat) (e : EV), env[i]? = some (some e) → ∃ v, σ[i]? = some (some v) ∧ RE K G sc m h H v e
section
variable {K : PySem.W.Frag} {G : Addr → Prop} {nf : Nat → Nat} {sc : List Int} {m m' m2 : List Addr} {h h' h2 : Hm} {H H' H2 : Hp} {v : V} {e : EV} {σ : L2.St} {env : Ev}
theorem RE.keep (s : Stp K G nf m h H m' h' H') (r : RE K G sc m h H v e) : RE K G sc m' h' H' v e := by
  cases e with
  | d d => exact Rep.keep s.keeps d v r
  | ref k => obtain ⟨a, e1, e2⟩ := r; exact ⟨a, e1, s.at_ e2⟩
  | scr => obtain ⟨a, e1, e2⟩ := r; exact ⟨a, e1, e2.keep s.keeps⟩
theorem REs.keep (s : Stp K G nf m h H m' h' H') (r : REs K G sc m h H σ env) : REs K G sc m' h' H' σ env :=
  ⟨r.1, fun i e q => let ⟨v, a, b⟩ := r.2 i e q; ⟨v, a, b.keep s⟩⟩
theorem REs.set (r : REs K G sc m h H σ env) (i : Nat) (q : RE K G sc m h H v e) : REs K G sc m h H (σ.set i (some v)) (env.set i (some e)) := by
  refine ⟨by rw [List.length_set, List.length_set]; exact r.1, fun j e' hj => ?_⟩
  by_cases hi : i = j
  · subst hi
    have hl : i < env.length := by
      rw [List.getElem?_set] at hj
      by_cases z : i < env.length
      · exact z
      · simp [z] at hj
    rw [List.getElem?_set_self hl] at hj
    cases hj
    exact ⟨v, List.getElem?_set_self (by rw [r.1]; exact hl), q⟩
  · rw [List.getElem?_set_ne hi] at hj ⊢
    exact r.2 j e' hj
theorem REs.unset (r : REs K G sc m h H σ env) (i : Nat) : REs K G sc m h H (σ.set i none) (env.set i none) := by
  refine ⟨by rw [List.length_set, List.length_set]; exact r.1, fun j e' hj => ?_⟩
  by_cases hi : i = j
  · subst hi
    rw [List.getElem?_set] at hj
    simp only [if_true] at hj
    split at hj <;> cases hj
  · rw [List.getElem?_set_ne hi] at hj ⊢
    exact r.2 j e' hj
theorem REs.wipe (r : REs K G sc m h H σ env) : ∀ l : List Nat, REs K G sc m h H (L2.wipe σ l) (wipeE env l)
  | [] => r
  | i :: l => (REs.wipe r l).unset i
end
end Mp
set_option Elab.async false
set_option linter.all false
set_option maxRecDepth 100000
/-! Mp, part C: how the relation moves: new things, writes, a list that is written no more. -/
namespace Mp
open PySem PySem.Spec PyProof.Rows L2

section
variable {K : PySem.W.Frag} {G : Addr → Prop} {nf : Nat → Nat} {m : List Addr} {h : Hm} {H : Hp}

theorem MOk.move {N N' : Addr → Prop} {H' : Hp} {a : Addr} {o : MO} (k : Keeps N N' H H') (e : H' a = H a) (x : MOk K N H a o) : MOk K N' H' a o := by
  cases o with
  | lst ds => obtain ⟨xs, p, r⟩ := x; exact ⟨xs, e.trans p, Reps.keep k _ _ r⟩
  | ice ds => obtain ⟨xs, p, r⟩ := x; exact ⟨xs, e.trans p, Reps.keep k _ _ r⟩
  | ins c fs => obtain ⟨dx, vs, p, q, cl, na, r⟩ := x; exact ⟨dx, vs, e.trans p, q, cl, na, Reps.keep k _ _ r⟩
  | zp _ _ => trivial
  | aux => trivial
  | gone => trivial
theorem SqAt.move {k : Bool} {H' : Hp} {a : Addr} {xs : List V} (e : H' a = H a) (x : SqAt k H a xs) : SqAt k H' a xs := by
  cases k with
  | true => exact e.trans x
  | false => obtain ⟨o, z, p⟩ := x; exact ⟨o, e.trans z, p⟩
theorem SqAt.some {k : Bool} {a : Addr} {xs : List V} (x : SqAt k H a xs) : ∃ o, H a = some o := by
  cases k with
  | true => exact ⟨_, x⟩
  | false => obtain ⟨o, z, p⟩ := x; exact ⟨_, z⟩
theorem Seq.move {N N' : Addr → Prop} {H' : Hp} {kd : Bool} {a : Addr} {xs : List V} {ds : List D} (k : Keeps N N' H H') (x : Seq N H kd a xs ds) : Seq N' H' kd a xs ds := by
  obtain ⟨o, e⟩ := x.at_.some
  obtain ⟨e2, n⟩ := k a o e x.no
  exact ⟨x.at_.move (e2.trans e.symm), n, Reps.keep k _ _ x.rs⟩
theorem ZpOk.move {N N' : Addr → Prop} {H' : Hp} {n0 : Nat} {z TI TO i1 i2 : Addr} {xs ys : List D} (k : Keeps N N' H H') (e : ∀ b ∈ [z, TI, TO, i1, i2], H' b = H b) (x : ZpOk N n0 H z TI TO i1 i2 xs ys) : ZpOk N' n0 H' z TI TO i1 i2 xs ys := by
  obtain ⟨k1, k2, a, b, vs, ws, q1, q2, s1, s2⟩ := x.sq
  exact ⟨(e z (by simp)).trans x.hz, (e TI (by simp)).trans x.hTI, (e TO (by simp)).trans x.hTO, ⟨k1, k2, a, b, vs, ws, (e i1 (by simp)).trans q1, (e i2 (by simp)).trans q2, s1.move k, s2.move k⟩, x.young⟩
theorem zp_mem {xs ys : List D} {z TI TO i1 i2 : Addr} {k : Nat} (h0 : h[k]? = some (.zp xs ys)) (hj : ∀ j, k < j → j ≤ k + 4 → h[j]? = some .aux) (a0 : m[k]? = some z) (a1 : m[k + 1]? = some TI) (a2 : m[k + 2]? = some TO) (a3 : m[k + 3]? = some i1) (a4 : m[k + 4]? = some i2) : ∀ b ∈ [z, TI, TO, i1, i2], Live m h b := fun b hb => by
  have e : b = z ∨ b = TI ∨ b = TO ∨ b = i1 ∨ b = i2 := by simpa using hb
  rcases e with e | e | e | e | e
  · rw [e]; exact live_of a0 h0 nofun
  · rw [e]; exact live_of a1 (hj _ (by omega) (by omega)) nofun
  · rw [e]; exact live_of a2 (hj _ (by omega) (by omega)) nofun
  · rw [e]; exact live_of a3 (hj _ (by omega) (by omega)) nofun
  · rw [e]; exact live_of a4 (hj _ (by omega) (by omega)) nofun

/-- the general move: the slots that were there stand as they were but where `o` tells otherwise -/
theorem Rl.move (r : Rl K G nf m h H) {h' : Hm} {H' : Hp} (kp : Keeps (Fb G m h) (Fb G m h') H H') (hl : h'.length = h.length)
    (ob : ∀ (k : Nat) (a : Addr) (o : MO), m[k]? = some a → h'[k]? = some o → o ≠ .gone → (h[k]? = some o ∧ H' a = H a) ∨ (MOk K (Fb G m h') H' a o ∧ (∃ u, h[k]? = some u ∧ u ≠ .gone) ∧ ∃ u, H' a = some u))
    (zp : ∀ (k : Nat) (xs ys : List D), h'[k]? = some (.zp xs ys) → h[k]? = some (.zp xs ys) ∧ ∀ j, k ≤ j → j ≤ k + 4 → (k < j → h[j]? = some .aux → h'[j]? = some .aux) ∧ ∀ b, m[j]? = some b → H' b = H b)
    (gd : ∀ a, G a → ∃ o, H' a = some o) (sm : ∀ a xs, (H' a = some (.lst xs) ∨ ∃ o, H' a = some (.frz o (.tup xs))) → xs.length ≤ sizeLine) : Rl K G nf m h' H' := by
  have was : ∀ (k : Nat) (a : Addr) (o : MO), m[k]? = some a → h'[k]? = some o → o ≠ .gone → ∃ u, h[k]? = some u ∧ u ≠ .gone := fun k a o e1 e2 n => by
    rcases ob k a o e1 e2 n with ⟨q, _⟩ | ⟨_, q, _⟩
    · exact ⟨o, q, n⟩
    · exact q
  refine ⟨r.len.trans hl.symm, fun i j a o u e1 e2 e3 e4 n1 n2 => ?_, fun k a o e1 e2 => ?_, fun a ⟨k, o, e1, e2, n⟩ => ?_, fun k xs ys e => ?_, gd, fun a ⟨k, o, e1, e2, n⟩ => ?_, sm⟩
  · obtain ⟨o', p1, p2⟩ := was i a o e1 e3 n1
    obtain ⟨u', p3, p4⟩ := was j a u e2 e4 n2
    exact r.nd i j a o' u' e1 e2 p1 p3 p2 p4
  · by_cases n : o = .gone
    · rw [n]; trivial
    · rcases ob k a o e1 e2 n with ⟨q, e⟩ | ⟨q, _⟩
      · exact (r.ob k a o e1 q).move kp e
      · exact q
  · rcases ob k a o e1 e2 n with ⟨q, e⟩ | ⟨_, _, q⟩
    · rw [e]; exact r.th a ⟨k, o, e1, q, n⟩
    · exact q
  · obtain ⟨q, ke⟩ := zp k xs ys e
    obtain ⟨hj, z, TI, TO, i1, i2, a0, a1, a2, a3, a4, x⟩ := r.zp k xs ys q
    refine ⟨fun j h1 h2 => (ke j (by omega) h2).1 h1 (hj j h1 h2), z, TI, TO, i1, i2, a0, a1, a2, a3, a4, x.move kp fun b hb => ?_⟩
    have e : b = z ∨ b = TI ∨ b = TO ∨ b = i1 ∨ b = i2 := by simpa using hb
    rcases e with e | e | e | e | e
    · rw [e]; exact (ke k (by omega) (by omega)).2 z a0
    · rw [e]; exact (ke (k + 1) (by omega) (by omega)).2 TI a1
    · rw [e]; exact (ke (k + 2) (by omega) (by omega)).2 TO a2
    · rw [e]; exact (ke (k + 3) (by omega) (by omega)).2 i1 a3
    · rw [e]; exact (ke (k + 4) (by omega) (by omega)).2 i2 a4
  · obtain ⟨o', p1, p2⟩ := was k a o e1 e2 n
    exact r.gm a ⟨k, o', e1, p1, p2⟩

/-- a new thing that is no slot's: a tuple, a list that is written no more, or what does not matter -/
theorem Rl.laid (r : Rl K G nf m h H) {p : Addr} {o : HO} (hp : H p = none) (sz : ∀ xs, (o = .lst xs ∨ ∃ u, o = .frz u (.tup xs)) → xs.length ≤ sizeLine) : Stp K G nf m h H m h (upd H p o) := by
  have ne : ∀ a, (∃ u, H a = some u) → a ≠ p := fun a ⟨u, e⟩ z => by rw [z, hp] at e; cases e
  have kp : Keeps (Fb G m h) (Fb G m h) H (upd H p o) := fun a u e n => ⟨by rw [upd_ne (ne a ⟨u, e⟩)]; exact e, n⟩
  refine ⟨List.prefix_refl _, fun a u e _ => by rw [upd_ne (ne a ⟨u, e⟩)]; exact e, fun a z => .inl z, ⟨Nat.le_refl _, fun _ _ _ e _ => e⟩, r.move kp rfl (fun k a q e1 e2 n => .inl ⟨e2, upd_ne (ne a (r.th a (live_of e1 e2 n)))⟩) (fun k xs ys e => ⟨e, fun j h1 h2 => ⟨fun _ z => z, fun b e2 => upd_ne (ne b ?_)⟩⟩) (fun a g => ?_) fun a xs e => ?_⟩
  · obtain ⟨hj, _⟩ := r.zp k xs ys e
    by_cases z : k = j
    · exact r.th b (live_of (o := .zp xs ys) e2 (z ▸ e) nofun)
    · exact r.th b (live_of e2 (hj j (by omega) h2) nofun)
  · rw [upd_ne (ne a (r.gd a g))]
    exact r.gd a g
  · by_cases q : a = p
    · rw [q, upd_same] at e
      exact sz xs (e.imp Option.some.inj fun ⟨o, z⟩ => ⟨o, Option.some.inj z⟩)
    · rw [upd_ne q] at e
      exact r.sm a xs e
/-- data made of a new tuple, of a new list -/
theorem Rl.newTup (r : Rl K G nf m h H) {p : Addr} {o : Obj} {xs : List V} {ds : List D} (hp : H p = none) (pl : PlT o) (hz : xs.length ≤ sizeLine) (rs : Reps (Fb G m h) H ds xs) : Stp K G nf m h H m h (upd H p (.frz o (.tup xs))) ∧ Rep (Fb G m h) (upd H p (.frz o (.tup xs))) (.tuple ds) (.ref p) := by
  have s := r.laid (o := .frz o (.tup xs)) hp fun ys e => by
    rcases e with e | ⟨u, e⟩
    · cases e
    · cases e; exact hz
  refine ⟨s, p, o, xs, rfl, upd_same, pl, fun n => ?_, Reps.keep s.keeps _ _ rs⟩
  rcases n with n | n
  · obtain ⟨u, e⟩ := r.th p n.mem; rw [hp] at e; cases e
  · obtain ⟨u, e⟩ := r.gd p n; rw [hp] at e; cases e
theorem Rl.newIce (r : Rl K G nf m h H) {p : Addr} {xs : List V} {ds : List D} (hp : H p = none) (hz : xs.length ≤ sizeLine) (rs : Reps (Fb G m h) H ds xs) : Stp K G nf m h H m h (upd H p (.lst xs)) ∧ Rep (Fb G m h) (upd H p (.lst xs)) (.list ds) (.ref p) := by
  have s := r.laid (o := .lst xs) hp fun ys e => by
    rcases e with e | ⟨u, e⟩
    · cases e; exact hz
    · cases e
  refine ⟨s, p, xs, rfl, upd_same, fun n => ?_, Reps.keep s.keeps _ _ rs⟩
  rcases n with n | n
  · obtain ⟨u, e⟩ := r.th p n.mem; rw [hp] at e; cases e
  · obtain ⟨u, e⟩ := r.gd p n; rw [hp] at e; cases e

theorem get_snoc {α : Type} {l : List α} {x : α} {k : Nat} {a : α} (e : (l ++ [x])[k]? = some a) : l[k]? = some a ∨ (k = l.length ∧ a = x) := by
  by_cases hk : k < l.length
  · rw [List.getElem?_append_left hk] at e
    exact .inl e
  · rw [List.getElem?_append_right (by omega)] at e
    by_cases z : k = l.length
    · rw [z, Nat.sub_self] at e
      simp only [List.getElem?_cons_zero, Option.some.injEq] at e
      exact .inr ⟨z, e.symm⟩
    · rw [List.getElem?_eq_none (by simp; omega)] at e
      cases e
/-- a new slot -/
theorem Rl.slot (r : Rl K G nf m h H) {p : Addr} {H' : Hp} {mo : MO} (hp : H p = none) (kp : ∀ a u, H a = some u → H' a = some u) (ob : MOk K (Fb G (m ++ [p]) (h ++ [mo])) H' p mo) (nz : ∀ xs ys, mo ≠ .zp xs ys) (hp' : ∃ u, H' p = some u)
    (sm : ∀ a xs, (H' a = some (.lst xs) ∨ ∃ o, H' a = some (.frz o (.tup xs))) → xs.length ≤ sizeLine) : Stp K G nf m h H (m ++ [p]) (h ++ [mo]) H' := by
  have new : ∀ a, Mx (m ++ [p]) (h ++ [mo]) a → Mx m h a ∨ H a = none := fun a ⟨k, o, e1, e2, e3⟩ => by
    rcases get_snoc e1 with q | ⟨q, e⟩
    · have hk : k < h.length := by rw [← r.len]; exact (List.getElem?_eq_some_iff.mp q).1
      rw [List.getElem?_append_left hk] at e2
      exact .inl ⟨k, o, q, e2, e3⟩
    · exact .inr (by rw [e]; exact hp)
  have kps : Keeps (Fb G m h) (Fb G (m ++ [p]) (h ++ [mo])) H H' := fun a u e n => ⟨kp a u e, fun z => by
    rcases z with z | z
    · rcases new a z with z | z
      · exact n (.inl z)
      · rw [e] at z; cases z
    · exact n (.inr z)⟩
  have sm' : ∀ a, (∃ u, H a = some u) → H' a = H a := fun a ⟨u, e⟩ => (kp a u e).trans e.symm
  have cut : ∀ {k : Nat} {a : Addr} {o : MO}, m[k]? = some a → (h ++ [mo])[k]? = some o → h[k]? = some o := fun {k a o} q e2 => by
    have hk : k < h.length := by rw [← r.len]; exact (List.getElem?_eq_some_iff.mp q).1
    rw [List.getElem?_append_left hk] at e2
    exact e2
  have last : ∀ {k : Nat} {a : Addr} {o : MO}, m[k]? = some a → (h ++ [mo])[k]? = some o → o ≠ .gone → a ≠ p := fun {k a o} q e2 n z => by
    obtain ⟨u, w⟩ := r.th a (live_of q (cut q e2) n)
    rw [z, hp] at w
    cases w
  refine ⟨List.prefix_append _ _, fun a u e _ => kp a u e, new, ⟨by rw [List.length_append]; omega, fun k xs ys e l => by rw [List.getElem?_append_left l] at e; exact e⟩, ?_⟩
  refine ⟨by rw [List.length_append, List.length_append, r.len]; rfl, fun i j a o u e1 e2 e3 e4 n1 n2 => ?_, fun k a o e1 e2 => ?_, fun a ⟨k, o, e1, e2, n⟩ => ?_, fun k xs ys e => ?_, fun a g => ?_, fun a ⟨k, o, e1, e2, n⟩ g => ?_, sm⟩
  · rcases get_snoc e1 with q1 | ⟨q1, z1⟩ <;> rcases get_snoc e2 with q2 | ⟨q2, z2⟩
    · exact r.nd i j a o u q1 q2 (cut q1 e3) (cut q2 e4) n1 n2
    · exact absurd z2 (last q1 e3 n1)
    · exact absurd z1 (last q2 e4 n2)
    · rw [q1, q2]
  · rcases get_snoc e1 with q | ⟨q, e⟩
    · by_cases n : o = .gone
      · rw [n]; trivial
      · exact (r.ob k a o q (cut q e2)).move kps (sm' a (r.th a (live_of q (cut q e2) n)))
    · rw [q, r.len, List.getElem?_append_right (Nat.le_refl _), Nat.sub_self] at e2
      cases e2
      rw [e]
      exact ob
  · rcases get_snoc e1 with q | ⟨q, e⟩
    · obtain ⟨u, z⟩ := r.th a (live_of q (cut q e2) n)
      exact ⟨u, kp a u z⟩
    · rw [e]
      exact hp'
  · rcases get_snoc e with q | ⟨_, q⟩
    · obtain ⟨hj, z, TI, TO, i1, i2, a0, a1, a2, a3, a4, x⟩ := r.zp k xs ys q
      have at' : ∀ {j b}, m[j]? = some b → (m ++ [p])[j]? = some b := fun {j b} w => by rw [List.getElem?_append_left (List.getElem?_eq_some_iff.mp w).1]; exact w
      exact ⟨fun j h1 h2 => by have w := hj j h1 h2; rw [List.getElem?_append_left (List.getElem?_eq_some_iff.mp w).1]; exact w, z, TI, TO, i1, i2, at' a0, at' a1, at' a2, at' a3, at' a4, x.move kps fun b hb => sm' b (r.th b (zp_mem q hj a0 a1 a2 a3 a4 b hb))⟩
    · exact absurd q.symm (nz xs ys)
  · obtain ⟨u, z⟩ := r.gd a g
    exact ⟨u, kp a u z⟩
  · rcases get_snoc e1 with q | ⟨q, e⟩
    · exact r.gm a (live_of q (cut q e2) n) g
    · rw [e] at g
      obtain ⟨u, z⟩ := r.gd p g
      rw [hp] at z
      cases z
theorem Rl.slotAt (r : Rl K G nf m h H) {p : Addr} : (m ++ [p])[h.length]? = some p := by
  rw [← r.len, List.getElem?_append_right (Nat.le_refl _), Nat.sub_self]
  rfl
/-- a new list, written later on or not -/
theorem Rl.newList (r : Rl K G nf m h H) (mu : Bool) {p : Addr} {xs : List V} {ds : List D} {sc : List Int} (hp : H p = none) (hz : xs.length ≤ sizeLine) (rs : Reps (Fb G m h) H ds xs) :
    ∃ m', Stp K G nf m h H m' (mkL mu ds h).2 (upd H p (.lst xs)) ∧ RE K G sc m' (mkL mu ds h).2 (upd H p (.lst xs)) (.ref p) (mkL mu ds h).1 := by
  cases mu with
  | false =>
    obtain ⟨s, q⟩ := r.newIce hp hz rs
    exact ⟨m, s, q⟩
  | true =>
    have ne : ∀ a u, H a = some u → upd H p (.lst xs) a = some u := fun a u e => by
      rw [upd_ne (fun z => by rw [z, hp] at e; cases e)]
      exact e
    have s : Stp K G nf m h H (m ++ [p]) (h ++ [.lst ds]) (upd H p (.lst xs)) := r.slot hp ne (by
      refine ⟨xs, upd_same, Reps.keep (fun a u e n => ⟨ne a u e, fun z => ?_⟩) _ _ rs⟩
      rcases z with ⟨k, o, e1, e2, e3⟩ | z
      · rcases get_snoc e1 with q | ⟨q, e'⟩
        · have hk : k < h.length := by rw [← r.len]; exact (List.getElem?_eq_some_iff.mp q).1
          rw [List.getElem?_append_left hk] at e2
          exact n (.inl ⟨k, o, q, e2, e3⟩)
        · rw [e', hp] at e; cases e
      · exact n (.inr z)) (fun _ _ => by intro z; cases z) ⟨_, upd_same⟩ fun a ys e => by
      by_cases q : a = p
      · rw [q, upd_same] at e
        rcases e with e | ⟨u, e⟩
        · cases e; exact hz
        · cases e
      · rw [upd_ne q] at e
        exact r.sm a ys e
    exact ⟨m ++ [p], s, p, rfl, r.slotAt⟩

theorem get_set {α : Type} {l : List α} {x : α} {k j : Nat} {a : α} (e : (l.set k x)[j]? = some a) : (j = k ∧ a = x) ∨ (j ≠ k ∧ l[j]? = some a) := by
  by_cases hj : k = j
  · subst hj
    have hl : k < l.length := by
      have q := (List.getElem?_eq_some_iff.mp e).1
      rw [List.length_set] at q
      exact q
    rw [List.getElem?_set_self hl] at e
    exact .inl ⟨rfl, (Option.some.inj e).symm⟩
  · rw [List.getElem?_set_ne hj] at e
    exact .inr ⟨fun z => hj z.symm, e⟩
/-- a list is written no more -/
theorem Rl.freeze (r : Rl K G nf m h H) {k : Nat} {ds : List D} (hk : h[k]? = some (.lst ds)) : Stp K G nf m h H m (h.set k (.ice ds)) H := by
  have sub : ∀ a, Mx m (h.set k (.ice ds)) a → Mx m h a := fun a ⟨j, o, e1, e2, e3⟩ => by
    rcases get_set e2 with ⟨_, q⟩ | ⟨_, q⟩
    · rw [q] at e3; cases e3
    · exact ⟨j, o, e1, q, e3⟩
  have kp : Keeps (Fb G m h) (Fb G m (h.set k (.ice ds))) H H := fun a u e n => ⟨e, fun z => n (z.imp (sub a) id)⟩
  refine ⟨List.prefix_refl _, fun a u e _ => e, fun a z => .inl (sub a z), ⟨by rw [List.length_set]; exact Nat.le_refl _, fun j xs ys e _ => by rcases get_set e with ⟨_, q⟩ | ⟨_, q⟩ <;> first | exact q | cases q⟩, r.move kp (List.length_set ..) (fun j a o e1 e2 n => ?_) (fun j xs ys e => ?_) r.gd r.sm⟩
  · rcases get_set e2 with ⟨q, e⟩ | ⟨_, q⟩
    · right
      rw [q] at e1
      obtain ⟨xs, p, rs⟩ := r.ob k a _ e1 hk
      rw [e]
      exact ⟨⟨xs, p, Reps.keep kp _ _ rs⟩, ⟨.lst ds, q ▸ hk, nofun⟩, _, p⟩
    · exact .inl ⟨q, rfl⟩
  · rcases get_set e with ⟨_, q⟩ | ⟨_, q⟩
    · cases q
    · refine ⟨q, fun i h1 h2 => ⟨fun _ w => ?_, fun _ _ => rfl⟩⟩
      rw [List.getElem?_set_ne (fun z => by rw [← z, hk] at w; cases w)]
      exact w
/-- a value as data for good -/
theorem Rl.toD (r : Rl K G nf m h H) {sc : List Int} {v : V} {e : EV} {d : D} {h' : Hm} (q : RE K G sc m h H v e) (t : Mp.toD e h = some (d, h')) : Stp K G nf m h H m h' H ∧ Rep (Fb G m h') H d v := by
  cases e with
  | d x =>
    cases t
    exact ⟨.refl r, q⟩
  | scr => cases t
  | ref k =>
    obtain ⟨a, e1, e2⟩ := q
    simp only [Mp.toD] at t
    cases hk : h[k]? with
    | none => rw [hk] at t; cases t
    | some o =>
      rw [hk] at t
      cases o with
      | lst xs =>
        cases t
        have s := r.freeze hk
        obtain ⟨ys, p, rs⟩ := r.ob k a _ e2 hk
        refine ⟨s, a, ys, e1, p, fun n => ?_, ?_⟩
        · rcases n with ⟨j, o, f1, f2, f3⟩ | n
          · rcases get_set f2 with ⟨_, z⟩ | ⟨z, w⟩
            · rw [z] at f3; cases f3
            · exact z (r.inj f1 e2 w hk (fun z => by rw [z] at f3; cases f3) nofun)
          · exact r.gm a (live_of e2 hk nofun) n
        · refine Reps.keep (fun b u e n => ⟨e, fun z => n (z.imp (fun ⟨j, o, f1, f2, f3⟩ => ?_) id)⟩) _ _ rs
          rcases get_set f2 with ⟨_, z⟩ | ⟨_, z⟩
          · rw [z] at f3; cases f3
          · exact ⟨j, o, f1, z, f3⟩
      | ice xs =>
        cases t
        obtain ⟨ys, p, rs⟩ := r.ob k a _ e2 hk
        refine ⟨.refl r, a, ys, e1, p, fun n => ?_, rs⟩
        rcases n with ⟨j, o, f1, f2, f3⟩ | n
        · have ej := r.inj f1 e2 f2 hk (fun z => by rw [z] at f3; cases f3) nofun
          rw [ej, hk] at f2
          cases f2
          cases f3
        · exact r.gm a (live_of e2 hk nofun) n
      | ins c fs => cases t
      | zp _ _ => cases t
      | aux => cases t
      | gone => cases t
/-- a slot's thing is written: what stands at its address changes -/
theorem Rl.write (r : Rl K G nf m h H) {k : Nat} {a : Addr} {o o' : MO} {u : HO} (ha : m[k]? = some a) (hk : h[k]? = some o) (hm : isM o = true) (hm' : isM o' = true) (nz : ∀ xs ys, o ≠ .zp xs ys) (nx : o ≠ .aux) (nz' : ∀ xs ys, o' ≠ .zp xs ys)
    (ob : MOk K (Fb G m h) (upd H a u) a o') (sz : ∀ xs, (u = .lst xs ∨ ∃ q, u = .frz q (.tup xs)) → xs.length ≤ sizeLine) : Stp K G nf m h H m (h.set k o') (upd H a u) := by
  have mx : Mx m h a := ⟨k, o, ha, hk, hm⟩
  have sub : ∀ b, Mx m (h.set k o') b → Mx m h b := fun b ⟨j, q, e1, e2, e3⟩ => by
    rcases get_set e2 with ⟨z, _⟩ | ⟨_, z⟩
    · rw [z, ha] at e1; cases e1; exact mx
    · exact ⟨j, q, e1, z, e3⟩
  have sup : ∀ b, Mx m h b → Mx m (h.set k o') b := fun b ⟨j, q, e1, e2, e3⟩ => by
    by_cases z : k = j
    · subst z
      have hl : k < h.length := (List.getElem?_eq_some_iff.mp hk).1
      exact ⟨k, o', e1, List.getElem?_set_self hl, hm'⟩
    · exact ⟨j, q, e1, by rw [List.getElem?_set_ne z]; exact e2, e3⟩
  have kp : Keeps (Fb G m h) (Fb G m (h.set k o')) H (upd H a u) := fun b v e n => ⟨by rw [upd_ne (fun z : b = a => n (.inl (by rw [z]; exact mx)))]; exact e, fun z => n (z.imp (sub b) id)⟩
  have kp2 : Keeps (Fb G m h) (Fb G m (h.set k o')) (upd H a u) (upd H a u) := fun b v e n => ⟨e, fun z => n (z.imp (sub b) id)⟩
  have ng : o ≠ .gone := fun z => by rw [z] at hm; cases hm
  have ng' : o' ≠ .gone := fun z => by rw [z] at hm'; cases hm'
  have ga : ∀ b, G b → b ≠ a := fun b g z => r.gm a (live_of ha hk ng) (z ▸ g)
  refine ⟨List.prefix_refl _, fun b v e n => by rw [upd_ne (fun z : b = a => n (by rw [z]; exact mx))]; exact e, fun b z => .inl (sub b z), ⟨by rw [List.length_set]; exact Nat.le_refl _, fun j xs ys e _ => by rcases get_set e with ⟨_, q⟩ | ⟨_, q⟩ <;> first | exact q | exact absurd q.symm (nz' xs ys)⟩, r.move kp (List.length_set ..) (fun j b q e1 e2 n => ?_) (fun j xs ys e => ?_) (fun b g => ?_) fun b xs e => ?_⟩
  · rcases get_set e2 with ⟨z, e⟩ | ⟨z, q⟩
    · right
      rw [z, ha] at e1
      cases e1
      rw [e]
      exact ⟨ob.move kp2 rfl, ⟨o, z ▸ hk, ng⟩, u, upd_same⟩
    · refine .inl ⟨q, upd_ne fun w => z (r.inj (w ▸ e1) ha q hk n ng)⟩
  · rcases get_set e with ⟨_, q⟩ | ⟨_, q⟩
    · exact absurd q.symm (nz' xs ys)
    · obtain ⟨hj, _⟩ := r.zp j xs ys q
      have other : ∀ i, j ≤ i → i ≤ j + 4 → ∃ w, h[i]? = some w ∧ w ≠ .gone ∧ w ≠ o := fun i h1 h2 => by
        by_cases z : j = i
        · exact ⟨.zp xs ys, z ▸ q, nofun, fun w => nz xs ys w.symm⟩
        · exact ⟨_, hj i (by omega) h2, nofun, fun w => nx w.symm⟩
      refine ⟨q, fun i hi1 hi2 => ⟨fun _ w => ?_, fun b e2 => upd_ne fun w => ?_⟩⟩
      · rw [List.getElem?_set_ne (fun z => by rw [← z, hk] at w; exact nx (Option.some.inj w))]
        exact w
      · obtain ⟨w', p1, p2, p3⟩ := other i hi1 hi2
        have ei : i = k := r.inj (w ▸ e2) ha p1 hk p2 ng
        rw [ei, hk] at p1
        exact p3 (Option.some.inj p1).symm
  · rw [upd_ne (ga b g)]
    exact r.gd b g
  · by_cases q : b = a
    · rw [q, upd_same] at e
      exact sz xs (e.imp Option.some.inj fun ⟨o, z⟩ => ⟨o, Option.some.inj z⟩)
    · rw [upd_ne q] at e
      exact r.sm b xs e
/-- what stays of data where a slot's thing is written -/
theorem Rl.writeKeeps (r : Rl K G nf m h H) {k : Nat} {a : Addr} {o : MO} {u : HO} (ha : m[k]? = some a) (hk : h[k]? = some o) (hm : isM o = true) : Keeps (Fb G m h) (Fb G m h) H (upd H a u) := fun b v e n =>
  ⟨by rw [upd_ne (fun z : b = a => n (.inl ⟨k, o, by rw [z]; exact ha, hk, hm⟩))]; exact e, n⟩
end

/-! ### what a value is to be read as -/
section
variable {K : PySem.W.Frag} {G : Addr → Prop} {nf : Nat → Nat} {sc : List Int} {m : List Addr} {h : Hm} {H : Hp} {c : Cl} {v : V} {e : EV}
/-- data, the content of a slot's list, or the script -/
theorem Rl.rdSeqL (r : Rl K G nf m h H) (hc : c.scr = sc) (q : RE K G sc m h H v e) {ds : List D} (t : rd c e h = some (.list ds)) :
    ∃ a xs, v = .ref a ∧ SqL K H a xs ∧ Reps (Fb G m h) H ds xs ∧ (H a = some (.lst xs) ∨ e = .scr) := by
  cases e with
  | d x =>
    cases t
    obtain ⟨a, xs, e1, e2, n, rs⟩ := q
    exact ⟨a, xs, e1, SqL.of e2, rs, .inl e2⟩
  | ref k =>
    obtain ⟨a, e1, e2⟩ := q
    simp only [rd] at t
    cases hk : h[k]? with
    | none => rw [hk] at t; cases t
    | some o =>
      rw [hk] at t
      have mk := r.ob k a o e2 hk
      cases o with
      | lst xs => cases t; obtain ⟨ys, p, rs⟩ := mk; exact ⟨a, ys, e1, SqL.of p, rs, .inl p⟩
      | ice xs => cases t; obtain ⟨ys, p, rs⟩ := mk; exact ⟨a, ys, e1, SqL.of p, rs, .inl p⟩
      | ins c fs => cases t
      | zp _ _ => cases t
      | aux => cases t
      | gone => cases t
  | scr =>
    cases t
    obtain ⟨a, e1, e2⟩ := q
    refine ⟨a, _, e1, e2.sq, ?_, .inr rfl⟩
    rw [hc]
    exact reps_ints sc
theorem Rl.rdSeqT (r : Rl K G nf m h H) (q : RE K G sc m h H v e) {ds : List D} (t : rd c e h = some (.tuple ds)) :
    ∃ a o xs, v = .ref a ∧ H a = some (.frz o (.tup xs)) ∧ PlT o ∧ ¬ Fb G m h a ∧ Reps (Fb G m h) H ds xs := by
  cases e with
  | d x =>
    cases t
    exact q
  | ref k =>
    simp only [rd] at t
    cases hk : h[k]? with
    | none => rw [hk] at t; cases t
    | some o => rw [hk] at t; cases o <;> cases t
  | scr => cases t
/-- the rest is as it is -/
theorem Rl.rdFlat (r : Rl K G nf m h H) (q : RE K G sc m h H v e) {x : D} (t : rd c e h = some x) (nl : ∀ ds, x ≠ .list ds) : e = .d x ∧ Rep (Fb G m h) H x v := by
  cases e with
  | d y => cases t; exact ⟨rfl, q⟩
  | ref k =>
    simp only [rd] at t
    cases hk : h[k]? with
    | none => rw [hk] at t; cases t
    | some o =>
      rw [hk] at t
      cases o with
      | lst xs => cases t; exact absurd rfl (nl xs)
      | ice xs => cases t; exact absurd rfl (nl xs)
      | ins c fs => cases t
      | zp _ _ => cases t
      | aux => cases t
      | gone => cases t
  | scr => cases t; exact absurd rfl (nl _)
mutual
theorem Rep.dp : ∀ (d : D) (v : V), Rep (Fb G m h) H d v → Dp K H v d
  | .none, v, e => by cases e; exact .non
  | .bool b, v, e => by cases e; exact .bl b
  | .int i, v, e => by cases e; exact .int i
  | .str s, v, e => by cases e; exact .str s
  | .tuple ds, v, e => by
    obtain ⟨a, o, xs, e1, e2, pl, n, rs⟩ := e
    rw [e1]
    exact .tup (.inl (.inr ⟨o, e2⟩)) (Reps.dp ds xs rs)
  | .list ds, v, e => by
    obtain ⟨a, xs, e1, e2, n, rs⟩ := e
    rw [e1]
    exact .lst (SqL.of e2) (Reps.dp ds xs rs)
  | .dict _, v, e => e.elim
theorem Reps.dp : ∀ (ds : List D) (vs : List V), Reps (Fb G m h) H ds vs → DpAll K H vs ds
  | [], [], _ => .nil
  | d :: ds, v :: vs, e => .cons (Rep.dp d v e.1) (Reps.dp ds vs e.2)
  | [], _ :: _, e => e.elim
  | _ :: _, [], e => e.elim
end
mutual
theorem Rep.plain {N : Addr → Prop} : ∀ (d : D) (v : V), Rep N H d v → d.plain = true
  | .none, v, e => rfl
  | .bool b, v, e => rfl
  | .int i, v, e => rfl
  | .str s, v, e => rfl
  | .tuple ds, v, e => by
    obtain ⟨a, o, xs, e1, e2, pl, n, rs⟩ := e
    exact Reps.plain ds xs rs
  | .list ds, v, e => by
    obtain ⟨a, xs, e1, e2, n, rs⟩ := e
    exact Reps.plain ds xs rs
  | .dict _, v, e => e.elim
theorem Reps.plain {N : Addr → Prop} : ∀ (ds : List D) (vs : List V), Reps N H ds vs → PyData.plainAll ds = true
  | [], [], _ => rfl
  | d :: ds, v :: vs, e => by
    simp only [PyData.plainAll, Rep.plain d v e.1, Reps.plain ds vs e.2, Bool.and_self]
  | [], _ :: _, e => e.elim
  | _ :: _, [], e => e.elim
end
theorem Rl.rdDp (r : Rl K G nf m h H) (hc : c.scr = sc) (q : RE K G sc m h H v e) {x : D} (t : rd c e h = some x) : Dp K H v x ∧ x.plain = true := by
  by_cases nl : ∃ ds, x = .list ds
  · obtain ⟨ds, rfl⟩ := nl
    obtain ⟨a, xs, e1, e2, rs, _⟩ := r.rdSeqL hc q t
    rw [e1]
    exact ⟨.lst e2 (Reps.dp ds xs rs), Reps.plain ds xs rs⟩
  · obtain ⟨_, z⟩ := r.rdFlat q t fun ds z => nl ⟨ds, z⟩
    exact ⟨Rep.dp x v z, Rep.plain x v z⟩
/-- a value's truth -/
theorem Rl.tru (r : Rl K G nf m h H) (hc : c.scr = sc) (q : RE K G sc m h H v e) {b : Bool} (t : Mp.tru c e h = some b) : TruV K v H b := by
  simp only [Mp.tru] at t
  cases hx : rd c e h with
  | none => rw [hx] at t; cases t
  | some x =>
    rw [hx] at t
    cases x with
    | none => cases t; obtain ⟨_, z⟩ := r.rdFlat q hx fun ds z => by cases z
              cases z; rfl
    | bool b => cases t; obtain ⟨_, z⟩ := r.rdFlat q hx fun ds z => by cases z
                cases z; rfl
    | int i => cases t; obtain ⟨_, z⟩ := r.rdFlat q hx fun ds z => by cases z
               cases z; rfl
    | str s =>
      obtain ⟨_, z⟩ := r.rdFlat q hx fun ds z => by cases z
      cases z
      simp only at t
      split at t
      · rename_i hs
        cases t
        exact ⟨hs, rfl⟩
      · cases t
    | list ds =>
      cases t
      obtain ⟨a, xs, e1, e2, rs, _⟩ := r.rdSeqL hc q hx
      rw [e1]
      refine .inl ⟨xs, e2, ?_⟩
      have hl := rs.length
      cases ds <;> cases xs <;> first | rfl | simp at hl
    | tuple ds =>
      cases t
      obtain ⟨a, o, xs, e1, e2, pl, n, rs⟩ := r.rdSeqT q hx
      rw [e1]
      refine .inr (.inl ⟨xs, .inl (.inr ⟨o, e2⟩), ?_⟩)
      have hl := rs.length
      cases ds <;> cases xs <;> first | rfl | simp at hl
    | dict _ => cases t
end
end Mp
set_option Elab.async false
set_option linter.all false
set_option maxRecDepth 100000
set_option maxHeartbeats 1000000
/-! Mp, part D: walks over lists and tuples alike: plain, zip, enumerate; a zip kept at a name. -/
namespace Mp
open PySem PySem.Spec PyProof.Rows L2

def HasS (k : Bool) (h : Heap) (a : Addr) (its : Array Value) : Prop := match k with
  | true => h.IsList a its
  | false => h.IsTuple a its
def itO (k : Bool) (a : Addr) : Obj := match k with
  | true => { cls := .type "list_iterator", data := .fields #[.ref a, .int 0 0] }
  | false => { cls := .type "tuple_iterator", data := .fields #[.ref a, .int 0 0] }
section
variable {X : Cx} {pins : List (Addr × Obj)} {σ : L2.St} {H : Hp} {s : Shared} {k : Bool} {a : Addr} {xs ys : List V}
theorem SqAt.inj (x : SqAt k H a xs) (y : SqAt k H a ys) : xs = ys := by
  cases k with
  | true => exact HO.lst.inj (Option.some.inj (Eq.trans (Eq.symm x) y))
  | false =>
    obtain ⟨o, x, _⟩ := x
    obtain ⟨u, y, _⟩ := y
    rw [x] at y
    cases y
    rfl
theorem inv_sq (I : Inv X pins σ H s) (x : SqAt k H a xs) : ∃ its : List Value, Vals xs its ∧ HasS k s.heap a its.toArray := by
  cases k with
  | true =>
    obtain ⟨its, rv, p, _⟩ := I.list (SqL.of x)
    exact ⟨its, rv, p.isList⟩
  | false =>
    obtain ⟨o, x, _⟩ := x
    obtain ⟨its, rv, p, _⟩ := I.tuple (.inl (.inr ⟨o, x⟩))
    exact ⟨its, rv, p⟩
theorem HasS.lt {h : Heap} {its : Array Value} (x : HasS k h a its) : a < h.objs.size := by
  cases k with
  | true => obtain ⟨_, e, _⟩ := x; exact Heap.lt_size e
  | false => obtain ⟨_, e, _⟩ := x; exact Heap.lt_size e
theorem ItS.obj {h : Heap} {it : Addr} {i : Nat} (x : ItS k h it a i) : ∃ o, h.get? it = some o ∧ ∀ v, o.data ≠ .cell v := by
  cases k with
  | true => obtain ⟨o, e, _, d⟩ := x; exact ⟨o, e, fun v q => by rw [d] at q; cases q⟩
  | false => obtain ⟨o, e, _, d⟩ := x; exact ⟨o, e, fun v q => by rw [d] at q; cases q⟩
theorem ItS.stay {h h' : Heap} {it : Addr} {i : Nat} (x : ItS k h it a i) (q : ∀ o, h.get? it = some o → h'.get? it = some o) : ItS k h' it a i := by
  cases k with
  | true => obtain ⟨o, e, c⟩ := x; exact ⟨o, q o e, c⟩
  | false => obtain ⟨o, e, c⟩ := x; exact ⟨o, q o e, c⟩
theorem ItS.new {h : Heap} {it : Addr} (e : h.get? it = some (itO k a)) : ItS k h it a 0 := by
  cases k with
  | true => exact ⟨_, e, rfl, rfl⟩
  | false => exact ⟨_, e, rfl, rfl⟩
theorem draws_s {prog : Program} {w : World} {A : Around} (hh : A.handled = none) (it : Addr) (hne : a ≠ it) (items : Array Value) :
    Draws prog w A it [it, a] items.size (fun i v => items[i]? = some v) (fun i h => ItS k h it a i ∧ HasS k h a items) := by
  cases k with
  | true => exact Draws.list hh it a hne items
  | false => exact Draws.tuple hh it a hne items
theorem begins_s (items : Array Value) : Begins (.ref a) (itO k a) fun h => HasS k h a items := by
  cases k with
  | true => exact begins_list a items
  | false => exact begins_tuple a items
end

/-! ### plain -/
def ItP (K : PySem.W.Frag) (k : Bool) (a : Addr) : It := match k with
  | true => Itl K a
  | false => Itt K a
def iSq (K : PySem.W.Frag) (te : TE) : TI := fun σ H R => te σ H fun x H1 => ∃ k a xs, x = .ref a ∧ SqAt k H1 a xs ∧ R (ItP K k a) H1
theorem pi_sq {X : Cx} {tg e : Expr} {te : TE} (he : PE X e te) : PI X tg e (iSq X.K te) := by
  refine ⟨fun pins s σ H R I q => thn (he.run pins s σ H _ I q) fun v s1 ⟨x, H1, I1, r1, k, a, xs, ex, hq, z⟩ => ?_⟩
  subst ex
  cases r1
  obtain ⟨its, rv, hs⟩ := inv_sq I1 hq
  refine (begins_s (k := k) its.toArray).iter _ _ _ _ s1 _ hs ?_
  have fp : ∀ b ∈ [s1.heap.objs.size], FpOk X pins H1 b := fun b hb => by
    rw [List.mem_singleton.mp hb]
    exact I1.fpOk (Nat.le_refl _) (I1.hok.fresh (Nat.le_refl _))
  cases k with
  | true => exact ⟨s1.heap.objs.size, [s1.heap.objs.size], _, _, H1, rfl, I1.kept (t' := s1.toks) (fun b o e => Heap.get?_push_of_some _ e), turn_list a _, ItS.new (k := true) (Heap.get?_push_size _ rfl), fp, z⟩
  | false => exact ⟨s1.heap.objs.size, [s1.heap.objs.size], _, _, H1, rfl, I1.kept (t' := s1.toks) (fun b o e => Heap.get?_push_of_some _ e), turn_tuple a _, ItS.new (k := false) (Heap.get?_push_size _ rfl), fp, z⟩

/-! ### zip -/
/-- what a zip of two sequences hands out -/
def ItZ (k1 k2 : Bool) (a b : Addr) : It where
  go := fun i H => ∃ xs ys x y, SqAt k1 H a xs ∧ SqAt k2 H b ys ∧ xs[i]? = some x ∧ ys[i]? = some y
  yld := fun i H v H' => ∃ T o x y, v = .ref T ∧ H T = none ∧ PlT o ∧ H' = upd H T (.frz o (.tup [x, y])) ∧ (∀ xs, SqAt k1 H a xs → xs[i]? = some x) ∧ ∀ ys, SqAt k2 H b ys → ys[i]? = some y
  stop := fun i H => ∃ xs ys, SqAt k1 H a xs ∧ SqAt k2 H b ys ∧ i ≤ xs.length ∧ i ≤ ys.length ∧ (i = xs.length ∨ i = ys.length)
theorem five_mem {b z TI TO i1 i2 : Addr} (h : b ∈ [z, TI, TO, i1, i2]) : b = z ∨ b = TI ∨ b = TO ∨ b = i1 ∨ b = i2 := by simpa using h
/-- the five things lie apart from each other and from the sequences -/
structure Apart5 (z TI TO i1 i2 a b : Addr) : Prop where
  nd : [z, TI, TO, i1, i2].Nodup
  na : a ∉ [z, TI, TO, i1, i2]
  nb : b ∉ [z, TI, TO, i1, i2]
theorem Apart5.sep {z TI TO i1 i2 a b : Addr} (q : Apart5 z TI TO i1 i2 a b) : ZipSep2 z TI TO i1 i2 [i1, a] [i2, b] := by
  obtain ⟨nd, na, nb⟩ := q
  simp only [List.nodup_cons, List.mem_cons, List.not_mem_nil, or_false, not_or, not_false_eq_true, and_true, List.nodup_nil] at nd na nb
  obtain ⟨⟨n1, n2, n3, n4⟩, ⟨n5, n6, n7⟩, ⟨n8, n9⟩, n10⟩ := nd
  obtain ⟨a1, a2, a3, a4, a5⟩ := na
  obtain ⟨b1, b2, b3, b4, b5⟩ := nb
  constructor <;> first | exact Ne.symm (by assumption) | (simp only [List.mem_cons, List.not_mem_nil, or_false, not_or]; refine ⟨?_, ?_⟩ <;> first | assumption | exact Ne.symm (by assumption)) | (simp; done) | assumption
def stZ (k1 k2 : Bool) (a b z TI TO i1 i2 : Addr) (i : Nat) (h : Heap) : Prop :=
  IsZip h z TI TO .none ∧ IsTupOf2 h TI (.ref i1) (.ref i2) ∧ (∃ x y, IsTupOf2 h TO x y) ∧ ItS k1 h i1 a i ∧ ItS k2 h i2 b i
theorem stZ.stay {k1 k2 : Bool} {a b z TI TO i1 i2 : Addr} {i : Nat} {h h' : Heap} (x : stZ k1 k2 a b z TI TO i1 i2 i h) (q : ∀ c ∈ [z, TI, TO, i1, i2], ∀ o, h.get? c = some o → h'.get? c = some o) : stZ k1 k2 a b z TI TO i1 i2 i h' := by
  obtain ⟨x1, x2, ⟨u, v, x3⟩, x4, x5⟩ := x
  exact ⟨q z (by simp) _ x1, q TI (by simp) _ x2, ⟨u, v, q TO (by simp) _ x3⟩, x4.stay fun o => q i1 (by simp) o, x5.stay fun o => q i2 (by simp) o⟩
theorem stZ.objs {k1 k2 : Bool} {a b z TI TO i1 i2 : Addr} {i : Nat} {h : Heap} (x : stZ k1 k2 a b z TI TO i1 i2 i h) : ∀ c ∈ [z, TI, TO, i1, i2], ∃ o, h.get? c = some o ∧ ∀ v, o.data ≠ .cell v := fun c hc => by
  obtain ⟨x1, x2, ⟨u, v, x3⟩, x4, x5⟩ := x
  rcases five_mem hc with e | e | e | e | e
  · rw [e]; exact ⟨_, x1, fun v q => nomatch q⟩
  · rw [e]; exact ⟨_, x2, fun v q => nomatch q⟩
  · rw [e]; exact ⟨_, x3, fun v q => nomatch q⟩
  · rw [e]; exact x4.obj
  · rw [e]; exact x5.obj
theorem turn_z {P : Program} {w : World} {K : PySem.W.Frag} {elts : List Expr} {kk : Nat} {tpos : Pos} {k1 k2 : Bool} {a b z TI TO i1 i2 : Addr} (D : Apart5 z TI TO i1 i2 a b) :
    Turn P w K (.Tuple elts kk tpos) (ItZ k1 k2 a b) [z, TI, TO, i1, i2] z (stZ k1 k2 a b z TI TO i1 i2) where
  mem := by simp
  obj := fun i h st c hc => st.objs c hc
  keep := fun i h h' st k => st.stay k
  item := by
    intro X hP hw hK hc i pins s σ H E I hf st hg
    subst hP hw hK
    obtain ⟨xs, ys, x, y, hqx, hqy, hx, hy⟩ := hg
    obtain ⟨its1, rv1, p1⟩ := inv_sq I hqx
    obtain ⟨its2, rv2, p2⟩ := inv_sq I hqy
    obtain ⟨hz, hTI, ⟨x0, y0, hTO⟩, hi1, hi2⟩ := id st
    have nea : a ≠ i1 := fun q => D.na (by rw [q]; simp)
    have neb : b ≠ i2 := fun q => D.nb (by rw [q]; simp)
    have hh : X.A.in1.handled = none := I.ok.hd hc
    have l1 : i < its1.toArray.size := by
      have q := (List.getElem?_eq_some_iff.mp hx).1
      have q2 := rv1.length
      simp only [List.size_toArray]
      omega
    have l2 : i < its2.toArray.size := by
      have q := (List.getElem?_eq_some_iff.mp hy).1
      have q2 := rv2.length
      simp only [List.size_toArray]
      omega
    have hzl : z < s.heap.objs.size := Heap.lt_size hz
    refine wpAny_pyNext_zipD2_item D.sep (draws_s (k := k1) hh i1 nea its1.toArray) (draws_s (k := k2) hh i2 neb its2.toArray) hz hTI hTO ⟨hi1, p1⟩ ⟨hi2, p2⟩ l1 l2 fun u1 u2 h' tk e1 e2 z' TO' s1' s2' hT hsz hk => ?_
    refine ⟨_, rfl, wpAny_letOwnedTupleGo_zip (s := { s with heap := h', toks := tk }) z' fun h'' z'' sb => ?_⟩
    obtain ⟨w1, hw1, r1⟩ := rv1.get hx
    obtain ⟨w2, hw2, r2⟩ := rv2.get hy
    have eu1 : u1 = w1 := by
      have q : its1.toArray[i]? = some w1 := by simpa using hw1
      exact Option.some.inj (e1.symm.trans q)
    have eu2 : u2 = w2 := by
      have q : its2.toArray[i]? = some w2 := by simpa using hw2
      exact Option.some.inj (e2.symm.trans q)
    subst eu1 eu2
    have other : ∀ c o, c ∉ [z, TI, TO, i1, i2] → s.heap.get? c = some o → h''.get? c = some o := fun c o hb q =>
      (sb.2 c (fun q' => hb (by rw [q']; simp))).trans (hk c o (fun q' => hb (by rw [q']; simp)) (fun q' => hb (by rw [q']; simp)) (fun q' => hb (by rw [q']; simp)) (fun q' => hb (by rw [q']; simp)) q)
    have hT2 : h''.get? s.heap.objs.size = some { cls := .type "tuple", data := .seq #[u1, u2] } := (sb.2 _ (Nat.ne_of_gt hzl)).trans hT
    have nobj : ObjOk X.prog X.w (upd H s.heap.objs.size (.frz { cls := .type "tuple", data := .seq #[u1, u2] } (.tup [x, y]))) h'' s.heap.objs.size (.frz { cls := .type "tuple", data := .seq #[u1, u2] } (.tup [x, y])) :=
      ⟨hT2, show 2 ≤ sizeLine by decide, [u1, u2], .cons r1 (.cons r2 .nil), _, hT2, rfl, _, rfl⟩
    have I1 := I.turnedNew (t' := tk) other hf (Nat.le_refl _) nobj
    have nz : ∀ c ∈ [z, TI, TO, i1, i2], c ≠ z → s.heap.get? c ≠ none → h''.get? c = h'.get? c := fun c _ hc _ => sb.2 c hc
    have nTIz : TI ≠ z := D.sep.TIz
    have nTOz : TO ≠ z := D.sep.TOz
    have ni1z : i1 ≠ z := Ne.symm D.sep.zi1
    have ni2z : i2 ≠ z := Ne.symm D.sep.zi2
    refine ⟨.ref s.heap.objs.size, _, I1, rfl, ⟨_, _, x, y, rfl, I.hok.fresh (Nat.le_refl _), ⟨rfl, rfl⟩, rfl, fun l hl => by rw [hl.inj hqx]; exact hx, fun l hl => by rw [hl.inj hqy]; exact hy⟩,
      ⟨z'', (sb.2 _ nTIz).trans (hk _ _ nTIz D.sep.TITO D.sep.TIi1 D.sep.TIi2 hTI), ⟨u1, u2, (sb.2 _ nTOz).trans TO'⟩, s1'.1.stay fun o q => (sb.2 _ ni1z).trans q, s2'.1.stay fun o q => (sb.2 _ ni2z).trans q⟩, fun c hcm => ?_⟩
    obtain ⟨o, ho, _⟩ := st.objs c hcm
    rw [upd_ne (Nat.ne_of_lt (Heap.lt_size ho))]
    exact (hf c hcm).1
  done := by
    intro X hP hw hK hc i pins s σ H E I hf st hg
    subst hP hw hK
    obtain ⟨xs, ys, hqx, hqy, le1, le2, hend⟩ := hg
    obtain ⟨its1, rv1, p1⟩ := inv_sq I hqx
    obtain ⟨its2, rv2, p2⟩ := inv_sq I hqy
    obtain ⟨hz, hTI, ⟨x0, y0, hTO⟩, hi1, hi2⟩ := id st
    have nea : a ≠ i1 := fun q => D.na (by rw [q]; simp)
    have neb : b ≠ i2 := fun q => D.nb (by rw [q]; simp)
    have hh : X.A.in1.handled = none := I.ok.hd hc
    have q1 := rv1.length
    have q2 := rv2.length
    refine wpAny_pyNext_zipD2_end D.sep (draws_s (k := k1) hh i1 nea its1.toArray) (draws_s (k := k2) hh i2 neb its2.toArray) hz hTI hTO ⟨hi1, p1⟩ ⟨hi2, p2⟩ (by simp only [List.size_toArray]; omega) (by simp only [List.size_toArray]; omega)
      (by simp only [List.size_toArray]; omega) fun h' tk hk => ⟨rfl, I.turnedL (t' := tk) (ch := [z, TI, TO, i1, i2]) (fun c o hb q => ?_) hf⟩
    exact hk c o (fun q' => hb (by rw [q']; simp)) (fun q' => hb (by rw [q']; simp)) (fun q' => hb (by rw [q']; simp)) (fun q' => hb (by rw [q']; simp)) q
  self := fun A i s Q E st h => wpAny_pyIter_zip st.1 h
theorem apart_nd (N : Nat) : ([N + 4, N + 2, N + 3, N, N + 1] : List Nat).Nodup := by
  simp only [List.nodup_cons, List.mem_cons, List.not_mem_nil, or_false, not_or, not_false_eq_true, and_true, List.nodup_nil]
  omega
theorem apart_out {N a : Nat} (h : a < N) : a ∉ ([N + 4, N + 2, N + 3, N, N + 1] : List Nat) := by
  simp only [List.mem_cons, List.not_mem_nil, or_false, not_or]
  omega
theorem apart_new {N a b : Nat} (ha : a < N) (hb : b < N) : Apart5 (N + 4) (N + 2) (N + 3) N (N + 1) a b := ⟨apart_nd N, apart_out ha, apart_out hb⟩
def iZ (ta : TA) : TI := fun σ H R => ta σ H fun vs H1 => ∃ k1 k2 a b xs ys, vs = [.ref a, .ref b] ∧ SqAt k1 H1 a xs ∧ SqAt k2 H1 b ys ∧ R (ItZ k1 k2 a b) H1
theorem new5 {N c : Nat} (h : c ∈ [N + 4, N + 2, N + 3, N, N + 1]) : N ≤ c := by
  simp only [List.mem_cons, List.not_mem_nil, or_false] at h
  omega
theorem pi_z {X : Cx} {e e2 : Expr} {ta : TA} {p pos tpos : Pos} {elts : List Expr} {kk : Nat} (hg : Gl X "zip") (hm : X.mg "zip" = none) (ha : PA X [e, e2] ta)
    (hs : starEach [e, e2] X.env = (false, eval e X.env) :: starEach [e2] X.env) (hpl : (backTo pos (starEach [e2] X.env)).any (·.1) = false) :
    PI X (.Tuple elts kk tpos) (.Call (.Name "zip" p) [e, e2] [] pos) (iZ ta) := by
  refine ⟨fun pins s σ H R I q => Call_ (ld_blt I hg hm boot_zip (callWith_type1 (thn (ha.run pos pins s σ H _ I q) fun us s1 ⟨vs, H1, I1, r1, q1⟩ => ?_) hs hpl))⟩
  obtain ⟨k1, k2, a, b, xs, ys, ex, hqx, hqy, z⟩ := q1
  subst ex
  obtain ⟨u1, u2, rfl, ru1, ru2⟩ := vals2 r1
  cases ru1
  cases ru2
  obtain ⟨its1, rv1, p1⟩ := inv_sq I1 hqx
  obtain ⟨its2, rv2, p2⟩ := inv_sq I1 hqy
  refine zip_begins2 (begins_s (k := k1) its1.toArray) (begins_s (k := k2) its2.toArray) p1 p2 fun h' hz hTI hTO h1 h2 hsz hk => wpAny_pyIter_zip hz ?_
  exact ⟨_, _, _, _, H1, rfl, I1.kept (t' := s1.toks) hk, turn_z (apart_new p1.lt p2.lt), ⟨hz, hTI, ⟨_, _, hTO⟩, ItS.new h1, ItS.new h2⟩, fun c hcm => I1.fpOk (new5 hcm) (I1.hok.fresh (new5 hcm)), z⟩

/-! ### enumerate -/
def ItN (k : Bool) (a : Addr) : It where
  go := fun i H => ∃ xs x, SqAt k H a xs ∧ xs[i]? = some x
  yld := fun i H v H' => ∃ T o x, v = .ref T ∧ H T = none ∧ PlT o ∧ H' = upd H T (.frz o (.tup [.int (i : Nat), x])) ∧ ∀ xs, SqAt k H a xs → xs[i]? = some x
  stop := fun i H => ∃ xs, SqAt k H a xs ∧ i = xs.length
def stN (k : Bool) (a e it : Addr) (i : Nat) (h : Heap) : Prop := (∃ old, IsEnum h e it ((i : Nat) : Int) old) ∧ ItS k h it a i
theorem turn_n {P : Program} {w : World} {K : PySem.W.Frag} {elts : List Expr} {kk : Nat} {tpos : Pos} {k : Bool} {a e it : Addr} (hne : e ≠ it) (hea : e ≠ a) (hia : a ≠ it) :
    Turn P w K (.Tuple elts kk tpos) (ItN k a) [e, it] e (stN k a e it) where
  mem := by simp
  obj := fun i h st c hc => by
    obtain ⟨⟨old, he⟩, hi⟩ := st
    rcases List.mem_cons.mp hc with q | q
    · rw [q]; exact ⟨_, he, fun v z => nomatch z⟩
    · rw [List.mem_singleton.mp q]; exact hi.obj
  keep := fun i h h' st q => by
    obtain ⟨⟨old, he⟩, hi⟩ := st
    exact ⟨⟨old, q e (by simp) _ he⟩, hi.stay fun o => q it (by simp) o⟩
  item := by
    intro X hP hw hK hc i pins s σ H E I hf st hg
    subst hP hw hK
    obtain ⟨xs, x, hqx, hx⟩ := hg
    obtain ⟨its1, rv1, p1⟩ := inv_sq I hqx
    obtain ⟨⟨old, he⟩, hi⟩ := id st
    have hh : X.A.in1.handled = none := I.ok.hd hc
    have l1 : i < its1.toArray.size := by
      have q := (List.getElem?_eq_some_iff.mp hx).1
      have q2 := rv1.length
      simp only [List.size_toArray]
      omega
    have hel : e < s.heap.objs.size := Heap.lt_size he
    have hil : it < s.heap.objs.size := let ⟨_, q, _⟩ := hi.obj; Heap.lt_size q
    have nef : e ∉ [it, a] := by simp [hne, hea]
    refine wpAny_pyNext_enum_itemD (draws_s (k := k) hh it hia its1.toArray) he ⟨hi, p1⟩ l1 hne nef fun u h' tk eu ho st' hT hsz hk => ?_
    refine ⟨_, rfl, wpAny_letOwnedTupleGo_enum (s := { s with heap := h', toks := tk + 1 }) ho fun h'' he' sb => ?_⟩
    obtain ⟨w1, hw1, r1⟩ := rv1.get hx
    have eu1 : u = w1 := by
      have q : its1.toArray[i]? = some w1 := by simpa using hw1
      exact Option.some.inj (eu.symm.trans q)
    subst eu1
    have hT2 : h''.get? s.heap.objs.size = some { cls := .type "tuple", data := .seq #[.int i tk, u] } := (sb.2 _ (Nat.ne_of_gt hel)).trans hT
    have nobj : ObjOk X.prog X.w (upd H s.heap.objs.size (.frz { cls := .type "tuple", data := .seq #[.int i tk, u] } (.tup [.int (i : Nat), x]))) h'' s.heap.objs.size (.frz { cls := .type "tuple", data := .seq #[.int i tk, u] } (.tup [.int (i : Nat), x])) :=
      ⟨hT2, show 2 ≤ sizeLine by decide, [.int i tk, u], .cons ⟨_, rfl⟩ (.cons r1 .nil), _, hT2, rfl, _, rfl⟩
    have I1 := I.turnedNew (t' := tk + 1) (ch := [e, it]) (fun c o hb q => (sb.2 c (fun q' => hb (by rw [q']; simp))).trans (hk c o (fun q' => hb (by rw [q']; simp)) (fun q' => hb (by rw [q']; simp)) q)) hf (Nat.le_refl _) nobj
    refine ⟨.ref s.heap.objs.size, _, I1, rfl, ⟨_, _, x, rfl, I.hok.fresh (Nat.le_refl _), ⟨rfl, rfl⟩, rfl, fun l hl => by rw [hl.inj hqx]; exact hx⟩, ⟨⟨u, ?_⟩, st'.1.stay fun o q => (sb.2 _ (Ne.symm hne)).trans q⟩, fun c hcm => ?_⟩
    · have e1 : ((i + 1 : Nat) : Int) = (i : Int) + 1 := by omega
      rw [e1]
      exact he'
    · have hcl : c < s.heap.objs.size := by
        rcases List.mem_cons.mp hcm with q | q
        · rw [q]; exact hel
        · rw [List.mem_singleton.mp q]; exact hil
      rw [upd_ne (Nat.ne_of_lt hcl)]
      exact (hf c hcm).1
  done := by
    intro X hP hw hK hc i pins s σ H E I hf st hg
    subst hP hw hK
    obtain ⟨xs, hqx, le1⟩ := hg
    obtain ⟨its1, rv1, p1⟩ := inv_sq I hqx
    obtain ⟨⟨old, he⟩, hi⟩ := id st
    have hh : X.A.in1.handled = none := I.ok.hd hc
    have q1 := rv1.length
    have en : i = its1.toArray.size := by simp only [List.size_toArray]; omega
    obtain ⟨f0, f1, f2, f3, f4, f5⟩ := hf it (by simp)
    exact wpAny_pyNext_enum_endD (draws_s (k := k) hh it hia its1.toArray) he (by rw [← en]; exact ⟨hi, p1⟩) fun h' eb => ⟨rfl, I.turned (t' := s.toks) (fun b o hb q => eb b o hb q) f0 f1 f3 f4 f5⟩
  self := fun A i s Q E st h => let ⟨⟨_, he⟩, _⟩ := st; wpAny_pyIter_enum he h
theorem meets_enum1 {v : Value} {o : Obj} {Hh : Heap → Prop} (B : Begins v o Hh) :
    Meets (Builtin.«enumerate.__new__» ⟨[.type "enumerate", v], []⟩) (fun _ R s => Hh s.heap ∧
      R (.ok (.ret (.ref (s.heap.push o).objs.size))) { s with heap := (s.heap.push o).push { cls := .type "enumerate", data := .fields #[.none, .bool false, .ref s.heap.objs.size, rawInt 0, .none, .none] } }) :=
  .of_wp fun prog w A R s hy => by
    obtain ⟨hp, g, d, tk, os⟩ := s
    obtain ⟨h1, h⟩ := hy
    have hsub := sub_enumerate
    have goes : ∀ {A' : Around} {E : Value → Shared → Prop} {Q : Value → Shared → Prop}, Q (.ref hp.objs.size) ⟨hp.push o, g, d, tk, os⟩ → wpAny (model prog w) A' (pyIter v) Q E ⟨hp, g, d, tk, os⟩ :=
      fun q => B.iter prog w _ _ ⟨hp, g, d, tk, os⟩ _ h1 q
    wp_walk using goes
    refine wpAny_stack_any fun stk => wpAny_pure ?_
    split
    · rename_i cl _ _ _ _ _
      cases (cl == Value.type "enumerate") <;> (wp_walk using goes; exact ⟨_, rfl, h⟩)
    · wp_walk using goes
      exact ⟨_, rfl, h⟩
theorem call_enum1 {prog : Program} {w : World} {A : Around} {E : Value → Shared → Prop} {s : Shared} {v : Value} {o : Obj} {Hh : Heap → Prop} {Q : Value → Shared → Prop} (B : Begins v o Hh) (h1 : Hh s.heap)
    (hQ : ∀ h', IsEnum h' (s.heap.objs.size + 1) s.heap.objs.size 0 .none → h'.get? s.heap.objs.size = some o → (∀ b o, s.heap.get? b = some o → h'.get? b = some o) → Q (.ref (s.heap.objs.size + 1)) { s with heap := h' }) :
    wpAny (model prog w) A (call (.type "enumerate") [v]) Q E s := by
  refine callType_new F.called_enumerate (by decide) (F.typeCall_enumerate_1 _) (F.newCall_enumerate_1 _) (fun obj => F.args_object_init_2 obj _) F.entry_enumerate_new (meets_enum1 B) ⟨h1, ?_⟩
  have sz : (s.heap.push o).objs.size = s.heap.objs.size + 1 := Heap.size_push ..
  have at1 := Heap.get?_push_size (s.heap.push o) (o := { cls := .type "enumerate", data := .fields #[.none, .bool false, .ref s.heap.objs.size, rawInt 0, .none, .none] }) rfl
  show _ ∧ _
  rw [sz] at at1 ⊢
  exact ⟨⟨_, at1, rfl⟩, hQ _ at1 (Heap.get?_push_of_some _ (Heap.get?_push_size _ B.free)) fun b u x => Heap.get?_push_of_some _ (Heap.get?_push_of_some _ x)⟩
def iN (ta : TA) : TI := fun σ H R => ta σ H fun vs H1 => ∃ k a xs, vs = [.ref a] ∧ SqAt k H1 a xs ∧ R (ItN k a) H1
theorem pi_n {X : Cx} {e : Expr} {ta : TA} {p pos tpos : Pos} {elts : List Expr} {kk : Nat} (hg : Gl X "enumerate") (hm : X.mg "enumerate" = none) (ha : PA X [e] ta)
    (hs : starEach [e] X.env = (false, eval e X.env) :: starEach [] X.env) : PI X (.Tuple elts kk tpos) (.Call (.Name "enumerate" p) [e] [] pos) (iN ta) := by
  refine ⟨fun pins s σ H R I q => Call_ (ld_blt I hg hm boot_enumerate (callWith_type1 (thn (ha.run pos pins s σ H _ I q) fun us s1 ⟨vs, H1, I1, r1, q1⟩ => ?_) hs rfl))⟩
  obtain ⟨k, a, xs, ex, hqx, z⟩ := q1
  subst ex
  obtain ⟨u1, rfl, ru1⟩ := vals1 r1
  cases ru1
  obtain ⟨its1, rv1, p1⟩ := inv_sq I1 hqx
  refine call_enum1 (begins_s (k := k) its1.toArray) p1 fun h' he h1 hk => wpAny_pyIter_enum he ?_
  have lt := p1.lt
  refine ⟨s1.heap.objs.size + 1, [s1.heap.objs.size + 1, s1.heap.objs.size], _, _, H1, rfl, I1.kept (t' := s1.toks) hk, turn_n (Nat.succ_ne_self _) (fun q => absurd lt (by rw [← q]; exact Nat.not_lt.mpr (Nat.le_succ _))) (Nat.ne_of_lt lt), ⟨⟨.none, he⟩, ItS.new h1⟩, fun c hcm => ?_, z⟩
  have hle : s1.heap.objs.size ≤ c := by
    rcases List.mem_cons.mp hcm with q | q
    · rw [q]; exact Nat.le_add_right _ _
    · rw [List.mem_singleton.mp q]; exact Nat.le_refl _
  exact I1.fpOk hle (I1.hok.fresh hle)
end Mp
set_option Elab.async false
set_option linter.all false
set_option maxRecDepth 100000
set_option maxHeartbeats 4000000
/-! Mp, part F: set(list of ints), sorted(set(..)). -/
namespace Mp
open PySem PySem.Spec PyProof.Rows L2

abbrev set0 (w : World) : Obj := { cls := .type "set", dict := none, data := .set #[] 0 (.fresh 0 0 (!w.params.followText "set-order")) }
section
variable {P : Program} {w : World} {A : Around} {E : Value → Shared → Prop} {s : Shared}
theorem call_set_lstI {l : Addr} {items : Array Value} (ns : List Int) {Q : Value → Shared → Prop} (hh : A.handled = none) (hl : s.heap.IsList l items) (hit : IntsAre items.toList ns) (hb : ns.length + 1 < scanBound)
    (fine : ∀ (h' : Heap) (tk c : Nat), SetR w h' s.heap.objs.size (fun j => decide (j ∈ ns)) c → c ≤ ns.length → (∀ b o, s.heap.get? b = some o → h'.get? b = some o) → Q (.ref s.heap.objs.size) { s with heap := h', toks := tk }) :
    wpAny (model P w) A (call (.type "set") [.ref l]) Q E s := by
  have hisz : items.size = ns.length := by
    have q := IntsAre.length hit
    rwa [Array.length_toList] at q
  obtain ⟨c, tl, hmro⟩ := F.called_set.mro
  have hmade := F.called_set.made
  have hsub := F.called_set.sub
  have h1 := F.called_set.notType
  have h2 := F.called_set.canCreate
  have hct := F.typeCall_set_1 (.ref l)
  refine wpAny_call (codeAny_of_tree ?_)
  show wpAny _ _ (callAny (.type "set") _) _ _ _
  refine wpAny_pure ⟨Code.quiet_builtin _ (by decide +kernel), codeAny_builtin F.entry_type_call ?_⟩
  rw [Around.under_plain (weight_type_call_type "set" [.ref l] []) rfl]
  repeat (any_goals (first | assumption | wp_step))
  refine codeAny_mono (code_set_led1 (.ref l) (E := E) (Q₁ := fun obj t => obj = .ref s.heap.objs.size ∧ t = { s with heap := s.heap.push (set0 w) }) ⟨rfl, rfl⟩) fun r t hr => ?_
  cases r with
  | error e => exact hr
  | ok fl =>
    cases fl with
    | ret obj =>
      obtain ⟨rfl, rfl⟩ := hr
      have hS : (s.heap.push (set0 w)).get? s.heap.objs.size = some (set0 w) := Heap.get?_push_size _ rfl
      have hT : Shared.TypeIs { s with heap := s.heap.push (set0 w) } (.ref s.heap.objs.size) "set" := ⟨_, hS, rfl⟩
      have hli := F.called_set.init.lookup
      have hbi := F.called_set.init.bind (.ref s.heap.objs.size)
      repeat (any_goals (first | assumption | wp_step))
      refine codeAny_mono (codeAny_call_builtin (R := wants (fun r t2 => r = .none ∧ ∃ h' tk c, t2 = { s with heap := h', toks := tk } ∧ SetR w h' s.heap.objs.size (fun j => decide (j ∈ ns)) c ∧ c ≤ ns.length ∧ (∀ b o, s.heap.get? b = some o → h'.get? b = some o)) E)
        F.called_set.init.plain F.entry_set_init (check_set_init_1 hT ?_)) fun r2 t2 hr2 => ?_
      · obtain ⟨⟨ocls, odict, odata, oslots⟩, hol, hcl, nl, hdl⟩ := hl
        simp only at hcl hdl
        subst hcl hdl
        have hol' : (s.heap.push (set0 w)).get? l = some { cls := .type "list", dict := odict, data := .seq items nl, slots := oslots } := Heap.get?_push_of_some _ hol
        have hl1 : (s.heap.push (set0 w)).IsList l items := ⟨_, hol', rfl, nl, rfl⟩
        have hsls := F.sub_list_set
        have hslf := F.sub_list_frozenset
        have hne : (Value.type "list" == Value.type "dict") = false := by decide
        unfold Builtin.«set.__init__» noKeywords Builtin.Frozenset.updateFrom
        generalize hPI : pyIter = PI
        wp_walk
        subst hPI
        refine wpAny_pyIter_list hl1 (wpAny_bind (wpAny_runValue ?_))
        have hlS : l < s.heap.objs.size := Heap.lt_size hol
        have h3 : A.in1.in1.in1.handled = none := by simp [hh]
        have sz : (s.heap.push (set0 w)).objs.size = s.heap.objs.size + 1 := Heap.size_push ..
        have nI : l ≠ (s.heap.push (set0 w)).objs.size := by rw [sz]; exact Nat.ne_of_lt (Nat.lt_succ_of_lt hlS)
        have nS : s.heap.objs.size ∉ [(s.heap.push (set0 w)).objs.size, l] := by
          rw [sz]
          simp only [List.mem_cons, List.not_mem_nil, or_false, not_or]
          exact ⟨Nat.ne_of_lt (Nat.lt_succ_self _), Nat.ne_of_gt hlS⟩
        have val : ∀ (i : Nat) (v : Value), items[i]? = some v → ∃ k t, ns[i]? = some k ∧ v = .int k t := fun i v hv => by
          have hi : i < ns.length := by rw [← hisz]; exact (Array.getElem?_eq_some_iff.mp hv).1
          obtain ⟨t, e⟩ := IntsAre.int_at hit i v (by rw [Array.getElem?_toList]; exact hv)
          exact ⟨ns[i], t, List.getElem?_eq_getElem hi, by rw [e, List.getD_eq_getElem?_getD, List.getElem?_eq_getElem hi] <;> rfl⟩
        refine set_update_ints ((Walks.list h3 _ l nI items).toS) s.heap.objs.size nS ns hisz hb val (items.size - 0) 0 _ (by omega) (Nat.zero_le _) ⟨⟨_, Heap.get?_push_size _ rfl, rfl, rfl⟩, hl1.push _⟩ ?hS0 ?hR
        case hS0 => exact ⟨0, Nat.le_refl 0, setR_new_at (show Heap.get? _ s.heap.objs.size = some (set0 w) from Heap.get?_push_of_some _ hS)⟩
        case hR =>
          intro s' c' hm hc' hS'
          obtain ⟨h', g2, d', tk', os'⟩ := s'
          obtain rfl : g2 = s.gens := hm.gens
          obtain rfl : d' = s.drawn := hm.drawn
          obtain rfl : os' = s.os := hm.os
          show wpAny _ _ _ _ _ _
          refine wpAny_pure ?_
          show wpAny _ _ (ret Value.none) _ _ _
          rw [hisz] at hc'
          refine wpAny_pure ⟨rfl, h', tk', c', rfl, hS', hc', fun b o e => ?_⟩
          have b0 : b < s.heap.objs.size := Heap.lt_size e
          refine hm.heap b o ?_ (Heap.get?_push_of_some _ (Heap.get?_push_of_some _ e))
          rw [sz]
          simp only [List.mem_cons, List.not_mem_nil, or_false, not_or]
          exact ⟨Nat.ne_of_lt b0, Nat.ne_of_lt (Nat.lt_succ_of_lt b0)⟩
      · cases r2 with
        | error e => exact hr2
        | ok fl2 =>
          cases fl2 with
          | ret r =>
            obtain ⟨rfl, h', tk, c', rfl, hS', hc', hk'⟩ := hr2
            repeat (any_goals (first | assumption | wp_step))
            exact fine _ _ _ hS' hc' hk'
          | _ => exact hr2.elim
    | _ => exact hr.elim
end
/-- set(xs) of ints -/
def rSetSq (w : World) : List V → Hp → VK → Prop := fun vs H Q => ∃ (k : Bool) (a : Addr) (ns : List Int), vs = [.ref a] ∧ SqAt k H a (ns.map V.int) ∧ ns.length < 64 ∧ ∀ p c, H p = none → c ≤ ns.length → Q (.ref p) (upd H p (SetO w p (fun j => decide (j ∈ ns)) c))
theorem cr_setSq {X : Cx} (hc : X.calm = true) : CallR X (.type "set") (rSetSq X.w) := by
  intro pins s σ H xs us Q I r h
  obtain ⟨k, a, ns, rfl, hq, hl, q⟩ := h
  obtain ⟨u, rfl, ru⟩ := vals1 r
  cases ru
  obtain ⟨its, rv, p⟩ := inv_sq I hq
  have hi : IntsAre its.toArray.toList ns := by rw [List.toList_toArray]; exact ints_vals rv
  have hb : ns.length + 1 < scanBound := Nat.lt_of_lt_of_le (Nat.succ_lt_succ hl) (by decide)
  have done : ∀ (h' : Heap) (tk c : Nat), SetR X.w h' s.heap.objs.size (fun j => decide (j ∈ ns)) c → c ≤ ns.length → (∀ b o, s.heap.get? b = some o → h'.get? b = some o) → EP X pins σ Q (.ref s.heap.objs.size) { s with heap := h', toks := tk } :=
    fun h' tk c R hc kp => ⟨.ref s.heap.objs.size, _, I.laid (t' := tk) kp (Nat.le_refl _) (setO_new R), rfl, q _ c (I.hok.fresh (Nat.le_refl _)) hc⟩
  cases k with
  | true => exact call_set_lstI ns (I.ok.hd hc) p hi hb done
  | false => exact call_set_tupI ns (I.ok.hd hc) p hi hb done
/-- two ascending rows with the same members are one -/
theorem asc_same : ∀ {xs ys : List Int}, xs.Pairwise (· < ·) → ys.Pairwise (· < ·) → (∀ k, k ∈ xs ↔ k ∈ ys) → xs = ys
  | [], [], _, _, _ => rfl
  | [], y :: ys, _, _, h => by have := (h y).mpr (by simp); cases this
  | x :: xs, [], _, _, h => by have := (h x).mp (by simp); cases this
  | x :: xs, y :: ys, hx, hy, h => by
    have hx' := List.pairwise_cons.mp hx
    have hy' := List.pairwise_cons.mp hy
    have e : x = y := by
      have h1 := (h x).mp (by simp)
      have h2 := (h y).mpr (by simp)
      rcases List.mem_cons.mp h1 with q | q
      · exact q
      · rcases List.mem_cons.mp h2 with z | z
        · exact z.symm
        · have a := hy'.1 x q
          have b := hx'.1 y z
          omega
    subst e
    refine congrArg _ (asc_same hx'.2 hy'.2 fun k => ⟨fun hk => ?_, fun hk => ?_⟩)
    · rcases List.mem_cons.mp ((h k).mp (List.mem_cons_of_mem _ hk)) with q | q
      · have := hx'.1 k hk; omega
      · exact q
    · rcases List.mem_cons.mp ((h k).mpr (List.mem_cons_of_mem _ hk)) with q | q
      · have := hy'.1 k hk; omega
      · exact q
theorem insI_mem (k j : Int) : ∀ xs : List Int, j ∈ insI k xs ↔ j = k ∨ j ∈ xs
  | [] => by simp [insI]
  | x :: r => by
    simp only [insI]
    split
    · simp
    · split
      · rename_i e; subst e; simp
      · simp only [List.mem_cons, insI_mem k j r]
        constructor <;> intro h <;> rcases h with h | h | h <;> simp [h]
theorem insI_asc (k : Int) : ∀ xs : List Int, xs.Pairwise (· < ·) → (insI k xs).Pairwise (· < ·)
  | [], _ => by simp [insI]
  | x :: r, h => by
    have h' := List.pairwise_cons.mp h
    simp only [insI]
    split
    · rename_i q
      refine List.pairwise_cons.mpr ⟨fun y hy => ?_, h⟩
      rcases List.mem_cons.mp hy with e | e
      · omega
      · have := h'.1 y e; omega
    · split
      · exact h
      · refine List.pairwise_cons.mpr ⟨fun y hy => ?_, insI_asc k r h'.2⟩
        rcases (insI_mem k y r).mp hy with e | e
        · omega
        · exact h'.1 y e
theorem sortI_mem (j : Int) : ∀ xs : List Int, j ∈ sortI xs ↔ j ∈ xs
  | [] => by simp [sortI]
  | x :: r => by simp [sortI, insI_mem, sortI_mem j r]
theorem sortI_asc : ∀ xs : List Int, (sortI xs).Pairwise (· < ·)
  | [] => by simp [sortI]
  | x :: r => insI_asc x _ (sortI_asc r)
theorem insI_len (k : Int) : ∀ xs : List Int, (insI k xs).length ≤ xs.length + 1
  | [] => by simp [insI]
  | x :: r => by
    simp only [insI]
    split
    · simp
    · split
      · simp
      · simp only [List.length_cons]; have := insI_len k r; omega
theorem sortI_len : ∀ xs : List Int, (sortI xs).length ≤ xs.length
  | [] => by simp [sortI]
  | x :: r => by
    simp only [sortI, List.length_cons]
    have := insI_len x (sortI r)
    have := sortI_len r
    omega
theorem insJ_perm (k : Int) : ∀ xs : List Int, (insJ k xs).Perm (k :: xs)
  | [] => .refl _
  | x :: r => by
    simp only [insJ]
    split
    · exact .refl _
    · exact ((insJ_perm k r).cons x).trans (.swap k x r)
theorem isortI_perm : ∀ xs : List Int, (isortI xs).Perm xs
  | [] => .refl _
  | x :: r => (insJ_perm x _).trans ((isortI_perm r).cons x)
theorem insJ_asc (k : Int) : ∀ xs : List Int, xs.Pairwise (· ≤ ·) → (insJ k xs).Pairwise (· ≤ ·)
  | [], _ => by simp [insJ]
  | x :: r, h => by
    have h' := List.pairwise_cons.mp h
    simp only [insJ]
    split
    · rename_i q
      refine List.pairwise_cons.mpr ⟨fun y hy => ?_, h⟩
      rcases List.mem_cons.mp hy with e | e
      · omega
      · have := h'.1 y e; omega
    · refine List.pairwise_cons.mpr ⟨fun y hy => ?_, insJ_asc k r h'.2⟩
      rcases List.mem_cons.mp ((insJ_perm k r).mem_iff.mp hy) with e | e
      · omega
      · exact h'.1 y e
theorem isortI_asc : ∀ xs : List Int, (isortI xs).Pairwise (· ≤ ·)
  | [] => by simp [isortI]
  | x :: r => insJ_asc x _ (isortI_asc r)
theorem perm_same : ∀ {xs ys : List Int}, xs.Pairwise (· ≤ ·) → ys.Pairwise (· ≤ ·) → xs.Perm ys → xs = ys
  | [], ys, _, _, p => (List.nil_perm.mp p).symm
  | x :: xs, [], _, _, p => by have := p.length_eq; simp at this
  | x :: xs, y :: ys, hx, hy, p => by
    have hx' := List.pairwise_cons.mp hx
    have hy' := List.pairwise_cons.mp hy
    have e : x = y := by
      have h1 := p.mem_iff.mp (List.mem_cons_self (a := x) (l := xs))
      have h2 := p.mem_iff.mpr (List.mem_cons_self (a := y) (l := ys))
      rcases List.mem_cons.mp h1 with q | q
      · exact q
      · rcases List.mem_cons.mp h2 with z | z
        · exact z.symm
        · have a := hy'.1 x q
          have b := hx'.1 y z
          omega
    subst e
    exact congrArg _ (perm_same hx'.2 hy'.2 (List.Perm.cons_inv p))
end Mp
set_option Elab.async false
set_option linter.all false
set_option maxRecDepth 100000
set_option maxHeartbeats 1000000
/-! Mp, part G: dict(pairs)[k]; len of an own instance. -/
namespace Mp
open PySem PySem.Spec PyProof.Rows L2

section
variable {X : Cx}
theorem paired_at {H : Hp} : ∀ {ps : List Addr} {kvs : List (Key × V)}, Paired (fun p kv => ∃ o, H p = some (.frz o (.tup [kV kv.1, kv.2]))) ps kvs → ps.length = kvs.length
  | _, _, .nil => rfl
  | _, _, .cons _ t => congrArg (· + 1) (paired_at t)
theorem vals_refs : ∀ {ps : List Addr} {us : List Value}, Vals (ps.map V.ref) us → us = ps.map Value.ref
  | [], _, .nil => rfl
  | p :: ps, _, .cons h t => by
    cases h
    rw [List.map_cons, ← vals_refs t]
/-- dict(xs) of pairs with int or text keys, a list's or a tuple's -/
def rDictSq : List V → Hp → VK → Prop := fun vs H Q => ∃ (k : Bool) (a : Addr) (ps : List Addr) (kvs : List (Key × V)), vs = [.ref a] ∧ SqAt k H a (ps.map V.ref) ∧ Paired (fun p kv => ∃ o, H p = some (.frz o (.tup [kV kv.1, kv.2]))) ps kvs ∧ kvs.length ≤ sizeLine ∧
  ∀ p, H p = none → Q (.ref p) (upd H p (.dK (mergeK [] kvs)))
theorem cr_dictSq (hc : X.calm = true) : CallR X (.type "dict") rDictSq := by
  intro pins s σ H xs us Q I r h
  obtain ⟨k, a, ps, kvs, rfl, hq, hp, hz, q⟩ := h
  have hp' : Paired (fun p kv => SqT X.K H p [kV kv.1, kv.2]) ps kvs := Paired.mapP hp fun p kv ⟨o, e⟩ => .inl (.inr ⟨o, e⟩)
  cases k with
  | true => exact call_dictP hc pins s σ H _ us Q I r ⟨a, ps, kvs, rfl, SqL.of hq, hp', q⟩
  | false =>
    obtain ⟨u, rfl, ru⟩ := vals1 r
    cases ru
    obtain ⟨ob, hq, pl⟩ := hq
    obtain ⟨its, rv, pt, _⟩ := I.tuple (.inl (.inr ⟨ob, hq⟩))
    have ei := vals_refs rv
    subst ei
    obtain ⟨prs, rel, hl, hpr⟩ := pairs_of I hp'
    -- the values as the library's pairs want them: keys as values
    have ho : s.heap.get? a = some ob := (I.hok a _ hq).1
    obtain ⟨ob', ho', hcl, n, hd⟩ := id pt
    rw [ho] at ho'
    cases ho'
    have key : ∃ vps : List (Value × Value), vps.length = prs.length ∧ ∀ (j : Nat) (q : Key × Value), prs[j]? = some q → ∃ (b : Addr) (u : Value), ps[j]? = some b ∧ IsTup s.heap b #[u, q.2] ∧ keyIs q.1 u = true ∧ vps[j]? = some (u, q.2) := by
      have pick : ∀ j : Nat, ∃ uv : Value × Value, ∀ q, prs[j]? = some q → ∃ b, ps[j]? = some b ∧ IsTup s.heap b #[uv.1, q.2] ∧ keyIs q.1 uv.1 = true ∧ uv.2 = q.2 := fun j => by
        cases e : prs[j]? with
        | none => exact ⟨(.none, .none), fun q z => by cases z⟩
        | some q =>
          obtain ⟨b, u, e1, e2, e3⟩ := hpr j q e
          exact ⟨(u, q.2), fun q' z => by cases z; exact ⟨b, e1, e2, e3, rfl⟩⟩
      refine ⟨(List.range prs.length).map fun j => Classical.choose (pick j), by simp, fun j q e => ?_⟩
      obtain ⟨b, e1, e2, e3, e4⟩ := Classical.choose_spec (pick j) q e
      have hj : j < prs.length := (List.getElem?_eq_some_iff.mp e).1
      refine ⟨b, _, e1, e2, e3, ?_⟩
      rw [List.getElem?_map, List.getElem?_range hj]
      exact congrArg some (Prod.ext rfl e4)
    obtain ⟨vps, lv, hv⟩ := key
    have lps : ps.length = prs.length := hl.symm
    have full : ∀ j k v, vps[j]? = some (k, v) → ∃ q : Key × Value, prs[j]? = some q ∧ ∃ b, ps[j]? = some b ∧ IsTup s.heap b #[k, v] ∧ keyIs q.1 k = true ∧ v = q.2 := fun j k v e => by
      have hj : j < prs.length := by rw [← lv]; exact (List.getElem?_eq_some_iff.mp e).1
      obtain ⟨b, u, e1, e2, e3, e4⟩ := hv j prs[j] (List.getElem?_eq_getElem hj)
      rw [e] at e4
      cases e4
      exact ⟨_, List.getElem?_eq_getElem hj, b, e1, e2, e3, rfl⟩
    have ok : PlainSeq "tuple" s.heap a (ps.map Value.ref).toArray ∧ PairItems s.heap (ps.map Value.ref).toArray (fun j => ps.getD j 0) vps := by
      refine ⟨⟨ob, n, ho, hcl, pl.2, hd⟩, by simp [lps, lv], fun j k v e => ?_⟩
      · obtain ⟨q, _, b, e1, e2, _, _⟩ := full j k v e
        refine ⟨by simp [e1], .inl ?_⟩
        have eg : ps.getD j 0 = b := by rw [List.getD_eq_getElem?_getD, e1]; rfl
        show s.heap.IsTuple (ps.getD j 0) #[k, v]
        rw [eg]
        exact e2
    refine PySem.call_dict_pairs (knd := mixKind X.prog X.w) (kvs := prs) (PairArg.tuple a _ (fun j => ps.getD j 0) vps) (I.ok.hd hc) ok ⟨lv.symm, fun i key v e => ?_⟩ (by rw [lv, hl, paired_at hp]; exact hz) fun h' tk hd' kp => ?_
    · obtain ⟨q, e0, _, _, _, e3, e4⟩ := full i key v e
      refine ⟨q.1, ?_, e3⟩
      rw [e0, e4]
    · have hm : (s.heap.objs.size == sysModules) = false := beq_eq_false_iff_ne.mpr (Nat.ne_of_gt I.big)
      have hlen : (mergeK [] kvs).length ≤ sizeLine := Nat.le_trans (length_mergeK kvs []) (by simpa using hz)
      exact ⟨.ref s.heap.objs.size, upd H s.heap.objs.size (.dK (mergeK [] kvs)), I.laid (t' := tk) (fun b o e => kp b o (by simp) e) (Nat.le_refl _) (show ObjOk X.prog X.w _ _ _ (.dK (mergeK [] kvs)) from ⟨hlen, hm, merged [] prs, KV.merge rel .nil, hd'⟩), rfl, q _ (I.hok.fresh (Nat.le_refl _))⟩
end
end Mp
set_option Elab.async false
set_option linter.all false
set_option maxRecDepth 100000
set_option maxHeartbeats 1000000
/-! Mp, part E: rules whose new tuples are known as objects; each operation of the evaluator against its rule. -/
namespace Mp
open PySem PySem.Spec PyProof.Rows L2

section
variable {X : Cx} {pins : List (Addr × Obj)} {σ : L2.St} {H : Hp} {s : Shared}
theorem tup_laid {its : List Value} {xs : List V} {t' : Nat} (I : Inv X pins σ H s) (r : Vals xs its) (hz : xs.length ≤ sizeLine) :
    Inv X pins σ (upd H s.heap.objs.size (.frz { cls := .type "tuple", data := .seq its.toArray } (.tup xs))) { s with heap := s.heap.push { cls := .type "tuple", data := .seq its.toArray }, toks := t' } :=
  I.laid (fun b o q => Heap.get?_push_of_some _ q) (Nat.le_refl _) ⟨Heap.get?_push_size _ rfl, hz, its, r, IsTup.new _ _⟩
end
/-- a new tuple of these -/
def kT (xs : List V) (H : Hp) (Q : VK) : Prop := ∀ p o, H p = none → PlT o → Q (.ref p) (upd H p (.frz o (.tup xs)))
def tTupF (t : TA) : TE := fun σ H Q => t σ H fun xs H1 => xs.length ≤ sizeLine ∧ kT xs H1 Q
def rTupF (K : PySem.W.Frag) : List V → Hp → VK → Prop := fun xs H Q => ∃ p ys, xs = [.ref p] ∧ ((SqL K H p ys ∧ kT ys H Q) ∨ (SqT K H p ys ∧ Q (.ref p) H))
def rCatF (K : PySem.W.Frag) : R2 := fun x y H Q => ∃ a b xs ys, x = .ref a ∧ y = .ref b ∧ SqT K H a xs ∧ SqT K H b ys ∧ xs.length + ys.length ≤ sizeLine ∧
  (xs = [] → Q (.ref b) H) ∧ (xs ≠ [] → ys = [] → Q (.ref a) H) ∧ (xs ≠ [] → ys ≠ [] → kT (xs ++ ys) H Q)
def rSlF (K : PySem.W.Frag) : V → Option Int → Option Int → Hp → VK → Prop := fun x lo hi H Q => ∃ a xs, x = .ref a ∧ SqT K H a xs ∧
  (HT.sIx xs.length 0 lo = 0 ∧ HT.sIx xs.length xs.length hi = xs.length → Q (.ref a) H) ∧ (¬ (HT.sIx xs.length 0 lo = 0 ∧ HT.sIx xs.length xs.length hi = xs.length) → kT (cutV xs lo hi) H Q)
section
variable {X : Cx} {es : List Expr} {t : TA} {pos : Pos}
theorem pe_tupF {x1} (h : PA X es t) : PE X (.Tuple es x1 pos) (tTupF t) := by
  refine ⟨fun pins s σ H Q I hq => ?_⟩
  refine wpAny_Tuple_spliced (thn (h.run pos pins s σ H _ I hq) fun us s1 ⟨xs, H1, I1, r, z, q⟩ => ⟨by rw [← r.length]; exact z, ?_⟩)
  exact ⟨.ref s1.heap.objs.size, _, tup_laid (t' := s1.toks) I1 r z, rfl, q _ _ (I1.hok.fresh (Nat.le_refl _)) ⟨rfl, rfl⟩⟩
theorem call_tupF : CallR X (.type "tuple") (rTupF X.K) := by
  intro pins s σ H xs us Q I r h
  obtain ⟨p, ys, rfl, h⟩ := h
  obtain ⟨u, rfl, rx⟩ := vals1 r
  cases rx
  rcases h with ⟨hq, q⟩ | ⟨hq, q⟩
  · obtain ⟨its, r', pl, hz⟩ := I.list hq
    have hlen := r'.length
    refine call_tuple_list pl.isList (fun h' kp => ?_) (by simp only [List.size_toArray] <;> omega)
    have I1 : Inv X pins σ H { s with heap := h' } := I.kept (t' := s.toks) kp
    exact ⟨.ref h'.objs.size, _, tup_laid (t' := s.toks) I1 r' hz, rfl, q _ _ (I1.hok.fresh (Nat.le_refl _)) ⟨rfl, rfl⟩⟩
  · obtain ⟨its, r', pl, hz⟩ := I.tuple hq
    exact call_tuple_same pl ⟨.ref p, H, I, rfl, q⟩
theorem op_catF : OpR X (binaryOp .Add) (rCatF X.K) := by
  intro pins s σ H x y v u Q I rx ry h
  obtain ⟨a, b, xs, ys, rfl, rfl, ha, hb, hz, q0, q1, q2⟩ := h
  cases rx
  cases ry
  obtain ⟨its, r1, p1, _⟩ := I.tuple ha
  obtain ⟨its2, r2, p2, _⟩ := I.tuple hb
  by_cases hx : xs = []
  · subst hx
    cases r1
    exact cat_tup0 p1 p2 ⟨.ref b, H, I, rfl, q0 rfl⟩
  · refine HT.cat_tup p1 p2 (fun z => hx (r1.nil_iff.mp z)) (fun z => ⟨.ref a, H, I, rfl, q1 hx (r2.nil_iff.mp z)⟩) (fun z => ?_) (by rw [← r1.length, ← r2.length]; exact hz)
    exact ⟨.ref s.heap.objs.size, _, tup_laid (t' := s.toks) I (r1.append r2) (by rw [List.length_append]; exact hz), rfl, q2 hx (fun w => z (r2.nil_iff.mpr w)) _ _ (I.hok.fresh (Nat.le_refl _)) ⟨rfl, rfl⟩⟩
theorem sl_tupF : SlR X (rSlF X.K) := by
  intro pins s σ H x v vl vu lo hi sl Q I rx hs pl pu h
  obtain ⟨a, xs, rfl, hx, q1, q2⟩ := h
  cases rx
  obtain ⟨its, r, ht, hz⟩ := I.tuple hx
  have hlen : its.toArray.size = xs.length := by rw [List.size_toArray]; exact r.length.symm
  refine ⟨"tuple", _, PyProof.Rows.slot_tuple_getitem.lookup, ht.typeIs, ?_⟩
  by_cases hw : HT.sIx xs.length 0 lo = 0 ∧ HT.sIx xs.length xs.length hi = xs.length
  · exact getItem_tuple_whole ht hs pl pu (by rw [hlen]; exact hw) ⟨.ref a, H, I, rfl, q1 hw⟩
  · refine HT.getItem_tuple_cut ht hs pl pu (by rw [hlen]; exact hw) ?_ (by rw [hlen]; exact hz)
    rw [hlen]
    exact ⟨.ref s.heap.objs.size, _, tup_laid (t' := s.toks) (xs := cutV xs lo hi) I ((r.drop (HT.sIx xs.length 0 lo)).take (HT.sIx xs.length xs.length hi - HT.sIx xs.length 0 lo)) (Nat.le_trans (cutV_length xs lo hi) hz), rfl, q2 hw _ _ (I.hok.fresh (Nat.le_refl _)) ⟨rfl, rfl⟩⟩
end
/-! ### comparisons of data -/
def rEqP (K : PySem.W.Frag) : R2 := fun x y H Q => ∃ d e, Dp K H x d ∧ Dp K H y e ∧ d.plain = true ∧ e.plain = true ∧ d.depth ≤ 64 ∧ Q (.bl (PyData.eqv d e)) H
def rNeP (K : PySem.W.Frag) : R2 := fun x y H Q => ∃ d e, Dp K H x d ∧ Dp K H y e ∧ d.plain = true ∧ e.plain = true ∧ d.depth ≤ 64 ∧ Q (.bl (!PyData.eqv d e)) H
def rInP (K : PySem.W.Frag) (neg : Bool) : R2 := fun x y H Q => ∃ d xs, Dp K H x d ∧ (Dp K H y (.list xs) ∨ Dp K H y (.tuple xs)) ∧ d.plain = true ∧ PyData.plainAll xs = true ∧ PyData.depthAll xs ≤ 64 ∧
  Q (.bl (if neg then !xs.any fun y => PyData.eqv y d else xs.any fun y => PyData.eqv y d)) H
section
variable {X : Cx}
theorem op_eqP (hu : X.A.units + 100 < cLine) : OpR X (compareOp .Eq) (rEqP X.K) := by
  intro pins s σ H x y v u Q I rx ry h
  obtain ⟨d, e, hd, he, pd, pe, dd, q⟩ := h
  obtain ⟨as, r1⟩ := Dp.reads I d x v hd rx
  obtain ⟨bs, r2⟩ := Dp.reads I e y u he ry
  exact SeqAt.eq_plain r1 r2 pd pe (by omega) ⟨.bl _, H, I, rfl, q⟩
theorem op_neP (hu : X.A.units + 100 < cLine) : OpR X (compareOp .NotEq) (rNeP X.K) := by
  intro pins s σ H x y v u Q I rx ry h
  obtain ⟨d, e, hd, he, pd, pe, dd, q⟩ := h
  obtain ⟨as, r1⟩ := Dp.reads I d x v hd rx
  obtain ⟨bs, r2⟩ := Dp.reads I e y u he ry
  exact SeqAt.ne_plain r1 r2 pd pe (by omega) ⟨.bl _, H, I, rfl, q⟩
theorem op_inP (hu : X.A.units + 100 < cLine) : OpR X (compareOp .In) (rInP X.K false) := by
  intro pins s σ H x y v u Q I rx ry h
  obtain ⟨d, xs, hd, he, pd, pe, dd, q⟩ := h
  obtain ⟨as, r1⟩ := Dp.reads I d x v hd rx
  rcases he with he | he
  · obtain ⟨bs, r2⟩ := Dp.reads I _ y u he ry
    exact SeqAt.in_list_data r2 r1 pe pd (by omega) ⟨.bl _, H, I, rfl, q⟩
  · obtain ⟨bs, r2⟩ := Dp.reads I _ y u he ry
    exact SeqAt.in_tuple_data r2 r1 pe pd (by omega) ⟨.bl _, H, I, rfl, q⟩
theorem op_ninP (hu : X.A.units + 100 < cLine) : OpR X (compareOp .NotIn) (rInP X.K true) := by
  intro pins s σ H x y v u Q I rx ry h
  obtain ⟨d, xs, hd, he, pd, pe, dd, q⟩ := h
  obtain ⟨as, r1⟩ := Dp.reads I d x v hd rx
  rcases he with he | he
  · obtain ⟨bs, r2⟩ := Dp.reads I _ y u he ry
    exact SeqAt.notIn_list_data r2 r1 pe pd (by omega) ⟨.bl _, H, I, rfl, q⟩
  · obtain ⟨bs, r2⟩ := Dp.reads I _ y u he ry
    exact SeqAt.notIn_tuple_data r2 r1 pe pd (by omega) ⟨.bl _, H, I, rfl, q⟩
end

/-! ### unary operations -/
theorem most_le {n : Nat} (h : n ≤ most) : n ≤ sizeLine := by rw [sizeLine_eq]; exact h
section
variable {K : PySem.W.Frag} {G : Addr → Prop} {nf : Nat → Nat} {c : Cl}
/-- an operation of the evaluator keeps to the rule r -/
def UnS (K : PySem.W.Frag) (G : Addr → Prop) (nf : Nat → Nat) (c : Cl) (o : UOp) (r : V → Hp → VK → Prop) : Prop := ∀ (m : List Addr) (h : Hm) (H : Hp) (x : V) (v res : EV) (h' : Hm) (Q : VK), Rl K G nf m h H → RE K G c.scr m h H x v → unOp c o v h = some (res, h') →
  (∀ z m' H', Stp K G nf m h H m' h' H' → RE K G c.scr m' h' H' z res → Q z H') → r x H Q
def BinS (K : PySem.W.Frag) (G : Addr → Prop) (nf : Nat → Nat) (c : Cl) (o : BOp) (r : R2) : Prop := ∀ (m : List Addr) (h : Hm) (H : Hp) (x y : V) (v w res : EV) (h' : Hm) (Q : VK), Rl K G nf m h H → RE K G c.scr m h H x v → RE K G c.scr m h H y w → binOp c o v w h = some (res, h') →
  (∀ z m' H', Stp K G nf m h H m' h' H' → RE K G c.scr m' h' H' z res → Q z H') → r x y H Q
section
variable {m : List Addr} {h : Hm} {H : Hp} {v : V} {e : EV}
theorem Rl.rdInt (rl : Rl K G nf m h H) (q : RE K G c.scr m h H v e) {i : Int} (t : rd c e h = some (.int i)) : v = .int i := (rl.rdFlat q t fun _ z => nomatch z).2
theorem Rl.rdStr (rl : Rl K G nf m h H) (q : RE K G c.scr m h H v e) {i : Str} (t : rd c e h = some (.str i)) : v = .str i := (rl.rdFlat q t fun _ z => nomatch z).2
theorem Rl.rdTup (rl : Rl K G nf m h H) (q : RE K G c.scr m h H v e) {ds : List D} (t : rd c e h = some (.tuple ds)) : Rep (Fb G m h) H (.tuple ds) v := (rl.rdFlat q t fun _ z => nomatch z).2
theorem Rl.rdLen (rl : Rl K G nf m h H) (q : RE K G c.scr m h H v e) {ds : List D} (t : rd c e h = some (.list ds)) : ds.length ≤ sizeLine := by
  obtain ⟨a, xs, e1, e2, rs, e3⟩ := rl.rdSeqL rfl q t
  rcases e3 with e3 | rfl
  · rw [rs.length]
    exact rl.sm a xs (.inl e3)
  · cases t
    rw [List.length_map]
    obtain ⟨_, _, z⟩ := q
    exact z.1
theorem Rl.rdLenT (rl : Rl K G nf m h H) (q : RE K G c.scr m h H v e) {ds : List D} (t : rd c e h = some (.tuple ds)) : ds.length ≤ sizeLine := by
  obtain ⟨a, o, xs, e1, e2, pl, n, rs⟩ := rl.rdSeqT q t
  rw [rs.length]
  exact rl.sm a xs (.inr ⟨o, e2⟩)
end
theorem us_neg : UnS K G nf c .neg (rU fun i => .int (-i)) := by
  intro m h H x v res h' Q rl re t k
  simp only [unOp] at t
  split at t
  · cases t
    exact ⟨_, re, k _ _ _ (.refl rl) rfl⟩
  · cases t
def rcAbs : List V → Hp → VK → Prop := fun xs H Q => ∃ i, xs = [.int i] ∧ Q (.int (if i < 0 then -i else i)) H
theorem us_abs : UnS K G nf c .abs (fun x => rcAbs [x]) := by
  intro m h H x v res h' Q rl re t k
  simp only [unOp] at t
  split at t
  · cases t
    cases (show x = .int _ from re)
    exact ⟨_, rfl, k _ _ _ (.refl rl) rfl⟩
  · cases t
def rcInt : List V → Hp → VK → Prop := fun xs H Q => (∃ i, xs = [.int i] ∧ Q (.int i) H) ∨ ∃ k, xs = [.bl k] ∧ Q (.int (if k then 1 else 0)) H
theorem us_int : UnS K G nf c .int (fun x => rcInt [x]) := by
  intro m h H x v res h' Q rl re t k
  simp only [unOp] at t
  split at t
  · cases t
    cases (show x = .int _ from re)
    exact .inl ⟨_, rfl, k _ _ _ (.refl rl) rfl⟩
  · cases t
    cases (show x = .bl _ from re)
    exact .inr ⟨_, rfl, k _ _ _ (.refl rl) rfl⟩
  · cases t
def rcLen (K : PySem.W.Frag) : List V → Hp → VK → Prop := fun xs H Q => ∃ x n, xs = [x] ∧ LenV K x H n ∧ Q (.int n) H
theorem us_len : UnS K G nf c .len (fun x => rcLen K [x]) := by
  intro m h H x v res h' Q rl re t k
  simp only [unOp] at t
  split at t
  · rename_i xs hx
    cases t
    obtain ⟨a, vs, rfl, q, rs, _⟩ := rl.rdSeqL rfl re hx
    refine ⟨_, xs.length, rfl, .inl ⟨vs, q, rs.length⟩, k _ _ _ (.refl rl) rfl⟩
  · rename_i xs hx
    cases t
    obtain ⟨a, o, vs, rfl, q, _, _, rs⟩ := rl.rdSeqT re hx
    exact ⟨_, xs.length, rfl, .inr ⟨vs, .inl (.inr ⟨o, q⟩), rs.length⟩, k _ _ _ (.refl rl) rfl⟩
  · rename_i y hx
    split at t
    · rename_i hs
      cases t
      cases (rl.rdStr re hx)
      exact ⟨_, _, rfl, ⟨most_le hs, rfl⟩, k _ _ _ (.refl rl) rfl⟩
    · cases t
  · cases t
theorem us_tuple : UnS K G nf c .tuple (fun x => rTupF K [x]) := by
  intro m h H x v res h' Q rl re t k
  simp only [unOp] at t
  split at t
  · rename_i xs hx
    cases t
    obtain ⟨a, vs, rfl, q, rs, _⟩ := rl.rdSeqL rfl re hx
    refine ⟨a, vs, rfl, .inl ⟨q, fun p o hp pl => ?_⟩⟩
    obtain ⟨s1, r1⟩ := rl.newTup (o := o) hp pl (by rw [← rs.length]; exact rl.rdLen re hx) rs
    exact k _ _ _ s1 r1
  · rename_i xs hx
    cases t
    have r := rl.rdTup re hx
    obtain ⟨a, o, vs, rfl, q, _, _, rs⟩ := rl.rdSeqT re hx
    exact ⟨a, vs, rfl, .inr ⟨.inl (.inr ⟨o, q⟩), k _ _ _ (.refl rl) r⟩⟩
  · cases t
def rcList (K : PySem.W.Frag) : List V → Hp → VK → Prop := fun xs H Q => ∃ p ys, xs = [.ref p] ∧ (SqL K H p ys ∨ SqT K H p ys) ∧ ∀ l, H l = none → Q (.ref l) (upd H l (.lst ys))
theorem us_list (mu : Bool) : UnS K G nf c (.list mu) (fun x => rcList K [x]) := by
  intro m h H x v res h' Q rl re t k
  simp only [unOp] at t
  split at t
  · rename_i ds hx
    have t := Option.some.inj t
    cases hr : rd c v h with
    | none => rw [hr] at hx; cases hx
    | some d =>
      rw [hr] at hx
      have fin : ∀ (a : Addr) (vs : List V), x = .ref a → (SqL K H a vs ∨ SqT K H a vs) → Reps (Fb G m h) H ds vs → ds.length ≤ sizeLine → rcList K [x] H Q := fun a vs ex q rs hz => by
        refine ⟨a, vs, by rw [ex], q, fun p hp => ?_⟩
        obtain ⟨m', s1, r1⟩ := rl.newList (sc := c.scr) mu hp (by rw [← rs.length]; exact hz) rs
        rw [t] at s1 r1
        exact k _ _ _ s1 r1
      cases d with
      | list xs =>
        cases hx
        obtain ⟨a, vs, e, q, rs, _⟩ := rl.rdSeqL rfl re hr
        exact fin a vs e (.inl q) rs (rl.rdLen re hr)
      | tuple xs =>
        cases hx
        obtain ⟨a, o, vs, e, q, _, _, rs⟩ := rl.rdSeqT re hr
        exact fin a vs e (.inr (.inl (.inr ⟨o, q⟩))) rs (rl.rdLenT re hr)
      | none => cases hx
      | bool _ => cases hx
      | int _ => cases hx
      | str _ => cases hx
      | dict _ => cases hx
  · cases t
/-- a sequence that is no script -/
theorem rdnSq {m : List Addr} {h : Hm} {H : Hp} {x : V} {v : EV} (rl : Rl K G nf m h H) (re : RE K G c.scr m h H x v) {ds : List D} (t : (Mp.rdn c v h).bind seqD = some ds) : ∃ k a vs, x = .ref a ∧ SqAt k H a vs ∧ Reps (Fb G m h) H ds vs := by
  have e : ∃ d, rd c v h = some d ∧ seqD d = some ds ∧ v ≠ .scr := by
    cases v with
    | scr => cases t
    | d x => exact ⟨x, rfl, t, nofun⟩
    | ref k =>
      cases q : rd c (.ref k) h with
      | none => simp only [Mp.rdn, q] at t; cases t
      | some d => simp only [Mp.rdn, q] at t; exact ⟨d, rfl, t, nofun⟩
  obtain ⟨d, e1, e2, e3⟩ := e
  cases d with
  | list xs =>
    cases e2
    obtain ⟨a, vs, e, q, rs, z⟩ := rl.rdSeqL rfl re e1
    rcases z with z | z
    · exact ⟨true, a, vs, e, z, rs⟩
    · exact absurd z e3
  | tuple xs =>
    cases e2
    obtain ⟨a, o, vs, e, q, pl, _, rs⟩ := rl.rdSeqT re e1
    exact ⟨false, a, vs, e, ⟨o, q, pl⟩, rs⟩
  | none => cases e2
  | bool _ => cases e2
  | int _ => cases e2
  | str _ => cases e2
  | dict _ => cases e2
end
end Mp
set_option Elab.async false
set_option linter.all false
set_option maxRecDepth 100000
set_option maxHeartbeats 1000000
/-! Mp, part H: the rest of the operations. -/
namespace Mp
open PySem PySem.Spec PyProof.Rows L2
section
variable {K : PySem.W.Frag} {G : Addr → Prop} {nf : Nat → Nat} {c : Cl} {w : World}
theorem us_sset : UnS K G nf c .sset (fun x H Q => rSetSq w [x] H fun y H1 => rSortedSet w [y] H1 Q) := by
  intro m h H x v res h' Q rl re t k
  simp only [unOp] at t
  split at t
  · rename_i ns hx
    split at t
    · rename_i hl
      cases t
      cases hs : (rdn c v h).bind seqD with
      | none => rw [hs] at hx; cases hx
      | some ds =>
        rw [hs] at hx
        obtain ⟨kd, a, vs, rfl, q, rs⟩ := rdnSq rl re hs
        have ev := rs.ints hx
        subst ev
        refine ⟨kd, a, ns, rfl, q, hl, fun p cc hp hc => ?_⟩
        refine ⟨p, _, cc, rfl, upd_same, by omega, fun ms p' asc mem ln hp' => ?_⟩
        have e : ms = sortI ns := asc_same asc (sortI_asc ns) fun j => by rw [mem, sortI_mem]; simp
        subst e
        have s1 := rl.laid (o := SetO w p (fun j => decide (j ∈ ns)) cc) hp fun xs e => by
          rcases e with e | ⟨u, e⟩ <;> cases e
        obtain ⟨s2, r2⟩ := s1.rl.newIce (ds := (sortI ns).map PyData.int) hp' (by rw [List.length_map, ln, sizeLine_eq]; omega) (reps_ints _)
        exact k _ _ _ (s1.trans s2) r2
    · cases t
  · cases t
theorem intsD'_list {x : Option D} {ns : List Int} (e : x.bind intsD' = some ns) : ∃ ds, x = some (.list ds) ∧ intsD ds = some ns := by
  cases x with
  | none => cases e
  | some d =>
    cases d with
    | list ds => exact ⟨ds, rfl, e⟩
    | none => cases e
    | bool _ => cases e
    | int _ => cases e
    | str _ => cases e
    | tuple _ => cases e
    | dict _ => cases e
theorem us_sorted : UnS K G nf c .sorted (fun x => rSorted K [x]) := by
  intro m h H x v res h' Q rl re t k
  simp only [unOp] at t
  split at t
  · rename_i ns hx
    split at t
    · rename_i hl
      cases t
      obtain ⟨ds, hr, hi⟩ := intsD'_list hx
      obtain ⟨a, vs, rfl, q, rs, _⟩ := rl.rdSeqL rfl re hr
      have ev := rs.ints hi
      subst ev
      refine ⟨a, ns, rfl, q, hl, fun ms p pm asc hp => ?_⟩
      have e : ms = isortI ns := perm_same asc (isortI_asc ns) (pm.trans (isortI_perm ns).symm)
      subst e
      obtain ⟨s2, r2⟩ := rl.newIce (ds := (isortI ns).map PyData.int) hp (by rw [List.length_map, (isortI_perm ns).length_eq, sizeLine_eq]; omega) (reps_ints _)
      exact k _ _ _ s2 r2
    · cases t
  · cases t
theorem us_all : UnS K G nf c .all (fun x => rAll K [x]) := by
  intro m h H x v res h' Q rl re t k
  simp only [unOp] at t
  split at t
  · rename_i xs hr
    split at t
    · rename_i bs hb
      cases t
      obtain ⟨a, vs, rfl, q, rs, _⟩ := rl.rdSeqL rfl re hr
      have ev := rs.bools hb
      subst ev
      exact ⟨a, bs, rfl, q, k _ _ _ (.refl rl) rfl⟩
    · cases t
  · cases t
theorem us_any : UnS K G nf c .any (fun x => rAny K [x]) := by
  intro m h H x v res h' Q rl re t k
  simp only [unOp] at t
  split at t
  · rename_i xs hr
    split at t
    · rename_i bs hb
      cases t
      obtain ⟨a, vs, rfl, q, rs, _⟩ := rl.rdSeqL rfl re hr
      have ev := rs.bools hb
      subst ev
      exact ⟨a, bs, rfl, q, k _ _ _ (.refl rl) rfl⟩
    · cases t
  · cases t
theorem us_sum : UnS K G nf c .sum (fun x => rSum K [x]) := by
  intro m h H x v res h' Q rl re t k
  simp only [unOp] at t
  split at t
  · rename_i xs hr
    split at t
    · rename_i bs hb
      cases t
      obtain ⟨a, vs, rfl, q, rs, _⟩ := rl.rdSeqL rfl re hr
      have ev := rs.ints hb
      subst ev
      exact ⟨a, bs, rfl, q, k _ _ _ (.refl rl) rfl⟩
    · cases t
  · cases t
/-- the type of what a value is to be read as -/
theorem Rl.ty {m : List Addr} {h : Hm} {H : Hp} {x : V} {v : EV} (rl : Rl K G nf m h H) (re : RE K G c.scr m h H x v) {d : D} (t : rd c v h = some d) : TyX K H x (.type (typD d)) := by
  cases d with
  | none => cases (show x = .non from (rl.rdFlat re t nofun).2); exact .base .non
  | bool b => cases (show x = .bl b from (rl.rdFlat re t nofun).2); exact .base (.bl b)
  | int i => cases (rl.rdInt re t); exact .base (.int i)
  | str s => cases (rl.rdStr re t); exact .base (.str s)
  | list ds =>
    obtain ⟨a, xs, e1, e2, rs, e3⟩ := rl.rdSeqL rfl re t
    subst e1
    rcases e3 with e3 | rfl
    · exact .base (.lst e3)
    · obtain ⟨a', e', z⟩ := re
      cases e'
      obtain ⟨_, ⟨o, e, _⟩ | ⟨o, its, n, lk, hc, _⟩⟩ := z
      · exact .base (.frz e)
      · exact .kList lk hc
  | tuple ds =>
    obtain ⟨a, o, xs, e1, e2, pl, n, rs⟩ := rl.rdSeqT re t
    subst e1
    exact .fTuple e2
  | dict kvs => exact (rl.rdFlat re t nofun).2.elim
def rcIsi (K : PySem.W.Frag) (ts : List String) : V → Hp → VK → Prop := match ts with
  | [t] => fun x => rIsi K [x, .ty t]
  | ts => fun x H Q => ts.length ≤ sizeLine ∧ ∀ p, H p = none → rIsiT K [x, .ref p] (upd H p (.tup (ts.map V.ty))) Q
theorem kit_one (t c : String) (ht : t ∈ ["NoneType", "bool", "int", "str", "list", "tuple"]) (hc : c ∈ ["int", "bool", "str", "list", "tuple"]) : PySem.W.kitOne K (.type t) (.type c) = some (isi1 t c) := by
  simp only [List.mem_cons, List.not_mem_nil, or_false] at ht hc
  rcases ht with rfl | rfl | rfl | rfl | rfl | rfl <;> rcases hc with rfl | rfl | rfl | rfl | rfl <;> kernel_rfl
theorem typD_mem {d : D} (p : d.plain = true) : typD d ∈ ["NoneType", "bool", "int", "str", "list", "tuple"] := by
  cases d <;> first | (simp [typD]; done) | cases p
theorem kit_any (t : String) (ht : t ∈ ["NoneType", "bool", "int", "str", "list", "tuple"]) : ∀ cs : List String, cs.all okTy = true → PySem.W.kitAny K (.type t) (cs.map Value.type) = some (cs.any (isi1 t))
  | [], _ => rfl
  | c :: r, e => by
    rw [List.all_cons, Bool.and_eq_true] at e
    have h1 := kit_one (K := K) t c ht (by simpa [okTy] using e.1)
    have h2 := kit_any t ht r e.2
    rw [List.map_cons, List.any_cons]
    simp only [PySem.W.kitAny, h1]
    cases isi1 t c with
    | true => rfl
    | false => exact h2
theorem clsv_all : ∀ ts : List String, Paired ClsV (ts.map V.ty) (ts.map Value.type)
  | [] => .nil
  | t :: r => .cons (.ty t) (clsv_all r)
theorem us_isi (ts : List String) (hz : ts.length ≤ sizeLine) : UnS K G nf c (.isi ts) (rcIsi K ts) := by
  intro m h H x v res h' Q rl re t k
  simp only [unOp] at t
  split at t
  · rename_i ok
    split at t
    · rename_i d hr
      cases t
      have ty := rl.ty re hr
      have pl := (rl.rdDp rfl re hr).2
      have one : ∀ t, ts = [t] → rIsi K [x, .ty t] H Q := fun t e => by
        subst e
        refine ⟨x, .ty t, _, _, _, rfl, .ty t, ty, ?_, k _ _ _ (.refl rl) rfl⟩
        rw [kit_one _ _ (typD_mem pl) (by simpa [okTy] using ok)]
        simp
      have many : ts.length ≤ sizeLine ∧ ∀ p, H p = none → rIsiT K [x, .ref p] (upd H p (.tup (ts.map V.ty))) Q := ⟨hz, fun p hp => by
        have s1 := rl.laid (o := .tup (ts.map V.ty)) hp fun xs e => by
          rcases e with e | ⟨u, e⟩ <;> cases e
        refine ⟨x, p, ts.map V.ty, _, ts.map Value.type, _, rfl, upd_same, ?_, ?_, kit_any _ (typD_mem pl) ts ok, k _ _ _ s1 rfl⟩
        · exact clsv_all ts
        · exact s1.rl.ty (re.keep s1) hr⟩
      match ts, one, many with
      | [t], one, _ => exact one t rfl
      | [], _, many => exact many
      | _ :: _ :: _, _, many => exact many
    · cases t
  · cases t
def rFld (K : PySem.W.Frag) (f : Str) : V → Hp → VK → Prop := fun x H Q => ∃ a C dx fs v, x = .ref a ∧ H a = some (.ins C dx fs) ∧ Cls K C ∧ NoAttr K C f ∧ fs.lookup f = some v ∧ Q v H
theorem lookup_reps {N : Addr → Prop} {H : Hp} {f : Str} {d : D} : ∀ {fs : List (Str × D)} {vs : List (Str × V)}, vs.map (·.1) = fs.map (·.1) → Reps N H (fs.map (·.2)) (vs.map (·.2)) → fs.lookup f = some d → ∃ v, vs.lookup f = some v ∧ Rep N H d v
  | [], _, _, _, e => by cases e
  | (g, x) :: fs, [], k, _, _ => by cases k
  | (g, x) :: fs, (g', y) :: vs, k, r, e => by
    have k1 : g' = g := (List.cons.inj k).1
    have k2 := (List.cons.inj k).2
    subst k1
    rw [List.lookup_cons] at e ⊢
    cases q : f == g' with
    | true =>
      rw [q] at e
      cases e
      exact ⟨y, rfl, r.1⟩
    | false =>
      rw [q] at e
      exact lookup_reps k2 r.2 e
theorem lookup_mem {f : Str} {d : D} : ∀ {fs : List (Str × D)}, fs.lookup f = some d → ∃ p ∈ fs, p.1 = f
  | (g, x) :: fs, e => by
    rw [List.lookup_cons] at e
    cases q : f == g with
    | true => exact ⟨(g, x), List.mem_cons_self .., (by simpa using q : f = g).symm⟩
    | false =>
      rw [q] at e
      obtain ⟨p, h1, h2⟩ := lookup_mem e
      exact ⟨p, List.mem_cons_of_mem _ h1, h2⟩
theorem us_fld (f : Str) : UnS K G nf c (.fld f) (rFld K f) := by
  intro m h H x v res h' Q rl re t k
  simp only [unOp] at t
  split at t
  · rename_i j
    split at t
    · rename_i n fs hk
      split at t
      · rename_i d hd
        cases t
        obtain ⟨a, rfl, ha⟩ := re
        obtain ⟨dx, vs, p, q, cl, na, rs⟩ := rl.ob j a _ ha hk
        obtain ⟨v, e1, e2⟩ := lookup_reps q rs hd
        obtain ⟨p', h1, h2⟩ := lookup_mem hd
        exact ⟨a, _, dx, vs, v, rfl, p, cl, by rw [← h2]; exact na p' h1, e1, k _ _ _ (.refl rl) e2⟩
      · cases t
    · cases t
  · cases t

/-! ### binary operations -/
def rAddS : R2 := fun x y H Q => ∃ i j, x = .str i ∧ y = .str j ∧ i.length + j.length ≤ sizeLine ∧ Q (.str (i ++ j)) H
def rAdd (K : PySem.W.Frag) : R2 := fun x y H Q => rI0 (fun i j => .int (i + j)) x y H Q ∨ rAddS x y H Q ∨ rCat x y H Q ∨ rCatF K x y H Q
theorem op_addA {X : Cx} : OpR X (binaryOp .Add) (rAdd X.K) := op_add.or (OpR.or op_add_str (op_cat.or op_catF))
theorem nil_of {α β : Type} {xs : List α} {ys : List β} (h : xs.length = ys.length) (e : ys = []) : xs = [] := by
  subst e
  exact List.eq_nil_of_length_eq_zero h
theorem bs_add (mu : Bool) : BinS K G nf c (.add mu) (rAdd K) := by
  intro m h H x y v w res h' Q rl r1 r2 t k
  simp only [binOp] at t
  split at t
  · rename_i i j h1 h2
    cases t
    cases rl.rdInt r1 h1
    cases rl.rdInt r2 h2
    exact .inl ⟨i, j, rfl, rfl, k _ _ _ (.refl rl) rfl⟩
  · rename_i i j h1 h2
    split at t
    · rename_i hl
      cases t
      cases rl.rdStr r1 h1
      cases rl.rdStr r2 h2
      exact .inr (.inl ⟨i, j, rfl, rfl, most_le hl, k _ _ _ (.refl rl) rfl⟩)
    · cases t
  · rename_i xs ys h1 h2
    have ns : v ≠ .scr ∧ w ≠ .scr := by
      constructor
      · rintro rfl; simp only at t; cases t
      · rintro rfl; cases v <;> simp only at t <;> cases t
    have t' : (if xs.length + ys.length ≤ most then some (mkL mu (xs ++ ys) h) else none) = some (res, h') := by
      cases v with
      | scr => exact absurd rfl ns.1
      | d _ => cases w with
        | scr => exact absurd rfl ns.2
        | d _ => exact t
        | ref _ => exact t
      | ref _ => cases w with
        | scr => exact absurd rfl ns.2
        | d _ => exact t
        | ref _ => exact t
    split at t'
    · rename_i hl
      have t2 := Option.some.inj t'
      obtain ⟨a, vs, rfl, _, rs, z1⟩ := rl.rdSeqL rfl r1 h1
      obtain ⟨b, ws, rfl, _, rs2, z2⟩ := rl.rdSeqL rfl r2 h2
      have z1 := z1.resolve_right ns.1
      have z2 := z2.resolve_right ns.2
      have hz : vs.length + ws.length ≤ sizeLine := by rw [← rs.length, ← rs2.length]; exact most_le hl
      refine .inr (.inr (.inl ⟨a, b, vs, ws, rfl, rfl, z1, z2, hz, fun p hp => ?_⟩))
      obtain ⟨m', s1, q1⟩ := rl.newList (sc := c.scr) mu hp (by rw [List.length_append]; exact hz) (rs.append rs2)
      rw [t2] at s1 q1
      exact k _ _ _ s1 q1
    · cases t'
  · rename_i xs ys h1 h2
    split at t
    · rename_i hl
      cases t
      have R1 := rl.rdTup r1 h1
      have R2 := rl.rdTup r2 h2
      obtain ⟨a, o1, vs, rfl, z1, _, _, rs⟩ := rl.rdSeqT r1 h1
      obtain ⟨b, o2, ws, rfl, z2, _, _, rs2⟩ := rl.rdSeqT r2 h2
      have hz : vs.length + ws.length ≤ sizeLine := by rw [← rs.length, ← rs2.length]; exact most_le hl
      refine .inr (.inr (.inr ⟨a, b, vs, ws, rfl, rfl, .inl (.inr ⟨o1, z1⟩), .inl (.inr ⟨o2, z2⟩), hz, fun e => ?_, fun _ e => ?_, fun _ _ p o hp pl => ?_⟩))
      · have e' := nil_of rs.length e
        subst e'
        exact k _ _ _ (.refl rl) R2
      · have e' := nil_of rs2.length e
        subst e'
        rw [List.append_nil] at k
        exact k _ _ _ (.refl rl) R1
      · obtain ⟨s1, q1⟩ := rl.newTup hp pl (by rw [List.length_append]; exact hz) (rs.append rs2)
        exact k _ _ _ s1 q1
    · cases t
  · cases t
end
end Mp
set_option Elab.async false
set_option linter.all false
set_option maxRecDepth 100000
set_option maxHeartbeats 1000000
/-! Mp, part I: the rest of the binary operations; slices. -/
namespace Mp
open PySem PySem.Spec PyProof.Rows L2
section
variable {K : PySem.W.Frag} {G : Addr → Prop} {nf : Nat → Nat} {c : Cl} {w : World}
theorem bs_sub : BinS K G nf c .sub (rI0 fun i j => .int (i - j)) := by
  intro m h H x y v w res h' Q rl r1 r2 t k
  simp only [binOp] at t
  split at t
  · cases t
    exact ⟨_, _, r1, r2, k _ _ _ (.refl rl) rfl⟩
  · cases t
theorem bs_mul : BinS K G nf c .mul (rI CMul fun i j => .int (i * j)) := by
  intro m h H x y v w res h' Q rl r1 r2 t k
  simp only [binOp] at t
  split at t
  · split at t
    · rename_i hc
      cases t
      exact ⟨_, _, r1, r2, hc, k _ _ _ (.refl rl) rfl⟩
    · cases t
  · cases t
theorem bs_fdiv : BinS K G nf c .fdiv (rI CDiv fun i j => .int (i / j)) := by
  intro m h H x y v w res h' Q rl r1 r2 t k
  simp only [binOp] at t
  split at t
  · split at t
    · rename_i hc
      cases t
      exact ⟨_, _, r1, r2, hc, k _ _ _ (.refl rl) rfl⟩
    · cases t
  · cases t
theorem bs_mod : BinS K G nf c .mod (rI (fun _ j => 0 < j) fun i j => .int (i % j)) := by
  intro m h H x y v w res h' Q rl r1 r2 t k
  simp only [binOp] at t
  split at t
  · split at t
    · rename_i hc
      cases t
      exact ⟨_, _, r1, r2, hc, k _ _ _ (.refl rl) rfl⟩
    · cases t
  · cases t
theorem bs_pow : BinS K G nf c .pow (rI CPow fun i j => .int (i ^ j.toNat)) := by
  intro m h H x y v w res h' Q rl r1 r2 t k
  simp only [binOp] at t
  split at t
  · split at t
    · rename_i hc
      cases t
      exact ⟨_, _, r1, r2, hc, k _ _ _ (.refl rl) rfl⟩
    · cases t
  · cases t
theorem bs_lt : BinS K G nf c .lt (rI0 fun i j => .bl (decide (i < j))) := by
  intro m h H x y v w res h' Q rl r1 r2 t k
  simp only [binOp] at t
  split at t
  · cases t
    exact ⟨_, _, r1, r2, k _ _ _ (.refl rl) rfl⟩
  · cases t
theorem bs_le : BinS K G nf c .le (rI0 fun i j => .bl (decide (i ≤ j))) := by
  intro m h H x y v w res h' Q rl r1 r2 t k
  simp only [binOp] at t
  split at t
  · cases t
    exact ⟨_, _, r1, r2, k _ _ _ (.refl rl) rfl⟩
  · cases t
theorem bs_gt : BinS K G nf c .gt (rI0 fun i j => .bl (decide (j < i))) := by
  intro m h H x y v w res h' Q rl r1 r2 t k
  simp only [binOp] at t
  split at t
  · cases t
    exact ⟨_, _, r1, r2, k _ _ _ (.refl rl) rfl⟩
  · cases t
theorem bs_ge : BinS K G nf c .ge (rI0 fun i j => .bl (decide (j ≤ i))) := by
  intro m h H x y v w res h' Q rl r1 r2 t k
  simp only [binOp] at t
  split at t
  · cases t
    exact ⟨_, _, r1, r2, k _ _ _ (.refl rl) rfl⟩
  · cases t
theorem eqD_some {a b : D} {k : Bool} (t : eqD a b = some k) : a.depth ≤ 64 ∧ PyData.eqv a b = k := by
  unfold eqD at t
  split at t
  · exact ⟨by assumption, Option.some.inj t⟩
  · cases t
theorem bs_eq : BinS K G nf c .eq (rEqP K) := by
  intro m h H x y v w res h' Q rl r1 r2 t k
  simp only [binOp] at t
  split at t
  · rename_i a b h1 h2
    split at t
    · rename_i b' he
      cases t
      obtain ⟨d1, e1⟩ := eqD_some he
      obtain ⟨p1, q1⟩ := rl.rdDp rfl r1 h1
      obtain ⟨p2, q2⟩ := rl.rdDp rfl r2 h2
      exact ⟨a, b, p1, p2, q1, q2, d1, k _ _ _ (.refl rl) (congrArg V.bl e1)⟩
    · cases t
  · cases t
theorem bs_ne : BinS K G nf c .ne (rNeP K) := by
  intro m h H x y v w res h' Q rl r1 r2 t k
  simp only [binOp] at t
  split at t
  · rename_i a b h1 h2
    split at t
    · rename_i b' he
      cases t
      obtain ⟨d1, e1⟩ := eqD_some he
      obtain ⟨p1, q1⟩ := rl.rdDp rfl r1 h1
      obtain ⟨p2, q2⟩ := rl.rdDp rfl r2 h2
      exact ⟨a, b, p1, p2, q1, q2, d1, k _ _ _ (.refl rl) (congrArg V.bl (congrArg not e1))⟩
    · cases t
  · cases t
theorem Rl.seqDp {m : List Addr} {h : Hm} {H : Hp} {x : V} {v : EV} (rl : Rl K G nf m h H) (re : RE K G c.scr m h H x v) {ds : List D} (t : (rd c v h).bind seqD = some ds) : (Dp K H x (.list ds) ∨ Dp K H x (.tuple ds)) ∧ PyData.plainAll ds = true := by
  cases e : rd c v h with
  | none => rw [e] at t; cases t
  | some d =>
    rw [e] at t
    obtain ⟨p, q⟩ := rl.rdDp rfl re e
    cases d with
    | list xs => cases t; exact ⟨.inl p, q⟩
    | tuple xs => cases t; exact ⟨.inr p, q⟩
    | none => cases t
    | bool _ => cases t
    | int _ => cases t
    | str _ => cases t
    | dict _ => cases t
theorem bs_in : BinS K G nf c .isin (rInP K false) := by
  intro m h H x y v w res h' Q rl r1 r2 t k
  simp only [binOp] at t
  split at t
  · rename_i a xs h1 h2
    split at t
    · rename_i hd
      cases t
      obtain ⟨p1, q1⟩ := rl.rdDp rfl r1 h1
      obtain ⟨p2, q2⟩ := rl.seqDp r2 h2
      exact ⟨a, xs, p1, p2, q1, q2, of_decide_eq_true hd, k _ _ _ (.refl rl) rfl⟩
    · cases t
  · cases t
theorem bs_nin : BinS K G nf c .notin (rInP K true) := by
  intro m h H x y v w res h' Q rl r1 r2 t k
  simp only [binOp] at t
  split at t
  · rename_i a xs h1 h2
    split at t
    · rename_i hd
      cases t
      obtain ⟨p1, q1⟩ := rl.rdDp rfl r1 h1
      obtain ⟨p2, q2⟩ := rl.seqDp r2 h2
      exact ⟨a, xs, p1, p2, q1, q2, of_decide_eq_true hd, k _ _ _ (.refl rl) rfl⟩
    · cases t
  · cases t
theorem RE.non {m : List Addr} {h : Hm} {H : Hp} {x : V} {v : EV} (re : RE K G c.scr m h H x v) : x = .non ↔ v = .d .none := by
  cases v with
  | d d =>
    cases d with
    | none => exact ⟨fun _ => rfl, fun _ => re⟩
    | bool b => cases (show x = .bl b from re); exact ⟨nofun, nofun⟩
    | int b => cases (show x = .int b from re); exact ⟨nofun, nofun⟩
    | str b => cases (show x = .str b from re); exact ⟨nofun, nofun⟩
    | list _ => obtain ⟨a, xs, rfl, _⟩ := re; exact ⟨nofun, nofun⟩
    | tuple _ => obtain ⟨a, o, xs, rfl, _⟩ := re; exact ⟨nofun, nofun⟩
    | dict _ => exact re.elim
  | ref j => obtain ⟨a, rfl, _⟩ := re; exact ⟨nofun, nofun⟩
  | scr => obtain ⟨a, rfl, _⟩ := re; exact ⟨nofun, nofun⟩
def rIsN : R2 := fun x y H Q => y = .non ∧ Q (.bl (decide (x = .non))) H
def rNotN : R2 := fun x y H Q => y = .non ∧ Q (.bl (!decide (x = .non))) H
theorem bs_isn : BinS K G nf c .isn rIsN := by
  intro m h H x y v w res h' Q rl r1 r2 t k
  simp only [binOp] at t
  split at t
  · refine ⟨r2, ?_⟩
    split at t
    · cases t
      exact k _ _ _ (.refl rl) (congrArg V.bl (decide_eq_true r1))
    · rename_i hv
      cases t
      exact k _ _ _ (.refl rl) (congrArg V.bl (decide_eq_false fun e => hv (r1.non.mp e)))
  · cases t
theorem bs_isnn : BinS K G nf c .isnn rNotN := by
  intro m h H x y v w res h' Q rl r1 r2 t k
  simp only [binOp] at t
  split at t
  · refine ⟨r2, ?_⟩
    split at t
    · cases t
      refine k _ _ _ (.refl rl) (congrArg V.bl ?_)
      rw [decide_eq_true (show x = .non from r1)]
      rfl
    · rename_i hv
      cases t
      refine k _ _ _ (.refl rl) (congrArg V.bl ?_)
      rw [decide_eq_false fun e => hv (r1.non.mp e)]
      rfl
  · cases t
theorem ixN_eq (n : Nat) (i : Int) : Mp.ixN n i = L2.ixN n i := rfl
theorem atI_reps {N : Addr → Prop} {H : Hp} {ds : List D} {vs : List V} {i : Int} {d : D} (rs : Reps N H ds vs) (e : Mp.atI ds i = some d) : ∃ v, L2.atI vs i = some v ∧ Rep N H d v := by
  unfold Mp.atI at e
  unfold L2.atI
  rw [← ixN_eq, ← rs.length]
  cases q : Mp.ixN ds.length i with
  | none => rw [q] at e; cases e
  | some j =>
    rw [q] at e
    exact rs.get e
theorem bs_ix : BinS K G nf c .ix (rIx K) := by
  intro m h H x y v w res h' Q rl r1 r2 t k
  simp only [binOp] at t
  split at t
  · rename_i xs i h1
    split at t
    · rename_i d hd
      cases t
      cases (show y = .int i from r2)
      cases e : rd c v h with
      | none => rw [e] at h1; cases h1
      | some s =>
        rw [e] at h1
        cases s with
        | list ys =>
          cases h1
          obtain ⟨a, vs, rfl, q, rs, _⟩ := rl.rdSeqL rfl r1 e
          obtain ⟨u, e1, e2⟩ := atI_reps rs hd
          exact .inl ⟨a, vs, i, u, rfl, rfl, q, e1, k _ _ _ (.refl rl) e2⟩
        | tuple ys =>
          cases h1
          obtain ⟨a, o, vs, rfl, q, _, _, rs⟩ := rl.rdSeqT r1 e
          obtain ⟨u, e1, e2⟩ := atI_reps rs hd
          exact .inr (.inl ⟨a, vs, i, u, rfl, rfl, .inl (.inr ⟨o, q⟩), e1, k _ _ _ (.refl rl) e2⟩)
        | none => cases h1
        | bool _ => cases h1
        | int _ => cases h1
        | str _ => cases h1
        | dict _ => cases h1
    · cases t
  · cases t
def rcMax2 : List V → Hp → VK → Prop := fun xs H Q => ∃ i j, xs = [.int i, .int j] ∧ Q (.int (if j > i then j else i)) H
def rcMin2 : List V → Hp → VK → Prop := fun xs H Q => ∃ i j, xs = [.int i, .int j] ∧ Q (.int (if j < i then j else i)) H
theorem bs_max : BinS K G nf c .max (fun x y => rcMax2 [x, y]) := by
  intro m h H x y v w res h' Q rl r1 r2 t k
  simp only [binOp] at t
  split at t
  · rename_i i j
    cases t
    cases (show x = .int i from r1)
    cases (show y = .int j from r2)
    exact ⟨i, j, rfl, k _ _ _ (.refl rl) rfl⟩
  · cases t
theorem bs_min : BinS K G nf c .min (fun x y => rcMin2 [x, y]) := by
  intro m h H x y v w res h' Q rl r1 r2 t k
  simp only [binOp] at t
  split at t
  · rename_i i j
    cases t
    cases (show x = .int i from r1)
    cases (show y = .int j from r2)
    exact ⟨i, j, rfl, k _ _ _ (.refl rl) rfl⟩
  · cases t
theorem pre_tyV {m : List Addr} {h : Hm} {H : Hp} {x : V} {v : EV} (rl : Rl K G nf m h H) (re : RE K G c.scr m h H x v) (p : pre.isL v h = true) : tyV K "list" x H := by
  cases v with
  | d _ => cases p
  | scr => cases p
  | ref j =>
    obtain ⟨a, rfl, ha⟩ := re
    simp only [pre.isL] at p
    split at p
    · rename_i xs hk
      obtain ⟨vs, q, _⟩ := rl.ob j a _ ha hk
      exact .inl ⟨rfl, vs, .of q⟩
    · cases p
theorem bs_apnd : BinS K G nf c .apnd (fun x y => rAppend x [y]) := by
  intro m h H x y v w res h' Q rl r1 r2 t k
  simp only [binOp] at t
  split at t
  · rename_i j
    split at t
    · rename_i d h1 ht
      split at t
      · rename_i xs hk
        split at t
        · rename_i hl
          cases t
          obtain ⟨s1, q1⟩ := rl.toD r2 ht
          obtain ⟨a, rfl, ha⟩ := r1
          have ha' := s1.at_ ha
          obtain ⟨vs, q, rs⟩ := s1.rl.ob j a _ ha' hk
          have hz : vs.length < sizeLine := by rw [← rs.length, sizeLine_eq]; exact hl
          refine ⟨a, vs, y, rfl, rfl, q, hz, ?_⟩
          have s2 := s1.rl.write (o' := .lst (xs ++ [d])) (u := .lst (vs ++ [y])) ha' hk rfl rfl nofun nofun nofun ⟨_, upd_same, Reps.keep (s1.rl.writeKeeps ha' hk rfl) _ _ (rs.append ⟨q1, trivial⟩)⟩ fun zs e => by
            rcases e with e | ⟨u, e⟩
            · cases e
              rw [List.length_append, List.length_singleton]
              exact hz
            · cases e
          exact k _ _ _ (s1.trans s2) rfl
        · cases t
      · cases t
    · cases t
  · cases t
theorem bs_popat : BinS K G nf c .popat (fun x y => rPopAt x [y]) := by
  intro m h H x y v w res h' Q rl r1 r2 t k
  simp only [binOp] at t
  split at t
  · rename_i j i
    split at t
    · rename_i xs hk
      split at t
      · rename_i n hn
        split at t
        · rename_i d hd
          split at t
          · rename_i hl
            cases t
            obtain ⟨a, rfl, ha⟩ := r1
            cases (show y = .int i from r2)
            obtain ⟨vs, q, rs⟩ := rl.ob j a _ ha hk
            obtain ⟨u, e1, e2⟩ := rs.get hd
            obtain ⟨h1, h2, h3, h4⟩ := ixN_seq hn
            have hm : (xs.length : Int) ≤ 16777216 := by have : xs.length ≤ 16777216 := hl; omega
            refine ⟨a, vs, i, n, u, rfl, rfl, q, by omega, by omega, by rw [← rs.length]; exact h1, e1, ?_⟩
            have s2 := rl.write (o' := .lst (xs.eraseIdx n)) (u := .lst (vs.eraseIdx n)) ha hk rfl rfl nofun nofun nofun ⟨_, upd_same, Reps.keep (rl.writeKeeps ha hk rfl) _ _ (rs.eraseIdx n)⟩ fun zs e => by
              rcases e with e | ⟨u, e⟩
              · cases e
                exact Nat.le_trans (len_erase vs n) (rl.sm a vs (.inl q))
              · cases e
            refine k _ _ _ s2 ?_
            have kp := rl.writeKeeps (u := .lst (vs.eraseIdx n)) ha hk rfl
            exact Rep.keep s2.keeps d u e2
          · cases t
        · cases t
      · cases t
    · cases t
  · cases t
theorem cutD_reps {N : Addr → Prop} {H : Hp} {ds : List D} {vs : List V} (lo hi : Option Int) (rs : Reps N H ds vs) : Reps N H (cutD ds lo hi) (cutV vs lo hi) := by
  unfold cutD cutV
  rw [← rs.length]
  exact Reps.take _ (Reps.drop _ rs)
/-- slices -/
def rSl (K : PySem.W.Frag) : V → Option Int → Option Int → Hp → VK → Prop := fun x lo hi H Q => rSlL K x lo hi H Q ∨ rSlF K x lo hi H Q
theorem sl_any {X : Cx} : SlR X (rSl X.K) := SlR.or sl_list sl_tupF
theorem cut_whole {α : Type} {xs : List α} {a b : Nat} (h : a = 0 ∧ b = xs.length) : (xs.drop a).take (b - a) = xs := by
  obtain ⟨rfl, rfl⟩ := h
  simp
theorem slS (mu : Bool) (lo hi : Option Int) : ∀ (m : List Addr) (h : Hm) (H : Hp) (x : V) (v res : EV) (h' : Hm) (Q : VK), Rl K G nf m h H → RE K G c.scr m h H x v → slOp c mu v lo hi h = some (res, h') →
    (∀ z m' H', Stp K G nf m h H m' h' H' → RE K G c.scr m' h' H' z res → Q z H') → rSl K x lo hi H Q := by
  intro m h H x v res h' Q rl re t k
  simp only [slOp] at t
  split at t
  · rename_i ds hr
    have t2 := Option.some.inj t
    obtain ⟨a, vs, rfl, q, rs, _⟩ := rl.rdSeqL rfl re hr
    refine .inl ⟨a, vs, rfl, q, fun p hp => ?_⟩
    obtain ⟨m', s1, q1⟩ := rl.newList (sc := c.scr) mu hp (Nat.le_trans (cutV_length vs lo hi) (by rw [← rs.length]; exact rl.rdLen re hr)) (cutD_reps lo hi rs)
    rw [t2] at s1 q1
    exact k _ _ _ s1 q1
  · rename_i ds hr
    cases t
    have R := rl.rdTup re hr
    obtain ⟨a, o, vs, rfl, q, pl, _, rs⟩ := rl.rdSeqT re hr
    refine .inr ⟨a, vs, rfl, .inl (.inr ⟨o, q⟩), fun hw => k _ _ _ (.refl rl) ?_, fun hw p o hp pl => ?_⟩
    · have e : cutD ds lo hi = ds := by
        unfold cutD
        refine cut_whole ?_
        rw [← rs.length] at hw
        exact hw
      rw [e]
      exact R
    · obtain ⟨s1, q1⟩ := rl.newTup hp pl (Nat.le_trans (cutV_length vs lo hi) (by rw [← rs.length]; exact rl.rdLenT re hr)) (cutD_reps lo hi rs)
      exact k _ _ _ s1 q1
  · cases t
/-! ### dict(pairs)[k] -/
def mkP (p : Int × D) : D := .tuple [.int p.1, p.2]
theorem pairsOk_map : ∀ (ds : List D), pairsOk ds = true → ∃ js : List (Int × D), ds = js.map mkP := by
  intro ds
  induction ds with
  | nil => intro _; exact ⟨[], rfl⟩
  | cons d ds ih =>
    intro e
    unfold pairsOk at e
    split at e
    · rename_i h; cases h
    · rename_i j x r h
      cases h
      obtain ⟨js, rfl⟩ := ih e
      exact ⟨(j, x) :: js, rfl⟩
    · cases e
theorem pairAt_cons (i j : Int) (x : D) (r : List D) : pairAt i (mkP (j, x) :: r) = (match pairAt i r with
    | none => none
    | some (some w) => some (some w)
    | some none => some (if j = i then some x else none)) := rfl
theorem pairs_of {N : Addr → Prop} {H : Hp} : ∀ (js : List (Int × D)) (vs : List V), Reps N H (js.map mkP) vs → ∃ (ps : List Addr) (kvs : List (Key × V)), vs = ps.map V.ref ∧ Paired (fun p kv => ∃ o, H p = some (.frz o (.tup [kV kv.1, kv.2]))) ps kvs ∧ kvs.length = js.length ∧
    ∀ (i : Int), (∀ d, pairAt i (js.map mkP) = some (some d) → ∃ v, (∀ acc : List (Key × V), valV (mergeK acc kvs) (.inl i) = some v) ∧ Rep N H d v) ∧
      (pairAt i (js.map mkP) = some none → ∀ acc : List (Key × V), valV (mergeK acc kvs) (.inl i) = valV acc (.inl i)) := by
  intro js
  induction js with
  | nil =>
    intro vs r
    cases vs with
    | nil => exact ⟨[], [], rfl, .nil, rfl, fun i => ⟨fun d e => (nomatch e), fun _ acc => rfl⟩⟩
    | cons _ _ => exact r.elim
  | cons p js ih =>
    intro vs r
    obtain ⟨j, x⟩ := p
    cases vs with
    | nil => exact r.elim
    | cons v vs =>
      obtain ⟨ps, kvs, e1, p1, l1, k1⟩ := ih vs r.2
      have r1 : Rep N H (.tuple [.int j, x]) v := r.1
      obtain ⟨a, o, xs, rfl, ha, pl, n, rs⟩ := r1
      cases xs with
      | nil => exact rs.elim
      | cons y1 xs =>
        cases xs with
        | nil => exact rs.2.elim
        | cons y2 xs =>
          cases xs with
          | cons _ _ => exact rs.2.2.elim
          | nil =>
            have ey : y1 = .int j := rs.1
            subst ey
            refine ⟨a :: ps, (.inl j, y2) :: kvs, by rw [e1]; rfl, .cons ⟨o, ha⟩ p1, congrArg (· + 1) l1, fun i => ?_⟩
            rw [List.map_cons, pairAt_cons]
            obtain ⟨k2, k3⟩ := k1 i
            have step : ∀ acc : List (Key × V), mergeK acc ((.inl j, y2) :: kvs) = mergeK (putK acc (.inl j) y2) kvs := fun acc => rfl
            cases hp : pairAt i (js.map mkP) with
            | none => exact ⟨fun d e => (nomatch e), fun e => nomatch e⟩
            | some od =>
              cases od with
              | some w =>
                refine ⟨fun d e => ?_, fun e => nomatch e⟩
                cases e
                obtain ⟨v, h1, h2⟩ := k2 _ hp
                exact ⟨v, fun acc => h1 _, h2⟩
              | none =>
                have k3 := k3 hp
                refine ⟨fun d e => ?_, fun e acc => ?_⟩
                · have e := Option.some.inj e
                  split at e
                  · rename_i hji
                    cases e
                    refine ⟨y2, fun acc => ?_, rs.2.1⟩
                    rw [step, k3, valV_put, if_pos (by rw [hji])]
                  · cases e
                · have e := Option.some.inj e
                  split at e
                  · cases e
                  · rename_i hji
                    rw [step, k3, valV_put, if_neg (fun z => hji (Sum.inl.inj z).symm)]
/-- dict(x), then [y] -/
theorem dgetS {m : List Addr} {h : Hm} {H : Hp} {x : V} {v : EV} {Q : VK} (rl : Rl K G nf m h H) (re : RE K G c.scr m h H x v) (p : pre .dget v h = true)
    (k : ∀ z H', Stp K G nf m h H m h H' → (∀ m2 h2 H2 y w res h3 (Q2 : VK), Stp K G nf m h H' m2 h2 H2 → RE K G c.scr m2 h2 H2 y w → binOp c .dget v w h2 = some (res, h3) →
      (∀ u m3 H3, Stp K G nf m2 h2 H2 m3 h3 H3 → RE K G c.scr m3 h3 H3 u res → Q2 u H3) → ∃ a kvs k' u, z = .ref a ∧ H2 a = some (.dK kvs) ∧ y = kV k' ∧ valV kvs k' = some u ∧ Q2 u H2) → Q z H') : rDictSq [x] H Q := by
  have one : ∀ ds, seqD (match v with | .d x => x | _ => .none) = some ds → pairsOk ds = true → ds.length ≤ most → ∀ kd a vs, x = .ref a → SqAt kd H a vs → Reps (Fb G m h) H ds vs → (∃ dd, v = .d dd ∧ seqD dd = some ds) → rDictSq [x] H Q := fun ds e1 e2 e3 kd a vs ex hq rs ⟨dd, ev, es⟩ => by
    obtain ⟨js, rfl⟩ := pairsOk_map ds e2
    obtain ⟨ps, kvs, e4, p1, l1, k1⟩ := pairs_of js vs rs
    subst e4
    have hz : kvs.length ≤ sizeLine := by
      rw [l1]
      rw [List.length_map] at e3
      exact most_le e3
    refine ⟨kd, a, ps, kvs, by rw [ex], hq, p1, hz, fun q hq' => ?_⟩
    have s1 := rl.laid (o := .dK (mergeK [] kvs)) hq' fun xs e => by
      rcases e with e | ⟨u, e⟩ <;> cases e
    refine k _ _ s1 fun m2 h2 H2 y w res h3 Q2 s2 rw t fin => ?_
    subst ev
    simp only [binOp] at t
    split at t
    · rename_i xs i hx
      split at t
      · rename_i d hd
        split at t
        · cases t
          have hx' : seqD dd = some xs := hx
          rw [es] at hx'
          cases hx'
          cases (show y = .int i from rw)
          obtain ⟨u, h1, h2⟩ := (k1 i).1 d hd
          refine ⟨q, _, .inl i, u, rfl, s2.keep q _ upd_same fun z => ?_, rfl, h1 [], fin _ _ _ (.refl s2.rl) (Rep.keep (s1.trans s2).keeps _ _ h2)⟩
          obtain ⟨o, e⟩ := rl.th q z.mem
          rw [hq'] at e
          cases e
        · cases t
      · cases t
    · cases t
  cases v with
  | ref _ => cases p
  | scr => cases p
  | d dd =>
    cases dd with
    | list ds =>
      have p' : (pairsOk ds && decide (ds.length ≤ most)) = true := p
      rw [Bool.and_eq_true, decide_eq_true_eq] at p'
      obtain ⟨a, xs, e1, e2, n, rs⟩ := re
      exact one ds rfl p'.1 p'.2 true a xs e1 e2 rs ⟨_, rfl, rfl⟩
    | tuple ds =>
      have p' : (pairsOk ds && decide (ds.length ≤ most)) = true := p
      rw [Bool.and_eq_true, decide_eq_true_eq] at p'
      obtain ⟨a, o, xs, e1, e2, pl, n, rs⟩ := re
      exact one ds rfl p'.1 p'.2 false a xs e1 ⟨o, e2, pl⟩ rs ⟨_, rfl, rfl⟩
    | none => cases p
    | bool _ => cases p
    | int _ => cases p
    | str _ => cases p
    | dict _ => cases p
end
end Mp
set_option Elab.async false
set_option linter.all false
set_option maxRecDepth 100000
set_option maxHeartbeats 1000000
/-! Mp, part J: what the evaluator says of an expression as a reading; the readings of the rules follow from it. -/
namespace Mp
open PySem PySem.Spec PyProof.Rows L2 StX

/-- what is fixed through a def's body: the written part, the evaluator's closure, the least address of a zip of one's own -/
structure Pm where
  K : PySem.W.Frag
  c : Cl
  n0 : Nat
/-- a state of the evaluator and a state of the machine -/
structure Sx (P : Pm) (G : Addr → Prop) (nf : Nat → Nat) (m : List Addr) (h : Hm) (H : Hp) (σ : L2.St) (env : Ev) : Prop where
  rl : Rl P.K G nf m h H
  es : REs P.K G P.c.scr m h H σ env
  ba : P.c.base ≤ h.length
  yo : ∀ k, P.c.base ≤ k → nf k = P.n0
section
variable {P : Pm} {G : Addr → Prop} {nf : Nat → Nat} {m m' : List Addr} {h h' : Hm} {H H' : Hp} {σ : L2.St} {env : Ev} {Q : VK}
theorem Sx.go (x : Sx P G nf m h H σ env) (s : Stp P.K G nf m h H m' h' H') : Sx P G nf m' h' H' σ env := ⟨s.rl, x.es.keep s, Nat.le_trans x.ba (s.lenle x.rl), x.yo⟩
/-- an expression's reading -/
def tE (P : Pm) (e : ME) : TE := fun σ H Q => ∃ (G : Addr → Prop) (nf : Nat → Nat) (m : List Addr) (h : Hm) (env : Ev) (r : EV) (h' : Hm), Sx P G nf m h H σ env ∧ evE P.c e env h = some (r, h') ∧
  ∀ v m' H', Stp P.K G nf m h H m' h' H' → RE P.K G P.c.scr m' h' H' v r → Q v H'
/-- .. as a test -/
def tT (P : Pm) (e : ME) : TT := fun σ H Q => ∃ (G : Addr → Prop) (nf : Nat → Nat) (m : List Addr) (h : Hm) (env : Ev) (r : EV) (h' : Hm) (b : Bool), Sx P G nf m h H σ env ∧ evE P.c e env h = some (r, h') ∧ tru P.c r h' = some b ∧
  ∀ m' H', Stp P.K G nf m h H m' h' H' → Q b H'
/-- items, known as data -/
def tDs (P : Pm) (es : MEs) : TA := fun σ H Q => ∃ (G : Addr → Prop) (nf : Nat → Nat) (m : List Addr) (h : Hm) (env : Ev) (ds : List D) (h' : Hm), Sx P G nf m h H σ env ∧ evDs P.c es env h = some (ds, h') ∧
  ∀ vs m' H', Stp P.K G nf m h H m' h' H' → Reps (Fb G m' h') H' ds vs → Q vs H'
/-- arguments -/
def REv (K : PySem.W.Frag) (G : Addr → Prop) (sc : List Int) (m : List Addr) (h : Hm) (H : Hp) : List V → List EV → Prop
  | [], [] => True
  | v :: vs, e :: es => RE K G sc m h H v e ∧ REv K G sc m h H vs es
  | _, _ => False
theorem REv.keep {K : PySem.W.Frag} {sc : List Int} (s : Stp K G nf m h H m' h' H') : ∀ {vs : List V} {es : List EV}, REv K G sc m h H vs es → REv K G sc m' h' H' vs es
  | [], [], _ => trivial
  | _ :: _, _ :: _, r => ⟨r.1.keep s, REv.keep s r.2⟩
  | [], _ :: _, r => r.elim
  | _ :: _, [], r => r.elim
def tVs (P : Pm) (es : MEs) : TA := fun σ H Q => ∃ (G : Addr → Prop) (nf : Nat → Nat) (m : List Addr) (h : Hm) (env : Ev) (rs : List EV) (h' : Hm), Sx P G nf m h H σ env ∧ evVs P.c es env h = some (rs, h') ∧
  ∀ vs m' H', Stp P.K G nf m h H m' h' H' → REv P.K G P.c.scr m' h' H' vs rs → Q vs H'

theorem bind_some {α β : Type} {x : Option α} {f : α → Option β} {b : β} (e : x.bind f = some b) : ∃ a, x = some a ∧ f a = some b := Option.bind_eq_some_iff.mp e
theorem tE_var {i : Nat} (t : tE P (.var i) σ H Q) : tVar i σ H Q := by
  obtain ⟨G, nf, m, h, env, r, h', x, ev, k⟩ := t
  simp only [evE] at ev
  split at ev
  · rename_i v hv
    cases ev
    obtain ⟨u, e1, e2⟩ := x.es.2 i _ hv
    exact ⟨u, e1, k _ _ _ (.refl x.rl) e2⟩
  · cases ev
/-- a constant's value -/
def cV : D → Option V
  | .none => some .non
  | .bool b => some (.bl b)
  | .int i => some (.int i)
  | .str s => some (.str s)
  | _ => none
theorem cV_rep {N : Addr → Prop} {d : D} {v : V} (e : cV d = some v) : Rep N H d v := by
  cases d <;> first | (cases e; rfl) | cases e
theorem tE_con {d : D} {v : V} (e : cV d = some v) (t : tE P (.con d) σ H Q) : tC v σ H Q := by
  obtain ⟨G, nf, m, h, env, r, h', x, ev, k⟩ := t
  cases ev
  exact k _ _ _ (.refl x.rl) (cV_rep e)
theorem tE_gl {s : Str} {d : D} {v : V} (e : cV d = some v) (t : tE P (.gl s d) σ H Q) : tC v σ H Q := by
  obtain ⟨G, nf, m, h, env, r, h', x, ev, k⟩ := t
  cases ev
  exact k _ _ _ (.refl x.rl) (cV_rep e)
theorem tE_un {o : UOp} {a : ME} {r : V → Hp → VK → Prop} (u : ∀ G nf, UnS P.K G nf P.c o r) (t : tE P (.un o a) σ H Q) : tUn r (tE P a) σ H Q := by
  obtain ⟨G, nf, m, h, env, res, h', x, ev, k⟩ := t
  simp only [evE] at ev
  obtain ⟨⟨v1, h1⟩, e1, e2⟩ := bind_some ev
  exact ⟨G, nf, m, h, env, v1, h1, x, e1, fun y m1 H1 s1 q1 => u G nf m1 h1 H1 y v1 res h' Q s1.rl q1 e2 fun z m2 H2 s2 q2 => k z m2 H2 (s1.trans s2) q2⟩
theorem bin_ev {o : BOp} {a b : ME} {env : Ev} {h : Hm} {c : Cl} {r : EV × Hm} (ev : evE c (.bin o a b) env h = some r) : ∃ v1 h1 v2 h2, evE c a env h = some (v1, h1) ∧ pre o v1 h1 = true ∧ evE c b env h1 = some (v2, h2) ∧ binOp c o v1 v2 h2 = some r := by
  simp only [evE] at ev
  obtain ⟨⟨v1, h1⟩, e1, e2⟩ := bind_some ev
  split at e2
  · rename_i p
    obtain ⟨⟨v2, h2⟩, e3, e4⟩ := bind_some e2
    exact ⟨v1, h1, v2, h2, e1, p, e3, e4⟩
  · cases e2
theorem tE_bin {o : BOp} {a b : ME} {r : R2} (u : ∀ G nf, BinS P.K G nf P.c o r) (t : tE P (.bin o a b) σ H Q) : tOp r (tE P a) (tE P b) σ H Q := by
  obtain ⟨G, nf, m, h, env, res, h', x, ev, k⟩ := t
  obtain ⟨v1, h1, v2, h2, e1, p, e2, e3⟩ := bin_ev ev
  exact ⟨G, nf, m, h, env, v1, h1, x, e1, fun y m1 H1 s1 q1 => ⟨G, nf, m1, h1, env, v2, h2, x.go s1, e2, fun z m2 H2 s2 q2 =>
    u G nf m2 h2 H2 y z v1 v2 res h' Q s2.rl (q1.keep s2) q2 e3 fun w m3 H3 s3 q3 => k w m3 H3 (s1.trans (s2.trans s3)) q3⟩⟩
/-- a method of a list: append, pop -/
theorem tE_lm {o : BOp} {a b : ME} {r : V → List V → Hp → VK → Prop} (hp : ∀ v h, pre o v h = pre.isL v h) (u : ∀ G nf, BinS P.K G nf P.c o (fun x y => r x [y])) (t : tE P (.bin o a b) σ H Q) : tBM P.K "list" r (tE P a) (tCons (tE P b) tNil) σ H Q := by
  obtain ⟨G, nf, m, h, env, res, h', x, ev, k⟩ := t
  obtain ⟨v1, h1, v2, h2, e1, p, e2, e3⟩ := bin_ev ev
  rw [hp] at p
  exact ⟨G, nf, m, h, env, v1, h1, x, e1, fun y m1 H1 s1 q1 => ⟨pre_tyV s1.rl q1 p, G, nf, m1, h1, env, v2, h2, x.go s1, e2, fun z m2 H2 s2 q2 =>
    u G nf m2 h2 H2 y z v1 v2 res h' Q s2.rl (q1.keep s2) q2 e3 fun w m3 H3 s3 q3 => k w m3 H3 (s1.trans (s2.trans s3)) q3⟩⟩
theorem tE_dget {a b : ME} (t : tE P (.bin .dget a b) σ H Q) : tDGet (tCB rDictSq (tCons (tE P a) tNil)) (tE P b) σ H Q := by
  obtain ⟨G, nf, m, h, env, res, h', x, ev, k⟩ := t
  obtain ⟨v1, h1, v2, h2, e1, p, e2, e3⟩ := bin_ev ev
  refine ⟨G, nf, m, h, env, v1, h1, x, e1, fun y m1 H1 s1 q1 => ?_⟩
  show rDictSq [y] H1 (fun z H2 => tE P b σ H2 fun w H3 => ∃ a v, z = V.ref a ∧ DGet H3 a w (some v) ∧ Q v H3)
  refine dgetS (c := P.c) s1.rl q1 p fun z H2 s2 fin => ⟨G, nf, m1, h1, env, v2, h2, (x.go s1).go s2, e2, fun w m3 H3 s3 q3 => ?_⟩
  obtain ⟨a, kvs, k', u, ez, ha, ey, hv, q⟩ := fin m3 h2 H3 w v2 res h' Q s3 q3 e3 fun u m4 H4 s4 q4 => k u m4 H4 (s1.trans (s2.trans (s3.trans s4))) q4
  refine ⟨a, u, ez, ?_, q⟩
  rw [ey, ← hv]
  exact .k ha
theorem tE_chain {o1 o2 : BOp} {a b d : ME} {r1 r2 : R2} (u1 : ∀ G nf, BinS P.K G nf P.c o1 r1) (u2 : ∀ G nf, BinS P.K G nf P.c o2 r2) (t : tE P (.chain o1 o2 a b d) σ H Q) : tChain r1 r2 (tE P a) (tE P b) (tE P d) σ H Q := by
  obtain ⟨G, nf, m, h, env, res, h', x, ev, k⟩ := t
  simp only [evE] at ev
  obtain ⟨⟨v1, h1⟩, e1, ev⟩ := bind_some ev
  obtain ⟨⟨v2, h2⟩, e2, ev⟩ := bind_some ev
  obtain ⟨⟨v3, h3⟩, e3, ev⟩ := bind_some ev
  refine ⟨G, nf, m, h, env, v1, h1, x, e1, fun y m1 H1 s1 q1 => ⟨G, nf, m1, h1, env, v2, h2, x.go s1, e2, fun z m2 H2 s2 q2 => ?_⟩⟩
  refine u1 G nf m2 h2 H2 y z v1 v2 v3 h3 _ s2.rl (q1.keep s2) q2 e3 fun w m3 H3 s3 q3 => ?_
  simp only at ev
  split at ev
  · refine ⟨true, q3, ?_⟩
    rw [if_pos rfl]
    obtain ⟨⟨v4, h4⟩, e4, ev⟩ := bind_some ev
    exact ⟨G, nf, m3, h3, env, v4, h4, ((x.go s1).go s2).go s3, e4, fun w' m4 H4 s4 q4 =>
      u2 G nf m4 h4 H4 z w' v2 v4 res h' Q s4.rl ((q2.keep s3).keep s4) q4 ev fun w2 m5 H5 s5 q5 => k w2 m5 H5 (s1.trans (s2.trans (s3.trans (s4.trans s5)))) q5⟩
  · refine ⟨false, q3, ?_⟩
    rw [if_neg (by decide)]
    cases ev
    exact k _ _ _ (s1.trans (s2.trans s3)) rfl
  · cases ev
theorem tE_and {a b : ME} (t : tE P (.and a b) σ H Q) : tAndT P.K (tE P a) (tE P b) σ H Q := by
  obtain ⟨G, nf, m, h, env, res, h', x, ev, k⟩ := t
  simp only [evE] at ev
  obtain ⟨⟨v1, h1⟩, e1, ev⟩ := bind_some ev
  obtain ⟨tb, e2, ev⟩ := bind_some ev
  refine ⟨G, nf, m, h, env, v1, h1, x, e1, fun y m1 H1 s1 q1 => ⟨tb, s1.rl.tru rfl q1 e2, ?_⟩⟩
  cases tb with
  | true =>
    rw [if_pos rfl]
    exact ⟨G, nf, m1, h1, env, res, h', x.go s1, ev, fun z m2 H2 s2 q2 => k z m2 H2 (s1.trans s2) q2⟩
  | false =>
    rw [if_neg (by decide)]
    cases ev
    exact k y m1 H1 s1 q1
theorem tE_or {a b : ME} (t : tE P (.or a b) σ H Q) : tOrT P.K (tE P a) (tE P b) σ H Q := by
  obtain ⟨G, nf, m, h, env, res, h', x, ev, k⟩ := t
  simp only [evE] at ev
  obtain ⟨⟨v1, h1⟩, e1, ev⟩ := bind_some ev
  obtain ⟨tb, e2, ev⟩ := bind_some ev
  refine ⟨G, nf, m, h, env, v1, h1, x, e1, fun y m1 H1 s1 q1 => ⟨tb, s1.rl.tru rfl q1 e2, ?_⟩⟩
  cases tb with
  | false =>
    rw [if_neg (by decide)]
    exact ⟨G, nf, m1, h1, env, res, h', x.go s1, ev, fun z m2 H2 s2 q2 => k z m2 H2 (s1.trans s2) q2⟩
  | true =>
    rw [if_pos rfl]
    cases ev
    exact k y m1 H1 s1 q1
theorem tE_not {a : ME} (t : tE P (.not a) σ H Q) : tNotT P.K (tE P a) σ H Q := by
  obtain ⟨G, nf, m, h, env, res, h', x, ev, k⟩ := t
  simp only [evE] at ev
  obtain ⟨⟨v1, h1⟩, e1, ev⟩ := bind_some ev
  obtain ⟨tb, e2, ev⟩ := bind_some ev
  cases ev
  exact ⟨G, nf, m, h, env, v1, h1, x, e1, fun y m1 H1 s1 q1 => ⟨tb, s1.rl.tru rfl q1 e2, k _ _ _ s1 rfl⟩⟩
theorem tE_ite {t a b : ME} (hq : tE P (.ite t a b) σ H Q) : tIf (tT P t) (tE P a) (tE P b) σ H Q := by
  obtain ⟨G, nf, m, h, env, res, h', x, ev, k⟩ := hq
  simp only [evE] at ev
  obtain ⟨⟨v1, h1⟩, e1, ev⟩ := bind_some ev
  obtain ⟨tb, e2, ev⟩ := bind_some ev
  refine ⟨G, nf, m, h, env, v1, h1, tb, x, e1, e2, fun m1 H1 s1 => ?_⟩
  cases tb with
  | true =>
    rw [if_pos rfl]
    exact ⟨G, nf, m1, h1, env, res, h', x.go s1, ev, fun z m2 H2 s2 q2 => k z m2 H2 (s1.trans s2) q2⟩
  | false =>
    rw [if_neg (by decide)]
    exact ⟨G, nf, m1, h1, env, res, h', x.go s1, ev, fun z m2 H2 s2 q2 => k z m2 H2 (s1.trans s2) q2⟩
/-! tests -/
theorem tT_truth {e : ME} {Q : Bool → Hp → Prop} (t : tT P e σ H Q) : tE P e σ H fun x H' => ∃ k, TruV P.K x H' k ∧ Q k H' := by
  obtain ⟨G, nf, m, h, env, r, h', b, x, ev, tr, k⟩ := t
  exact ⟨G, nf, m, h, env, r, h', x, ev, fun v m1 H1 s1 q1 => ⟨b, s1.rl.tru rfl q1 tr, k m1 H1 s1⟩⟩
theorem tT_and {a b : ME} {Q : Bool → Hp → Prop} (t : tT P (.and a b) σ H Q) : tAnd (tT P a) (tT P b) σ H Q := by
  obtain ⟨G, nf, m, h, env, res, h', tb, x, ev, tr, k⟩ := t
  simp only [evE] at ev
  obtain ⟨⟨v1, h1⟩, e1, ev⟩ := bind_some ev
  obtain ⟨tb1, e2, ev⟩ := bind_some ev
  refine ⟨G, nf, m, h, env, v1, h1, tb1, x, e1, e2, fun m1 H1 s1 => ?_⟩
  cases tb1 with
  | true =>
    rw [if_pos rfl]
    exact ⟨G, nf, m1, h1, env, res, h', tb, x.go s1, ev, tr, fun m2 H2 s2 => k m2 H2 (s1.trans s2)⟩
  | false =>
    rw [if_neg (by decide)]
    cases ev
    rw [e2] at tr
    cases tr
    exact k m1 H1 s1
theorem tT_or {a b : ME} {Q : Bool → Hp → Prop} (t : tT P (.or a b) σ H Q) : tOr (tT P a) (tT P b) σ H Q := by
  obtain ⟨G, nf, m, h, env, res, h', tb, x, ev, tr, k⟩ := t
  simp only [evE] at ev
  obtain ⟨⟨v1, h1⟩, e1, ev⟩ := bind_some ev
  obtain ⟨tb1, e2, ev⟩ := bind_some ev
  refine ⟨G, nf, m, h, env, v1, h1, tb1, x, e1, e2, fun m1 H1 s1 => ?_⟩
  cases tb1 with
  | false =>
    rw [if_neg (by decide)]
    exact ⟨G, nf, m1, h1, env, res, h', tb, x.go s1, ev, tr, fun m2 H2 s2 => k m2 H2 (s1.trans s2)⟩
  | true =>
    rw [if_pos rfl]
    cases ev
    rw [e2] at tr
    cases tr
    exact k m1 H1 s1
theorem tT_not {a : ME} {Q : Bool → Hp → Prop} (t : tT P (.not a) σ H Q) : tNot (tT P a) σ H Q := by
  obtain ⟨G, nf, m, h, env, res, h', tb, x, ev, tr, k⟩ := t
  simp only [evE] at ev
  obtain ⟨⟨v1, h1⟩, e1, ev⟩ := bind_some ev
  obtain ⟨tb1, e2, ev⟩ := bind_some ev
  cases ev
  cases tr
  exact ⟨G, nf, m, h, env, v1, h1, tb1, x, e1, e2, fun m1 H1 s1 => k m1 H1 s1⟩
/-- a comparison gives a bool -/
def isCmp : BOp → Bool
  | .eq => true | .ne => true | .lt => true | .le => true | .gt => true | .ge => true | .isin => true | .notin => true | .isn => true | .isnn => true
  | _ => false
theorem cmp_bool {c : Cl} {o : BOp} {v w res : EV} {h h' : Hm} (hc : isCmp o = true) (t : binOp c o v w h = some (res, h')) : ∃ b, res = .d (.bool b) := by
  cases o <;> first | (cases hc; done) | skip
  all_goals
    simp only [binOp] at t
    repeat' split at t
    all_goals first | (cases t; exact ⟨_, rfl⟩) | cases t
theorem tT_cmp {o : BOp} {a b : ME} {Q : Bool → Hp → Prop} {r : R2} (hc : isCmp o = true) (u : ∀ G nf, BinS P.K G nf P.c o r) (t : tT P (.bin o a b) σ H Q) : tTest (tOp r (tE P a) (tE P b)) σ H Q := by
  obtain ⟨G, nf, m, h, env, res, h', tb, x, ev, tr, k⟩ := t
  refine tE_bin u ⟨G, nf, m, h, env, res, h', x, ev, fun v m1 H1 s1 q1 => ?_⟩
  obtain ⟨v1, h1', v2, h2, e1, p, e2, e3⟩ := bin_ev ev
  obtain ⟨bb, rfl⟩ := cmp_bool hc e3
  cases tr
  exact ⟨_, q1, k m1 H1 s1⟩
theorem tT_chain {o1 o2 : BOp} {a b d : ME} {Q : Bool → Hp → Prop} {r1 r2 : R2} (hc : isCmp o2 = true) (u1 : ∀ G nf, BinS P.K G nf P.c o1 r1) (u2 : ∀ G nf, BinS P.K G nf P.c o2 r2) (t : tT P (.chain o1 o2 a b d) σ H Q) : tTest (tChain r1 r2 (tE P a) (tE P b) (tE P d)) σ H Q := by
  obtain ⟨G, nf, m, h, env, res, h', tb, x, ev, tr, k⟩ := t
  refine tE_chain u1 u2 ⟨G, nf, m, h, env, res, h', x, ev, fun v m1 H1 s1 q1 => ?_⟩
  have hb : ∃ b, res = .d (.bool b) := by
    simp only [evE] at ev
    obtain ⟨⟨v1, h1⟩, e1, ev⟩ := bind_some ev
    obtain ⟨⟨v2, h2⟩, e2, ev⟩ := bind_some ev
    obtain ⟨⟨v3, h3⟩, e3, ev⟩ := bind_some ev
    simp only at ev
    split at ev
    · obtain ⟨⟨v4, h4⟩, e4, ev⟩ := bind_some ev
      exact cmp_bool hc ev
    · cases ev
      exact ⟨_, rfl⟩
    · cases ev
  obtain ⟨bb, rfl⟩ := hb
  cases tr
  exact ⟨_, q1, k m1 H1 s1⟩

/-! items, arguments -/
theorem tDs_nil {Q : List V → Hp → Prop} (t : tDs P .nil σ H Q) : tNil σ H Q := by
  obtain ⟨G, nf, m, h, env, ds, h', x, ev, k⟩ := t
  cases ev
  exact k [] _ _ (.refl x.rl) trivial
theorem tDs_cons {e : ME} {es : MEs} {Q : List V → Hp → Prop} (t : tDs P (.cons e es) σ H Q) : tCons (tE P e) (tDs P es) σ H Q := by
  obtain ⟨G, nf, m, h, env, ds, h', x, ev, k⟩ := t
  simp only [evDs] at ev
  obtain ⟨⟨v1, h1⟩, e1, ev⟩ := bind_some ev
  obtain ⟨⟨d1, h2⟩, e2, ev⟩ := bind_some ev
  obtain ⟨⟨ds2, h3⟩, e3, ev⟩ := bind_some ev
  cases ev
  refine ⟨G, nf, m, h, env, v1, h1, x, e1, fun y m1 H1 s1 q1 => ?_⟩
  obtain ⟨s2, q2⟩ := s1.rl.toD q1 e2
  exact ⟨G, nf, m1, h2, env, ds2, h3, (x.go s1).go s2, e3, fun vs m3 H3 s3 q3 => k _ m3 H3 (s1.trans (s2.trans s3)) ⟨Rep.keep s3.keeps _ _ q2, q3⟩⟩
/-- a sequence kept as it is -/
theorem frzS {c : Cl} {v : V} {e : EV} {ds : List D} {sc : List Int} {K : PySem.W.Frag} (rl : Rl K G nf m h H) (q : RE K G sc m h H v e) (t : frz e h = some (ds, h')) : Stp K G nf m h H m h' H ∧ ∃ k a xs, v = .ref a ∧ Seq (Fb G m h') H k a xs ds := by
  unfold frz at t
  obtain ⟨⟨d, h1⟩, e1, t⟩ := bind_some t
  obtain ⟨xs, e2, t⟩ := Option.map_eq_some_iff.mp t
  cases t
  obtain ⟨s1, q1⟩ := rl.toD q e1
  refine ⟨s1, ?_⟩
  cases d with
  | list ys =>
    cases e2
    obtain ⟨a, vs, p1, p2, p3, p4⟩ := q1
    exact ⟨true, a, vs, p1, p2, p3, p4⟩
  | tuple ys =>
    cases e2
    obtain ⟨a, o, vs, p1, p2, pl, p3, p4⟩ := q1
    exact ⟨false, a, vs, p1, ⟨o, p2, pl⟩, p3, p4⟩
  | none => cases e2
  | bool _ => cases e2
  | int _ => cases e2
  | str _ => cases e2
  | dict _ => cases e2
theorem SqAt.tl {K : PySem.W.Frag} {k : Bool} {a : Addr} {xs : List V} (x : SqAt k H a xs) : SqT K H a xs ∨ SqL K H a xs := by
  cases k with
  | true => exact .inr (.of x)
  | false => obtain ⟨o, e, _⟩ := x; exact .inl (.inl (.inr ⟨o, e⟩))
theorem tDs_star {e : ME} {es : MEs} {Q : List V → Hp → Prop} (t : tDs P (.star e es) σ H Q) : tStar P.K (tE P e) (tDs P es) σ H Q := by
  obtain ⟨G, nf, m, h, env, ds, h', x, ev, k⟩ := t
  simp only [evDs] at ev
  obtain ⟨⟨v1, h1⟩, e1, ev⟩ := bind_some ev
  obtain ⟨⟨d1, h2⟩, e2, ev⟩ := bind_some ev
  obtain ⟨⟨ds2, h3⟩, e3, ev⟩ := bind_some ev
  cases ev
  refine ⟨G, nf, m, h, env, v1, h1, x, e1, fun y m1 H1 s1 q1 => ?_⟩
  obtain ⟨s2, kd, a, xs, rfl, sq⟩ := frzS (c := P.c) s1.rl q1 e2
  exact ⟨a, xs, rfl, sq.at_.tl, G, nf, m1, h2, env, ds2, h3, (x.go s1).go s2, e3, fun vs m3 H3 s3 q3 => k _ m3 H3 (s1.trans (s2.trans s3)) (Reps.append (Reps.keep s3.keeps _ _ sq.rs) q3)⟩
theorem tVs_nil {Q : List V → Hp → Prop} (t : tVs P .nil σ H Q) : tNil σ H Q := by
  obtain ⟨G, nf, m, h, env, ds, h', x, ev, k⟩ := t
  cases ev
  exact k [] _ _ (.refl x.rl) trivial
theorem tVs_cons {e : ME} {es : MEs} {Q : List V → Hp → Prop} (t : tVs P (.cons e es) σ H Q) : tCons (tE P e) (tVs P es) σ H Q := by
  obtain ⟨G, nf, m, h, env, ds, h', x, ev, k⟩ := t
  simp only [evVs] at ev
  obtain ⟨⟨v1, h1⟩, e1, ev⟩ := bind_some ev
  obtain ⟨⟨ds2, h3⟩, e3, ev⟩ := bind_some ev
  cases ev
  exact ⟨G, nf, m, h, env, v1, h1, x, e1, fun y m1 H1 s1 q1 => ⟨G, nf, m1, h1, env, ds2, h3, x.go s1, e3, fun vs m3 H3 s3 q3 => k _ m3 H3 (s1.trans s3) ⟨q1.keep s3, q3⟩⟩⟩
theorem tE_tup {es : MEs} (t : tE P (.tup es) σ H Q) : tTupF (tDs P es) σ H Q := by
  obtain ⟨G, nf, m, h, env, res, h', x, ev, k⟩ := t
  simp only [evE] at ev
  obtain ⟨⟨ds, h1⟩, e1, ev⟩ := bind_some ev
  simp only at ev
  split at ev
  · rename_i hl
    cases ev
    refine ⟨G, nf, m, h, env, ds, _, x, e1, fun vs m1 H1 s1 q1 => ?_⟩
    have hz : vs.length ≤ sizeLine := by rw [← q1.length]; exact most_le hl
    refine ⟨hz, fun p o hp pl => ?_⟩
    obtain ⟨s2, q2⟩ := s1.rl.newTup hp pl hz q1
    exact k _ _ _ (s1.trans s2) q2
  · cases ev
theorem tE_lst {mu : Bool} {es : MEs} (t : tE P (.lst mu es) σ H Q) : tLst (tDs P es) σ H Q := by
  obtain ⟨G, nf, m, h, env, res, h', x, ev, k⟩ := t
  simp only [evE] at ev
  obtain ⟨⟨ds, h1⟩, e1, ev⟩ := bind_some ev
  simp only at ev
  split at ev
  · rename_i hl
    have ev := Option.some.inj ev
    refine ⟨G, nf, m, h, env, ds, _, x, e1, fun vs m1 H1 s1 q1 => ?_⟩
    have hz : vs.length ≤ sizeLine := by rw [← q1.length]; exact most_le hl
    refine ⟨hz, fun p hp => ?_⟩
    obtain ⟨m2, s2, q2⟩ := s1.rl.newList (sc := P.c.scr) mu hp hz q1
    rw [ev] at s2 q2
    exact k _ _ _ (s1.trans s2) q2
  · cases ev
/-- a slice's part -/
def tO (P : Pm) (e : ME) : TO := fun σ H Q => ∃ (G : Addr → Prop) (nf : Nat → Nat) (m : List Addr) (h : Hm) (env : Ev) (r : EV) (h' : Hm) (l : Option Int), Sx P G nf m h H σ env ∧ evE P.c e env h = some (r, h') ∧ partD e r = some l ∧
  ∀ m' H', Stp P.K G nf m h H m' h' H' → Q l H'
theorem tO_none {Q : Option Int → Hp → Prop} (t : tO P (.con .none) σ H Q) : tNoPart σ H Q := by
  obtain ⟨G, nf, m, h, env, r, h', l, x, ev, e, k⟩ := t
  cases ev
  cases e
  exact k _ _ (.refl x.rl)
def isNo : ME → Bool
  | .con .none => true
  | _ => false
theorem tO_part {e : ME} {Q : Option Int → Hp → Prop} (hn : isNo e = false) (t : tO P e σ H Q) : tPart (tE P e) σ H Q := by
  obtain ⟨G, nf, m, h, env, r, h', l, x, ev, pd, k⟩ := t
  refine ⟨G, nf, m, h, env, _, h', x, ev, fun v m1 H1 s1 q1 => ?_⟩
  unfold partD at pd
  split at pd
  · cases pd
    exact ⟨_, q1, k _ _ s1⟩
  · split at pd
    · cases hn
    · cases pd
  · cases pd
theorem tE_sl {mu : Bool} {a lo hi : ME} (t : tE P (.sl mu a lo hi) σ H Q) : tSl (rSl P.K) (tE P a) (tO P lo) (tO P hi) σ H Q := by
  obtain ⟨G, nf, m, h, env, res, h', x, ev, k⟩ := t
  simp only [evE] at ev
  obtain ⟨⟨v1, h1⟩, e1, ev⟩ := bind_some ev
  obtain ⟨⟨v2, h2⟩, e2, ev⟩ := bind_some ev
  obtain ⟨l, e3, ev⟩ := bind_some ev
  obtain ⟨⟨v4, h4⟩, e4, ev⟩ := bind_some ev
  obtain ⟨u, e5, ev⟩ := bind_some ev
  exact ⟨G, nf, m, h, env, v1, h1, x, e1, fun y m1 H1 s1 q1 => ⟨G, nf, m1, h1, env, v2, h2, l, x.go s1, e2, e3, fun m2 H2 s2 => ⟨G, nf, m2, h2, env, v4, h4, u, (x.go s1).go s2, e4, e5, fun m3 H3 s3 =>
    slS (nf := nf) (c := P.c) mu l u m3 h4 H3 y v1 res h' Q s3.rl ((q1.keep s2).keep s3) ev fun z m4 H4 s4 q4 => k z m4 H4 (s1.trans (s2.trans (s3.trans s4))) q4⟩⟩⟩
end
end Mp
set_option Elab.async false
set_option linter.all false
set_option maxRecDepth 100000
set_option maxHeartbeats 1000000
/-! Mp, part K: walks and targets as readings. -/
namespace Mp
open PySem PySem.Spec PyProof.Rows L2 StX

/-- what a walk hands out -/
structure JOk (J : It) (N0 : Addr → Prop) (H0 : Hp) (xs : List D) : Prop where
  go : ∀ i N H, Keeps N0 N H0 H → i < xs.length → J.go i H
  stop : ∀ N H, Keeps N0 N H0 H → J.stop xs.length H
  yld : ∀ i N H v H', Keeps N0 N H0 H → i < xs.length → J.yld i H v H' → ∃ d, xs[i]? = some d ∧ ((H' = H ∧ Rep N H d v) ∨ ∃ T o ws ds, v = .ref T ∧ H T = none ∧ PlT o ∧ H' = upd H T (.frz o (.tup ws)) ∧ d = .tuple ds ∧ ws.length ≤ sizeLine ∧ Reps N H ds ws)
section
variable {N0 N : Addr → Prop} {H0 H : Hp} {K : PySem.W.Frag}
theorem jok_p {k : Bool} {a : Addr} {vs : List V} {xs : List D} (q : Seq N0 H0 k a vs xs) : JOk (ItP K k a) N0 H0 xs where
  go := fun i N H kp hi => by
    have q2 := q.move kp
    have hl : i < vs.length := by rw [← q.rs.length]; exact hi
    cases k with
    | true => exact ⟨vs, vs[i], .of q2.at_, List.getElem?_eq_getElem hl⟩
    | false =>
      obtain ⟨o, e, _⟩ := q2.at_
      exact ⟨vs, vs[i], .inl (.inr ⟨o, e⟩), List.getElem?_eq_getElem hl⟩
  stop := fun N H kp => by
    have q2 := q.move kp
    have hl := q.rs.length
    cases k with
    | true => exact ⟨vs, .of q2.at_, by omega⟩
    | false =>
      obtain ⟨o, e, _⟩ := q2.at_
      exact ⟨vs, .inl (.inr ⟨o, e⟩), by omega⟩
  yld := fun i N H v H' kp hi y => by
    have q2 := q.move kp
    obtain ⟨d, hd⟩ : ∃ d, xs[i]? = some d := ⟨_, List.getElem?_eq_getElem hi⟩
    obtain ⟨u, e1, e2⟩ := q2.rs.get hd
    refine ⟨d, hd, .inl ?_⟩
    cases k with
    | true =>
      obtain ⟨rfl, y⟩ := y
      have z := y vs (.of q2.at_)
      rw [e1] at z
      cases z
      exact ⟨rfl, e2⟩
    | false =>
      obtain ⟨rfl, y⟩ := y
      obtain ⟨o, e, _⟩ := q2.at_
      have z := y vs (.inl (.inr ⟨o, e⟩))
      rw [e1] at z
      cases z
      exact ⟨rfl, e2⟩
theorem rngD_len (lo : Int) (n : Nat) : (rngD lo n).length = n := by simp [rngD]
theorem jok_r (lo : Int) (n : Nat) : JOk (Itr lo n) N0 H0 (rngD lo n) where
  go := fun i N H kp hi => by rw [rngD_len] at hi; exact hi
  stop := fun N H kp => by rw [rngD_len]; exact Nat.le_refl n
  yld := fun i N H v H' kp hi y => by
    obtain ⟨rfl, rfl⟩ := y
    rw [rngD_len] at hi
    exact ⟨.int (lo + i), by simp [rngD, hi], .inl ⟨rfl, rfl⟩⟩
theorem zipD_len (xs ys : List D) : (zipD xs ys).length = min xs.length ys.length := by simp [zipD]
theorem zipD_at {xs ys : List D} {i : Nat} {x y : D} (h1 : xs[i]? = some x) (h2 : ys[i]? = some y) : (zipD xs ys)[i]? = some (.tuple [x, y]) := by
  simp [zipD, List.getElem?_zipWith, h1, h2]
theorem jok_z {k1 k2 : Bool} {a b : Addr} {vs ws : List V} {xs ys : List D} (q1 : Seq N0 H0 k1 a vs xs) (q2 : Seq N0 H0 k2 b ws ys) : JOk (ItZ k1 k2 a b) N0 H0 (zipD xs ys) where
  go := fun i N H kp hi => by
    have p1 := q1.move kp
    have p2 := q2.move kp
    rw [zipD_len] at hi
    have h1 : i < vs.length := by rw [← q1.rs.length]; omega
    have h2 : i < ws.length := by rw [← q2.rs.length]; omega
    exact ⟨vs, ws, vs[i], ws[i], p1.at_, p2.at_, List.getElem?_eq_getElem h1, List.getElem?_eq_getElem h2⟩
  stop := fun N H kp => by
    have p1 := q1.move kp
    have p2 := q2.move kp
    rw [zipD_len, q1.rs.length, q2.rs.length]
    exact ⟨vs, ws, p1.at_, p2.at_, by omega, by omega, by omega⟩
  yld := fun i N H v H' kp hi y => by
    have p1 := q1.move kp
    have p2 := q2.move kp
    rw [zipD_len] at hi
    obtain ⟨d, hd⟩ : ∃ d, xs[i]? = some d := ⟨_, List.getElem?_eq_getElem (by omega)⟩
    obtain ⟨e, he⟩ : ∃ d, ys[i]? = some d := ⟨_, List.getElem?_eq_getElem (by omega)⟩
    obtain ⟨u, u1, u2⟩ := p1.rs.get hd
    obtain ⟨w, w1, w2⟩ := p2.rs.get he
    obtain ⟨T, o, x, z, rfl, hT, pl, rfl, y1, y2⟩ := y
    have z1 := y1 vs p1.at_
    have z2 := y2 ws p2.at_
    rw [u1] at z1
    rw [w1] at z2
    cases z1
    cases z2
    exact ⟨_, zipD_at hd he, .inr ⟨T, o, [u, w], [d, e], rfl, hT, pl, rfl, rfl, (show 2 ≤ sizeLine by rw [sizeLine_eq]; decide), u2, w2, trivial⟩⟩
theorem enumD_len (xs : List D) : (enumD xs).length = xs.length := by simp [enumD]
theorem enumD_at {xs : List D} {i : Nat} {x : D} (h1 : xs[i]? = some x) : (enumD xs)[i]? = some (.tuple [.int (i : Nat), x]) := by
  have hi := (List.getElem?_eq_some_iff.mp h1).1
  have h2 : xs[i] = x := (List.getElem?_eq_some_iff.mp h1).2
  simp [enumD, List.getElem?_zipWith, h1, hi, h2]
theorem jok_n {k : Bool} {a : Addr} {vs : List V} {xs : List D} (q1 : Seq N0 H0 k a vs xs) : JOk (ItN k a) N0 H0 (enumD xs) where
  go := fun i N H kp hi => by
    have p1 := q1.move kp
    rw [enumD_len] at hi
    have h1 : i < vs.length := by rw [← q1.rs.length]; omega
    exact ⟨vs, vs[i], p1.at_, List.getElem?_eq_getElem h1⟩
  stop := fun N H kp => by
    have p1 := q1.move kp
    rw [enumD_len, q1.rs.length]
    exact ⟨vs, p1.at_, rfl⟩
  yld := fun i N H v H' kp hi y => by
    have p1 := q1.move kp
    rw [enumD_len] at hi
    obtain ⟨d, hd⟩ : ∃ d, xs[i]? = some d := ⟨_, List.getElem?_eq_getElem (by omega)⟩
    obtain ⟨u, u1, u2⟩ := p1.rs.get hd
    obtain ⟨T, o, x, rfl, hT, pl, rfl, y1⟩ := y
    have z1 := y1 vs p1.at_
    rw [u1] at z1
    cases z1
    exact ⟨_, enumD_at hd, .inr ⟨T, o, [.int (i : Nat), u], [.int (i : Nat), d], rfl, hT, pl, rfl, rfl, (show 2 ≤ sizeLine by rw [sizeLine_eq]; decide), rfl, u2, trivial⟩⟩
end
section
variable {P : Pm} {G : Addr → Prop} {nf : Nat → Nat} {m m' : List Addr} {h h' : Hm} {H H' : Hp} {σ : L2.St} {env : Ev} {R : It → Hp → Prop}
/-- a walk's reading -/
def tI (P : Pm) (it : MI) : TI := fun σ H R => ∃ (G : Addr → Prop) (nf : Nat → Nat) (m : List Addr) (h : Hm) (env : Ev) (xs : List D) (h' : Hm), Sx P G nf m h H σ env ∧ evI P.c it env h = some (xs, h') ∧
  ∀ J m' H', Stp P.K G nf m h H m' h' H' → JOk J (Fb G m' h') H' xs → R J H'
theorem tI_seq {e : ME} (t : tI P (.seq e) σ H R) : iSq P.K (tE P e) σ H R := by
  obtain ⟨G, nf, m, h, env, xs, h', x, ev, k⟩ := t
  simp only [evI] at ev
  obtain ⟨⟨v1, h1⟩, e1, ev⟩ := bind_some ev
  refine ⟨G, nf, m, h, env, v1, h1, x, e1, fun y m1 H1 s1 q1 => ?_⟩
  obtain ⟨s2, kd, a, vs, rfl, sq⟩ := frzS (c := P.c) s1.rl q1 ev
  exact ⟨kd, a, vs, rfl, sq.at_, k _ _ _ (s1.trans s2) (jok_p sq)⟩
theorem tI_rng {e : ME} (t : tI P (.rng e) σ H R) : iRng1 (tCons (tE P e) tNil) σ H R := by
  obtain ⟨G, nf, m, h, env, xs, h', x, ev, k⟩ := t
  simp only [evI] at ev
  obtain ⟨⟨v1, h1⟩, e1, ev⟩ := bind_some ev
  simp only at ev
  split at ev
  · rename_i n
    split at ev
    · rename_i hn
      cases ev
      refine ⟨G, nf, m, h, env, _, _, x, e1, fun y m1 H1 s1 q1 => ?_⟩
      cases (show y = .int n from q1)
      have hm : n ≤ 16777216 := by have := hn.1; unfold most at this; omega
      exact ⟨n, rfl, hn.2, by omega, k _ _ _ s1 (jok_r 0 n.toNat)⟩
    · cases ev
  · cases ev
theorem tI_rng2 {a b : ME} (t : tI P (.rng2 a b) σ H R) : iRng2 (tCons (tE P a) (tCons (tE P b) tNil)) σ H R := by
  obtain ⟨G, nf, m, h, env, xs, h', x, ev, k⟩ := t
  simp only [evI] at ev
  obtain ⟨⟨v1, h1⟩, e1, ev1⟩ := bind_some ev
  obtain ⟨⟨v2, h2⟩, e2, ev2⟩ := bind_some ev1
  have z : ∃ i j, v1 = .d (.int i) ∧ v2 = .d (.int j) ∧ (if -(2 ^ 60) ≤ i ∧ i ≤ 2 ^ 60 ∧ -(2 ^ 60) ≤ j ∧ j ≤ 2 ^ 60 ∧ j - i ≤ most then some (rngD i (j - i).toNat, h2) else none) = some (xs, h') := by
    clear ev ev1 k
    simp only at ev2
    split at ev2
    · exact ⟨_, _, rfl, rfl, ev2⟩
    · cases ev2
  obtain ⟨i, j, rfl, rfl, ev3⟩ := z
  split at ev3
  · rename_i hn
    cases ev3
    refine ⟨G, nf, m, h, env, _, _, x, e1, fun y m1 H1 s1 q1 => ⟨G, nf, m1, h1, env, _, _, x.go s1, e2, fun z m2 H2 s2 q2 => ?_⟩⟩
    cases (show y = .int i from q1)
    cases (show z = .int j from q2)
    exact ⟨i, j, rfl, ⟨by omega, by omega, by omega, by omega⟩, k _ _ _ (s1.trans s2) (jok_r i (j - i).toNat)⟩
  · cases ev3
theorem tI_enum {e : ME} (t : tI P (.enum e) σ H R) : iN (tCons (tE P e) tNil) σ H R := by
  obtain ⟨G, nf, m, h, env, xs, h', x, ev, k⟩ := t
  simp only [evI] at ev
  obtain ⟨⟨v1, h1⟩, e1, ev⟩ := bind_some ev
  obtain ⟨⟨ds, h2⟩, e2, ev⟩ := bind_some ev
  cases ev
  refine ⟨G, nf, m, h, env, v1, h1, x, e1, fun y m1 H1 s1 q1 => ?_⟩
  obtain ⟨s2, kd, a, vs, rfl, sq⟩ := frzS (c := P.c) s1.rl q1 e2
  exact ⟨kd, a, vs, rfl, sq.at_, k _ _ _ (s1.trans s2) (jok_n sq)⟩
theorem tI_zip {a b : ME} (t : tI P (.zip a b) σ H R) : iZ (tCons (tE P a) (tCons (tE P b) tNil)) σ H R := by
  obtain ⟨G, nf, m, h, env, xs, h', x, ev, k⟩ := t
  simp only [evI] at ev
  obtain ⟨⟨v1, h1⟩, e1, ev⟩ := bind_some ev
  obtain ⟨⟨v2, h2⟩, e2, ev⟩ := bind_some ev
  obtain ⟨⟨ds1, h3⟩, e3, ev⟩ := bind_some ev
  obtain ⟨⟨ds2, h4⟩, e4, ev⟩ := bind_some ev
  cases ev
  refine ⟨G, nf, m, h, env, v1, h1, x, e1, fun y m1 H1 s1 q1 => ⟨G, nf, m1, h1, env, v2, h2, x.go s1, e2, fun z m2 H2 s2 q2 => ?_⟩⟩
  obtain ⟨s3, k1, p, vs, rfl, sq1⟩ := frzS (c := P.c) s2.rl (q1.keep s2) e3
  obtain ⟨s4, k2, q, ws, rfl, sq2⟩ := frzS (c := P.c) s3.rl (q2.keep s3) e4
  exact ⟨k1, k2, p, q, vs, ws, rfl, (sq1.move s4.keeps).at_, sq2.at_, k _ _ _ (s1.trans (s2.trans (s3.trans s4))) (jok_z (sq1.move s4.keeps) sq2)⟩

/-! ### targets -/
def lenT : MTs → Nat
  | .nil => 0
  | .cons _ r => lenT r + 1
mutual
def gMT (K : PySem.W.Frag) : MT → TG
  | .nm i => gName i
  | .tup ts => gTup K (lenT ts) (gMTs K ts)
def gMTs (K : PySem.W.Frag) : MTs → TGs
  | .nil => gNil
  | .cons t r => gCons (gMT K t) (gMTs K r)
end
mutual
def slT : MT → List Nat
  | .nm i => [i]
  | .tup ts => slTs ts
def slTs : MTs → List Nat
  | .nil => []
  | .cons t r => slT t ++ slTs r
end
theorem wipe_set {σ : L2.St} {i : Nat} {v : Option V} : ∀ {vs : List Nat}, i ∈ vs → wipe (σ.set i v) vs = wipe σ vs
  | j :: vs, hm => by
    unfold wipe
    by_cases e : i = j
    · subst e
      by_cases hi : i ∈ vs
      · rw [wipe_set hi]
      · rw [wipe_out hi, List.set_set]
    · have hi : i ∈ vs := by
        rcases List.mem_cons.mp hm with z | z
        · exact absurd z e
        · exact z
      rw [wipe_set hi]
where
  wipe_out {σ : L2.St} {i : Nat} {v : Option V} : ∀ {vs : List Nat}, i ∉ vs → wipe (σ.set i v) vs = (wipe σ vs).set i v
  | [], _ => rfl
  | j :: vs, hm => by
    have h1 : i ≠ j := fun z => hm (by rw [z]; exact List.mem_cons_self ..)
    have h2 : i ∉ vs := fun z => hm (List.mem_cons_of_mem _ z)
    unfold wipe
    rw [wipe_out h2, List.set_comm _ _ h1]
mutual
theorem gMT_ok (rl : Rl P.K G nf m h H) : ∀ (t : MT) (d : EV) (v : V) (σ : L2.St) (env env' : Ev) (Q : L2.St → Hp → Prop), RE P.K G P.c.scr m h H v d → REs P.K G P.c.scr m h H σ env → sto t d env = some env' →
    (∀ σ', REs P.K G P.c.scr m h H σ' env' → (∀ vs, (∀ i ∈ slT t, i ∈ vs) → wipe σ' vs = wipe σ vs) → Q σ' H) → gMT P.K t v σ H Q
  | .nm i, d, v, σ, env, env', Q, r, es, e, k => by
    simp only [sto] at e
    cases e
    exact k _ (es.set i r) fun vs hv => wipe_set (hv i (List.mem_cons_self ..))
  | .tup ts, d, v, σ, env, env', Q, r, es, e, k => by
    simp only [sto] at e
    split at e
    · rename_i ds
      obtain ⟨a, o, vs, rfl, ha, pl, no, rs⟩ := r
      exact ⟨a, vs, rfl, .inl (.inr ⟨o, ha⟩), gMTs_len ts ds vs env env' rs e, gMTs_ok rl ts ds vs σ env env' Q rs es e k⟩
    · cases e
theorem gMTs_len {N : Addr → Prop} : ∀ (ts : MTs) (ds : List D) (vs : List V) (env env' : Ev), Reps N H ds vs → stos ts ds env = some env' → vs.length = lenT ts
  | .nil, [], [], _, _, _, _ => rfl
  | .nil, [], _ :: _, _, _, r, _ => r.elim
  | .nil, _ :: _, _, _, _, _, e => by simp only [stos] at e; cases e
  | .cons t ts, [], _, _, _, _, e => by simp only [stos] at e; cases e
  | .cons t ts, _ :: _, [], _, _, r, _ => r.elim
  | .cons t ts, d :: ds, v :: vs, env, env', r, e => by
    simp only [stos] at e
    obtain ⟨env1, e1, e2⟩ := bind_some e
    exact congrArg (· + 1) (gMTs_len ts ds vs env1 env' r.2 e2)
theorem gMTs_ok (rl : Rl P.K G nf m h H) : ∀ (ts : MTs) (ds : List D) (vs : List V) (σ : L2.St) (env env' : Ev) (Q : L2.St → Hp → Prop), Reps (Fb G m h) H ds vs → REs P.K G P.c.scr m h H σ env → stos ts ds env = some env' →
    (∀ σ', REs P.K G P.c.scr m h H σ' env' → (∀ vs, (∀ i ∈ slTs ts, i ∈ vs) → wipe σ' vs = wipe σ vs) → Q σ' H) → gMTs P.K ts vs σ H Q
  | .nil, [], [], σ, env, env', Q, r, es, e, k => by
    simp only [stos] at e
    cases e
    exact ⟨rfl, k σ es fun _ _ => rfl⟩
  | .nil, [], _ :: _, _, _, _, _, r, _, _, _ => r.elim
  | .nil, _ :: _, _, _, _, _, _, _, _, e, _ => by simp only [stos] at e; cases e
  | .cons t ts, [], _, _, _, _, _, _, _, e, _ => by simp only [stos] at e; cases e
  | .cons t ts, _ :: _, [], _, _, _, _, r, _, _, _ => r.elim
  | .cons t ts, d :: ds, v :: vs, σ, env, env', Q, r, es, e, k => by
    simp only [stos] at e
    obtain ⟨env1, e1, e2⟩ := bind_some e
    refine ⟨v, vs, rfl, gMT_ok rl t (.d d) v σ env env1 _ r.1 es e1 fun σ1 es1 w1 => ?_⟩
    refine gMTs_ok rl ts ds vs σ1 env1 env' Q r.2 es1 e2 fun σ2 es2 w2 => k σ2 es2 fun us hu => ?_
    rw [w2 us fun i hi => hu i (List.mem_append_right _ hi), w1 us fun i hi => hu i (List.mem_append_left _ hi)]
end
end
end Mp
set_option Elab.async false
set_option linter.all false
set_option maxRecDepth 100000
set_option maxHeartbeats 1000000
/-! Mp, part L: list comprehensions. -/
namespace Mp
open PySem PySem.Spec PyProof.Rows L2 StX

/-- D is being filled -/
def Gx (G : Addr → Prop) (D : Addr) : Addr → Prop := fun a => G a ∨ a = D
section
variable {K : PySem.W.Frag} {G G' : Addr → Prop} {nf : Nat → Nat} {sc : List Int} {m m' m2 : List Addr} {h h' h2 : Hm} {H H' H2 : Hp} {D : Addr} {σ : L2.St} {env : Ev}
theorem RE.via {v : V} {e : EV} (pre : m <+: m') (k : Keeps (Fb G m h) (Fb G' m' h') H H') (r : RE K G sc m h H v e) : RE K G' sc m' h' H' v e := by
  cases e with
  | d d => exact Rep.keep k d v r
  | ref j =>
    obtain ⟨a, e1, e2⟩ := r
    obtain ⟨t, q⟩ := pre
    refine ⟨a, e1, ?_⟩
    rw [← q, List.getElem?_append_left (List.getElem?_eq_some_iff.mp e2).1]
    exact e2
  | scr => obtain ⟨a, e1, e2⟩ := r; exact ⟨a, e1, e2.keep k⟩
theorem REs.via (pre : m <+: m') (k : Keeps (Fb G m h) (Fb G' m' h') H H') (r : REs K G sc m h H σ env) : REs K G' sc m' h' H' σ env :=
  ⟨r.1, fun i e q => let ⟨v, a, b⟩ := r.2 i e q; ⟨v, a, b.via pre k⟩⟩
theorem Rl.chg (r : Rl K G nf m h H) (kp : Keeps (Fb G m h) (Fb G' m h) H H') (same : ∀ a, Live m h a → H' a = H a) (gd : ∀ a, G' a → ∃ o, H' a = some o) (gm : ∀ a, Live m h a → ¬ G' a)
    (sm : ∀ a xs, (H' a = some (.lst xs) ∨ ∃ o, H' a = some (.frz o (.tup xs))) → xs.length ≤ sizeLine) : Rl K G' nf m h H' where
  len := r.len
  nd := r.nd
  ob := fun k a o e1 e2 => by
    by_cases n : o = .gone
    · rw [n]; trivial
    · exact (r.ob k a o e1 e2).move kp (same a (live_of e1 e2 n))
  th := fun a e => by rw [same a e]; exact r.th a e
  zp := fun k xs ys e => by
    obtain ⟨hj, z, TI, TO, i1, i2, a0, a1, a2, a3, a4, x⟩ := r.zp k xs ys e
    exact ⟨hj, z, TI, TO, i1, i2, a0, a1, a2, a3, a4, x.move kp fun b hb => same b (zp_mem e hj a0 a1 a2 a3 a4 b hb)⟩
  gd := gd
  gm := gm
  sm := sm
/-- a new list that is being filled -/
theorem Rl.ghost (r : Rl K G nf m h H) (hD : H D = none) : Stp K (Gx G D) nf m h H m h (upd H D (.lst [])) := by
  have ne : ∀ a, (∃ u, H a = some u) → a ≠ D := fun a ⟨u, e⟩ z => by rw [z, hD] at e; cases e
  refine ⟨List.prefix_refl _, fun a u e _ => by rw [upd_ne (ne a ⟨u, e⟩)]; exact e, fun a z => .inl z, ⟨Nat.le_refl _, fun _ _ _ e _ => e⟩, r.chg (fun a u e n => ⟨by rw [upd_ne (ne a ⟨u, e⟩)]; exact e, fun z => ?_⟩) (fun a ha => upd_ne (ne a (r.th a ha))) (fun a g => ?_) (fun a ha g => ?_) fun a xs e => ?_⟩
  · rcases z with z | z | z
    · exact n (.inl z)
    · exact n (.inr z)
    · exact ne a ⟨u, e⟩ z
  · by_cases q : a = D
    · rw [q, upd_same]; exact ⟨_, rfl⟩
    · rw [upd_ne q]
      rcases g with g | g
      · exact r.gd a g
      · exact absurd g q
  · rcases g with g | g
    · exact r.gm a ha g
    · exact ne a (r.th a ha) g
  · by_cases q : a = D
    · rw [q, upd_same] at e
      rcases e with e | ⟨u, e⟩
      · cases e; exact Nat.zero_le _
      · cases e
    · rw [upd_ne q] at e
      exact r.sm a xs e
/-- what is being filled is written -/
theorem Rl.wr (r : Rl K (Gx G D) nf m h H) {zs : List V} (hz : zs.length ≤ sizeLine) : Rl K (Gx G D) nf m h (upd H D (.lst zs)) := by
  have ng : ∀ a, Live m h a → a ≠ D := fun a ha z => r.gm a ha (.inr z)
  refine r.chg (fun a u e n => ⟨by rw [upd_ne (fun z : a = D => n (.inr (.inr z)))]; exact e, n⟩) (fun a ha => upd_ne (ng a ha)) (fun a g => ?_) r.gm fun a xs e => ?_
  · by_cases q : a = D
    · rw [q, upd_same]; exact ⟨_, rfl⟩
    · rw [upd_ne q]; exact r.gd a g
  · by_cases q : a = D
    · rw [q, upd_same] at e
      rcases e with e | ⟨u, e⟩
      · cases e; exact hz
      · cases e
    · rw [upd_ne q] at e
      exact r.sm a xs e
theorem Stp.wr {u : HO} (s : Stp K G nf m h H m' h' H') (hD : H D = none) (r : Rl K G nf m' h' (upd H' D u)) : Stp K G nf m h H m' h' (upd H' D u) :=
  ⟨s.pre, fun a o e n => by rw [upd_ne (fun z => by rw [z, hD] at e; cases e)]; exact s.keep a o e n, s.new, s.zpo, r⟩
/-- from ahead of the filling -/
theorem Stp.kp0 (s : Stp K (Gx G D) nf m h H m' h' H') (hD : H D = none) : Keeps (Fb G m h) (Fb (Gx G D) m' h') H H' := fun a o e n =>
  ⟨s.keep a o e fun z => n (.inl z), fun z => by
    rcases z with z | z | z
    · rcases s.new a z with z | z
      · exact n (.inl z)
      · rw [e] at z; cases z
    · exact n (.inr z)
    · rw [z, hD] at e; cases e⟩
/-- the filling is over -/
theorem Rl.filled (r0 : Rl K G nf m h H) (mu : Bool) {vs : List V} {acc : List PyData} (s : Stp K (Gx G D) nf m h H m' h' H') (hD : H D = none) (hl : H' D = some (.lst vs)) (rs : Reps (Fb (Gx G D) m' h') H' acc vs) :
    ∃ m2, Stp K G nf m h H m2 (mkL mu acc h').2 H' ∧ RE K G sc m2 (mkL mu acc h').2 H' (.ref D) (mkL mu acc h').1 := by
  have nG : ¬ G D := fun g => by
    obtain ⟨o, e⟩ := r0.gd D g
    rw [hD] at e
    cases e
  have nm : ¬ Live m' h' D := fun z => s.rl.gm D z (.inr rfl)
  cases mu with
  | false =>
    have kp : Keeps (Fb (Gx G D) m' h') (Fb G m' h') H' H' := fun a o e n => ⟨e, fun z => n (z.imp id .inl)⟩
    have r : Rl K G nf m' h' H' := s.rl.chg kp (fun _ _ => rfl) (fun a g => s.rl.gd a (.inl g)) (fun a ha g => s.rl.gm a ha (.inl g)) s.rl.sm
    exact ⟨m', ⟨s.pre, s.keep, s.new, s.zpo, r⟩, D, vs, rfl, hl, fun z => z.elim (fun z => nm z.mem) nG, Reps.keep kp _ _ rs⟩
  | true =>
    have mx : ∀ a, Mx (m' ++ [D]) (h' ++ [.lst acc]) a → Mx m' h' a ∨ a = D := fun a ⟨k, o, e1, e2, e3⟩ => by
      rcases get_snoc e1 with q | ⟨_, q⟩
      · have hk : k < h'.length := by rw [← s.rl.len]; exact (List.getElem?_eq_some_iff.mp q).1
        rw [List.getElem?_append_left hk] at e2
        exact .inl ⟨k, o, q, e2, e3⟩
      · exact .inr q
    have kp : Keeps (Fb (Gx G D) m' h') (Fb G (m' ++ [D]) (h' ++ [.lst acc])) H' H' := fun a o e n => ⟨e, fun z => by
      rcases z with z | z
      · rcases mx a z with z | z
        · exact n (.inl z)
        · exact n (.inr (.inr z))
      · exact n (.inr (.inl z))⟩
    have r : Rl K G nf (m' ++ [D]) (h' ++ [.lst acc]) H' := by
      have cut : ∀ {k : Nat} {a : Addr} {o : MO}, m'[k]? = some a → (h' ++ [MO.lst acc])[k]? = some o → h'[k]? = some o := fun {k a o} q e2 => by
        have hk : k < h'.length := by rw [← s.rl.len]; exact (List.getElem?_eq_some_iff.mp q).1
        rw [List.getElem?_append_left hk] at e2
        exact e2
      refine ⟨by rw [List.length_append, List.length_append, s.rl.len]; rfl, fun i j a o u e1 e2 e3 e4 n1 n2 => ?_, fun k a o e1 e2 => ?_, fun a ⟨k, o, e1, e2, n⟩ => ?_, fun k xs ys e => ?_, fun a g => s.rl.gd a (.inl g), fun a ⟨k, o, e1, e2, n⟩ g => ?_, s.rl.sm⟩
      · rcases get_snoc e1 with q1 | ⟨q1, z1⟩ <;> rcases get_snoc e2 with q2 | ⟨q2, z2⟩
        · exact s.rl.nd i j a o u q1 q2 (cut q1 e3) (cut q2 e4) n1 n2
        · exact absurd (live_of (z2 ▸ q1) (cut q1 e3) n1) nm
        · exact absurd (live_of (z1 ▸ q2) (cut q2 e4) n2) nm
        · rw [q1, q2]
      · rcases get_snoc e1 with q | ⟨q, e⟩
        · exact (s.rl.ob k a o q (cut q e2)).move kp rfl
        · rw [q, s.rl.len, List.getElem?_append_right (Nat.le_refl _), Nat.sub_self] at e2
          cases e2
          rw [e]
          exact ⟨vs, hl, Reps.keep kp _ _ rs⟩
      · rcases get_snoc e1 with q | ⟨q, e⟩
        · exact s.rl.th a (live_of q (cut q e2) n)
        · rw [e]
          exact ⟨_, hl⟩
      · rcases get_snoc e with q | ⟨_, q⟩
        · obtain ⟨hj, z, TI, TO, i1, i2, a0, a1, a2, a3, a4, x⟩ := s.rl.zp k xs ys q
          have at' : ∀ {j b}, m'[j]? = some b → (m' ++ [D])[j]? = some b := fun {j b} w => by rw [List.getElem?_append_left (List.getElem?_eq_some_iff.mp w).1]; exact w
          exact ⟨fun j h1 h2 => by have w := hj j h1 h2; rw [List.getElem?_append_left (List.getElem?_eq_some_iff.mp w).1]; exact w, z, TI, TO, i1, i2, at' a0, at' a1, at' a2, at' a3, at' a4, x.move kp fun _ _ => rfl⟩
        · cases q
      · rcases get_snoc e1 with q | ⟨q, e⟩
        · exact s.rl.gm a (live_of q (cut q e2) n) (.inl g)
        · rw [e] at g
          exact nG g
    refine ⟨m' ++ [D], ⟨s.pre.trans (List.prefix_append _ _), s.keep, fun a z => ?_, ⟨?_, fun k xs ys e l => s.zpo.2 k xs ys (by
      have e : (h' ++ [MO.lst acc])[k]? = some (.zp xs ys) := e
      rw [List.getElem?_append_left (Nat.lt_of_lt_of_le l s.zpo.1)] at e
      exact e) l⟩, r⟩, D, rfl, ?_⟩
    · rcases mx a z with z | z
      · exact s.new a z
      · rw [z]; exact .inr hD
    · show h.length ≤ (h' ++ [MO.lst acc]).length
      rw [List.length_append]
      exact Nat.le_trans s.zpo.1 (Nat.le_add_right _ _)
    · show (m' ++ [D])[h'.length]? = some D
      rw [← s.rl.len, List.getElem?_append_right (Nat.le_refl _), Nat.sub_self]
      rfl
end
theorem compL_len {step : D → List D → Hm → Option (List D × Hm)} (hs : ∀ x acc h r, step x acc h = some r → acc.length ≤ r.1.length) : ∀ {xs acc : List D} {h : Hm} {r : List D × Hm}, compL step xs acc h = some r → acc.length ≤ r.1.length
  | [], acc, h, r, e => by cases e; exact Nat.le_refl _
  | x :: xs, acc, h, r, e => by
    simp only [compL] at e
    obtain ⟨r1, e1, e2⟩ := bind_some e
    exact Nat.le_trans (hs x acc h r1 e1) (compL_len hs e2)
/-- what a walk hands out, ahead of its store -/
def Yl (N : Addr → Prop) (d : D) (v : V) (H H' : Hp) : Prop := (H' = H ∧ Rep N H d v) ∨ ∃ T o ws ds, v = .ref T ∧ H T = none ∧ PlT o ∧ H' = upd H T (.frz o (.tup ws)) ∧ d = .tuple ds ∧ ws.length ≤ sizeLine ∧ Reps N H ds ws
/-- a comprehension's turns, by the walk of the evaluator -/
theorem loop_gen {J : It} {xs : List D} {N0 : Addr → Prop} {H0 H1 : Hp} (jok : JOk J N0 H0 xs) {step : D → List D → Hm → Option (List D × Hm)} {Body : V → Hp → (Hp → Prop) → Prop} {Qd : Hp → Prop} {S : List Addr → List D → Hm → Hp → Prop} {NF : List Addr → Hm → Addr → Prop}
    {m0 : List Addr} {acc0 accF : List D} {h0 hF : Hm} (sk : ∀ m acc h H, S m acc h H → Keeps N0 (NF m h) H0 H) (start : S m0 acc0 h0 H1) (run : compL step xs acc0 h0 = some (accF, hF))
    (turn : ∀ d xs' m acc h H r v H', S m acc h H → step d acc h = some r → compL step xs' r.1 r.2 = some (accF, hF) → Yl (NF m h) d v H H' → ∀ Nx : Hp → Prop, (∀ m2 H2, S m2 r.1 r.2 H2 → Nx H2) → Body v H' Nx) (done : ∀ m H, S m accF hF H → Qd H) :
    ∃ W : Nat → Nat → Hp → Prop, (∃ k, W 0 k H1) ∧ ∀ i k H, W i k H → (J.stop i H ∧ Qd H) ∨ (J.go i H ∧ ∃ Nx : Hp → Prop, (∀ H', Nx H' → ∃ k', k' < k ∧ W (i + 1) k' H') ∧ ∀ x H', J.yld i H x H' → Body x H' Nx) := by
  refine ⟨fun i k H => k = xs.length - i ∧ i ≤ xs.length ∧ ∃ m acc h, S m acc h H ∧ compL step (xs.drop i) acc h = some (accF, hF), ⟨xs.length, by simp, Nat.zero_le _, m0, acc0, h0, start, run⟩, ?_⟩
  rintro i k H ⟨rfl, hi, m, acc, h, st, e⟩
  by_cases hlt : i < xs.length
  · have hd : xs.drop i = xs[i] :: xs.drop (i + 1) := List.drop_eq_getElem_cons hlt
    rw [hd] at e
    simp only [compL] at e
    obtain ⟨r, e1, e2⟩ := bind_some e
    refine .inr ⟨jok.go i _ H (sk _ _ _ _ st) hlt, fun H' => ∃ m2, S m2 r.1 r.2 H', fun H' ⟨m2, s2⟩ => ⟨xs.length - (i + 1), by omega, rfl, hlt, m2, r.1, r.2, s2, e2⟩, fun v H' y => ?_⟩
    obtain ⟨d, hd1, hy⟩ := jok.yld i _ H v H' (sk _ _ _ _ st) hlt y
    rw [List.getElem?_eq_getElem hlt] at hd1
    cases hd1
    exact turn xs[i] _ m acc h H r v H' st e1 e2 hy _ fun m2 H2 s2 => ⟨m2, s2⟩
  · have ei : i = xs.length := by omega
    subst ei
    rw [List.drop_length] at e
    cases e
    exact .inl ⟨jok.stop _ H (sk _ _ _ _ st), done m H st⟩
section
variable {P : Pm} {G : Addr → Prop} {nf : Nat → Nat} {D : Addr} {m1 : List Addr} {h1 : Hm} {H1 : Hp} {σ : L2.St} {H : Hp} {Q : VK}
/-- the state of a filling -/
def Fil (K : PySem.W.Frag) (G : Addr → Prop) (nf : Nat → Nat) (D : Addr) (m1 : List Addr) (h1 : Hm) (H1 : Hp) (m : List Addr) (acc : List PyData) (h : Hm) (H : Hp) : Prop :=
  ∃ vs, Stp K (Gx G D) nf m1 h1 H1 m h H ∧ H D = some (.lst vs) ∧ Reps (Fb (Gx G D) m h) H acc vs
theorem Fil.go {m m2 : List Addr} {acc : List PyData} {h h2 : Hm} {H H2 : Hp} {K : PySem.W.Frag} (f : Fil K G nf D m1 h1 H1 m acc h H) (s : Stp K (Gx G D) nf m h H m2 h2 H2) : Fil K G nf D m1 h1 H1 m2 acc h2 H2 := by
  obtain ⟨vs, s0, e, r⟩ := f
  exact ⟨vs, s0.trans s, s.keep D _ e fun z => s0.rl.gm D z.mem (.inr rfl), Reps.keep s.keeps _ _ r⟩
theorem Fil.yl {m : List Addr} {acc : List PyData} {h : Hm} {H H' : Hp} {K : PySem.W.Frag} {d : PyData} {v : V} (f : Fil K G nf D m1 h1 H1 m acc h H) (y : Yl (Fb (Gx G D) m h) d v H H') : Fil K G nf D m1 h1 H1 m acc h H' ∧ Rep (Fb (Gx G D) m h) H' d v ∧ Stp K (Gx G D) nf m h H m h H' := by
  obtain ⟨vs, s0, e, r⟩ := id f
  rcases y with ⟨rfl, y⟩ | ⟨T, o, ws, ds, rfl, hT, pl, rfl, rfl, hz, rs⟩
  · exact ⟨f, y, .refl s0.rl⟩
  · obtain ⟨s2, q2⟩ := s0.rl.newTup hT pl hz rs
    exact ⟨f.go s2, q2, s2⟩
theorem Fil.push {m : List Addr} {acc : List PyData} {h : Hm} {H : Hp} {K : PySem.W.Frag} {d : PyData} {v : V} (f : Fil K G nf D m1 h1 H1 m acc h H) (hD : H1 D = none) (r : Rep (Fb (Gx G D) m h) H d v) (hl : acc.length < sizeLine) :
    ∃ vs, H D = some (.lst vs) ∧ vs.length < sizeLine ∧ Fil K G nf D m1 h1 H1 m (acc ++ [d]) h (upd H D (.lst (vs ++ [v]))) := by
  obtain ⟨vs, s0, e, rs⟩ := f
  have hz : vs.length < sizeLine := by rw [← rs.length]; exact hl
  have rl := s0.rl.wr (zs := vs ++ [v]) (by rw [List.length_append, List.length_singleton]; exact hz)
  exact ⟨vs, e, hz, _, s0.wr hD rl, upd_same, Reps.keep (fun a o e n => ⟨by rw [upd_ne (fun z : a = D => n (.inr (.inr z)))]; exact e, n⟩) _ _ (rs.append ⟨r, trivial⟩)⟩
theorem Fil.sx {m : List Addr} {acc : List PyData} {h : Hm} {H : Hp} {env : Ev} {σ' : L2.St} (f : Fil P.K G nf D m1 h1 H1 m acc h H) (ba : P.c.base ≤ h1.length) (r1 : Rl P.K G nf m1 h1 H1) (yo : ∀ k, P.c.base ≤ k → nf k = P.n0) (es : REs P.K (Gx G D) P.c.scr m h H σ' env) : Sx P (Gx G D) nf m h H σ' env := by
  obtain ⟨vs, s0, e, rs⟩ := f
  exact ⟨s0.rl, es, Nat.le_trans ba (by rw [← r1.len, ← s0.rl.len]; exact s0.pre.length_le), yo⟩
theorem tE_lc {mu : Bool} {elt cond : ME} {t : MT} {it : MI} {own : List Nat} (hs : ∀ i ∈ slT t, i ∈ own) (q : tE P (.lc mu elt t it cond own) σ H Q) : tLc (tI P it) (gMT P.K t) (tT P cond) (tE P elt) own σ H Q := by
  obtain ⟨G, nf, m, h, env, res, h', x, ev, k⟩ := q
  simp only [evE] at ev
  obtain ⟨⟨xs, h1⟩, e1, ev1⟩ := bind_some ev
  obtain ⟨⟨accF, hF⟩, e2, ev2⟩ := bind_some ev1
  clear ev ev1
  simp only at ev2 e2
  split at ev2
  case isFalse => cases ev2
  case isTrue hl =>
  have ev3 := Option.some.inj ev2
  clear ev2
  refine ⟨G, nf, m, h, env, xs, h1, x, e1, fun J m1 H1 s1 jok D hD => ?_⟩
  have x1 := x.go s1
  have f0 : Fil P.K G nf D m1 h1 H1 m1 [] h1 (upd H1 D (.lst [])) := ⟨[], s1.rl.ghost hD, upd_same, trivial⟩
  refine loop_gen (NF := fun m h => Fb (Gx G D) m h) (S := Fil P.K G nf D m1 h1 H1) jok (fun m acc h H ⟨vs, s0, _, _⟩ => s0.kp0 hD) f0 e2 ?_ ?_
  · intro d xs' m2 acc h2 H2 r v H3 f st run y Nx hN
    obtain ⟨f3, q3, s3⟩ := f.yl y
    obtain ⟨env1, t1, st1⟩ := bind_some st
    obtain ⟨⟨cv, h4⟩, t2, st2⟩ := bind_some st1
    obtain ⟨b, t3, st3⟩ := bind_some st2
    clear st st1 st2
    have es3 : REs P.K (Gx G D) P.c.scr m2 h2 H3 (wipe σ own) (wipeE env own) := by
      obtain ⟨vs, s0, _, _⟩ := f3
      exact (x1.es.via s0.pre (s0.kp0 hD)).wipe own
    have rl3 : Rl P.K (Gx G D) nf m2 h2 H3 := s3.rl
    refine gMT_ok (G := Gx G D) rl3 t (.d d) v _ _ env1 _ q3 es3 t1 fun σ2 es2 w2 => ⟨?_, ?_⟩
    · rw [w2 own hs, wipe_wipe]
    refine ⟨Gx G D, nf, m2, h2, env1, cv, h4, b, f3.sx x1.ba s1.rl x1.yo es2, t2, t3, fun m4 H4 s4 => ?_⟩
    have f4 := f3.go s4
    cases b with
    | false =>
      cases st3
      show Nx H4
      exact hN _ _ f4
    | true =>
      show tE P elt σ2 H4 fun y H5 => ∃ acc : List V, H5 D = some (HO.lst acc) ∧ acc.length < sizeLine ∧ Nx (upd H5 D (HO.lst (acc ++ [y])))
      obtain ⟨⟨yv, h5⟩, t4, st4⟩ := bind_some st3
      obtain ⟨⟨z, h6⟩, t5, st5⟩ := bind_some st4
      cases st5
      refine ⟨Gx G D, nf, m4, h4, env1, yv, h5, f4.sx x1.ba s1.rl x1.yo (es2.keep s4), t4, fun u m5 H5 s5 q5 => ?_⟩
      obtain ⟨s6, q6⟩ := s5.rl.toD q5 t5
      have f6 := (f4.go s5).go s6
      have hlen : acc.length < sizeLine := by
        have z := compL_len (fun x acc h r e => step_len e) run
        simp only [List.length_append, List.length_singleton] at z
        have := most_le hl
        omega
      obtain ⟨vs, e7, hz, f7⟩ := f6.push hD q6 hlen
      exact ⟨vs, e7, hz, hN _ _ f7⟩
  · rintro m2 H2 ⟨vs, s0, e, rs⟩
    obtain ⟨m3, s3, q3⟩ := s1.rl.filled (sc := P.c.scr) mu s0 hD e rs
    rw [ev3] at s3 q3
    exact k _ _ _ (s1.trans s3) q3
where
  wipe_wipe {σ : L2.St} : ∀ {vs : List Nat}, wipe (wipe σ vs) vs = wipe σ vs := by
    intro vs
    have key : ∀ us : List Nat, (∀ i ∈ us, i ∈ vs) → ∀ τ : L2.St, wipe (wipe τ us) vs = wipe τ vs := by
      intro us
      induction us with
      | nil => intro _ τ; rfl
      | cons i us ih =>
        intro hu τ
        show wipe ((wipe τ us).set i none) vs = wipe τ vs
        rw [wipe_set (hu i (List.mem_cons_self ..)), ih fun j hj => hu j (List.mem_cons_of_mem _ hj)]
    exact key vs (fun i hi => hi) σ
  step_len {c : Cl} {elt cond : ME} {t : MT} {env : Ev} {own : List Nat} {x : PyData} {acc : List PyData} {h1 : Hm} {r : List PyData × Hm} (e : ((sto t (.d x) (wipeE env own)).bind fun env1 => (evE c cond env1 h1).bind fun k => (tru c k.1 k.2).bind fun b => match b with
      | true => (evE c elt env1 k.2).bind fun y => (toD y.1 y.2).bind fun z => some (acc ++ [z.1], z.2)
      | false => some (acc, k.2)) = some r) : acc.length ≤ r.1.length := by
    obtain ⟨env1, t1, st1⟩ := bind_some e
    obtain ⟨⟨cv, h4⟩, t2, st2⟩ := bind_some st1
    obtain ⟨b, t3, st3⟩ := bind_some st2
    cases b with
    | false => cases st3; exact Nat.le_refl _
    | true =>
      obtain ⟨⟨yv, h5⟩, t4, st4⟩ := bind_some st3
      obtain ⟨⟨z, h6⟩, t5, st5⟩ := bind_some st4
      cases st5
      simp
end
end Mp
set_option Elab.async false
set_option linter.all false
set_option maxRecDepth 100000
set_option maxHeartbeats 1000000
/-! Mp, part M: list comprehensions of two clauses. -/
namespace Mp
open PySem PySem.Spec PyProof.Rows L2 StX
section
variable {P : Pm} {G : Addr → Prop} {nf : Nat → Nat} {D : Addr} {m1 : List Addr} {h1 : Hm} {H1 : Hp} {σ : L2.St} {H : Hp} {Q : VK}
theorem slots_wipe {σ : L2.St} {vs : List Nat} : wipe (wipe σ vs) vs = wipe σ vs := by
  have key : ∀ us : List Nat, (∀ i ∈ us, i ∈ vs) → ∀ τ : L2.St, wipe (wipe τ us) vs = wipe τ vs := by
    intro us
    induction us with
    | nil => intro _ τ; rfl
    | cons i us ih =>
      intro hu τ
      show wipe ((wipe τ us).set i none) vs = wipe τ vs
      rw [wipe_set (hu i (List.mem_cons_self ..)), ih fun j hj => hu j (List.mem_cons_of_mem _ hj)]
  exact key vs (fun i hi => hi) σ
/-- the inner turn of the evaluator -/
def stepI (c : Cl) (elt cond : ME) (t : MT) (own : List Nat) (env : Ev) (x : PyData) (acc : List PyData) (h1 : Hm) : Option (List PyData × Hm) :=
  (sto t (.d x) (wipeE env own)).bind fun env1 => (evE c cond env1 h1).bind fun k => (tru c k.1 k.2).bind fun b => match b with
    | true => (evE c elt env1 k.2).bind fun y => (toD y.1 y.2).bind fun z => some (acc ++ [z.1], z.2)
    | false => some (acc, k.2)
theorem stepI_len {c : Cl} {elt cond : ME} {t : MT} {env : Ev} {own : List Nat} {x : PyData} {acc : List PyData} {h1 : Hm} {r : List PyData × Hm} (e : stepI c elt cond t own env x acc h1 = some r) : acc.length ≤ r.1.length := by
  unfold stepI at e
  obtain ⟨env1, t1, st1⟩ := bind_some e
  obtain ⟨⟨cv, h4⟩, t2, st2⟩ := bind_some st1
  obtain ⟨b, t3, st3⟩ := bind_some st2
  cases b with
  | false => cases st3; exact Nat.le_refl _
  | true =>
    obtain ⟨⟨yv, h5⟩, t4, st4⟩ := bind_some st3
    obtain ⟨⟨z, h6⟩, t5, st5⟩ := bind_some st4
    cases st5
    simp
theorem Keeps.trans {N N1 N2 : Addr → Prop} {H H1 H2 : Hp} (a : Keeps N N1 H H1) (b : Keeps N1 N2 H1 H2) : Keeps N N2 H H2 := fun x o e n => let ⟨p, q⟩ := a x o e n; b x o p q
theorem keeps_push {N : Addr → Prop} {H : Hp} {D : Addr} {u : HO} (hN : N D) : Keeps N N H (upd H D u) := fun a o e n => ⟨by rw [upd_ne (fun z : a = D => n (by rw [z]; exact hN))]; exact e, n⟩
/-- one turn of an inner walk keeps the filling -/
theorem turn_in {elt cond : ME} {t : MT} {own : List Nat} {env : Ev} {σ : L2.St} {d : PyData} {v : V} {m2 : List Addr} {acc : List PyData} {h2 : Hm} {H2 H3 : Hp} {r : List PyData × Hm} {Nx : Hp → Prop} (hs : ∀ i ∈ slT t, i ∈ own) (ba : P.c.base ≤ h1.length) (r1 : Rl P.K G nf m1 h1 H1) (yo : ∀ k, P.c.base ≤ k → nf k = P.n0) (hD : H1 D = none)
    (f : Fil P.K G nf D m1 h1 H1 m2 acc h2 H2) (es : REs P.K (Gx G D) P.c.scr m2 h2 H2 σ env) (st : stepI P.c elt cond t own env d acc h2 = some r) (hz : r.1.length ≤ most) (y : Yl (Fb (Gx G D) m2 h2) d v H2 H3)
    (hN : ∀ m4 H4, Fil P.K G nf D m1 h1 H1 m4 r.1 r.2 H4 → Keeps (Fb (Gx G D) m2 h2) (Fb (Gx G D) m4 r.2) H2 H4 → m2 <+: m4 → Nx H4) :
    gMT P.K t v (wipe σ own) H3 fun σ2 H4 => wipe σ2 own = wipe σ own ∧ tT P cond σ2 H4 fun b H5 =>
      if b = true then tE P elt σ2 H5 fun y H6 => ∃ acc, H6 D = some (.lst acc) ∧ acc.length < sizeLine ∧ Nx (upd H6 D (.lst (acc ++ [y]))) else Nx H5 := by
  obtain ⟨f3, q3, s3⟩ := f.yl y
  unfold stepI at st
  obtain ⟨env1, t1, st1⟩ := bind_some st
  obtain ⟨⟨cv, h4⟩, t2, st2⟩ := bind_some st1
  obtain ⟨b, t3, st3⟩ := bind_some st2
  clear st st1 st2
  have es3 : REs P.K (Gx G D) P.c.scr m2 h2 H3 (wipe σ own) (wipeE env own) := (es.keep s3).wipe own
  refine gMT_ok (G := Gx G D) s3.rl t (.d d) v _ _ env1 _ q3 es3 t1 fun σ2 es2 w2 => ⟨?_, ?_⟩
  · rw [w2 own hs, slots_wipe]
  refine ⟨Gx G D, nf, m2, h2, env1, cv, h4, b, f3.sx ba r1 yo es2, t2, t3, fun m4 H4 s4 => ?_⟩
  have f4 := f3.go s4
  cases b with
  | false =>
    cases st3
    show Nx H4
    exact hN _ _ f4 (s3.trans s4).keeps (s3.trans s4).pre
  | true =>
    show tE P elt σ2 H4 fun y H5 => ∃ acc : List V, H5 D = some (HO.lst acc) ∧ acc.length < sizeLine ∧ Nx (upd H5 D (HO.lst (acc ++ [y])))
    obtain ⟨⟨yv, h5⟩, t4, st4⟩ := bind_some st3
    obtain ⟨⟨z, h6⟩, t5, st5⟩ := bind_some st4
    cases st5
    refine ⟨Gx G D, nf, m4, h4, env1, yv, h5, f4.sx ba r1 yo (es2.keep s4), t4, fun u m5 H5 s5 q5 => ?_⟩
    obtain ⟨s6, q6⟩ := s5.rl.toD q5 t5
    have f6 := (f4.go s5).go s6
    have hlen : acc.length < sizeLine := by
      simp only [List.length_append, List.length_singleton] at hz
      have := most_le hz
      omega
    obtain ⟨vs, e7, hz, f7⟩ := f6.push hD q6 hlen
    have s7 := s3.trans (s4.trans (s5.trans s6))
    exact ⟨vs, e7, hz, hN _ _ f7 (s7.keeps.trans (keeps_push (.inr (.inr rfl)))) s7.pre⟩
theorem tE_lc2 {mu : Bool} {elt cond cond2 : ME} {t t2 : MT} {it it2 : MI} {own own2 : List Nat} (hs : ∀ i ∈ slT t, i ∈ own) (hs2 : ∀ i ∈ slT t2, i ∈ own2) (q : tE P (.lc2 mu elt t it cond t2 it2 cond2 own own2) σ H Q) :
    tLc2 (tI P it) (gMT P.K t) (tT P cond) (tI P it2) (gMT P.K t2) (tT P cond2) (tE P elt) own own2 σ H Q := by
  obtain ⟨G, nf, m, h, env, res, h', x, ev, k⟩ := q
  simp only [evE] at ev
  obtain ⟨⟨xs, h1⟩, e1, ev1⟩ := bind_some ev
  obtain ⟨⟨accF, hF⟩, e2, ev2⟩ := bind_some ev1
  clear ev ev1
  simp only at ev2 e2
  split at ev2
  case isFalse => cases ev2
  case isTrue hl =>
  have ev3 := Option.some.inj ev2
  clear ev2
  refine ⟨G, nf, m, h, env, xs, h1, x, e1, fun J m1 H1 s1 jok D hD => ?_⟩
  have x1 := x.go s1
  have f0 : Fil P.K G nf D m1 h1 H1 m1 [] h1 (upd H1 D (.lst [])) := ⟨[], s1.rl.ghost hD, upd_same, trivial⟩
  have e2 : compL (fun x acc h1 => (sto t (.d x) (wipeE env own)).bind fun env1 => (evE P.c cond env1 h1).bind fun k => (tru P.c k.1 k.2).bind fun b => match b with
      | true => (evI P.c it2 env1 k.2).bind fun r2 => compL (stepI P.c elt cond2 t2 own2 env1) r2.1 acc r2.2
      | false => some (acc, k.2)) xs [] h1 = some (accF, hF) := e2
  refine loop_gen (NF := fun m h => Fb (Gx G D) m h) (S := Fil P.K G nf D m1 h1 H1) jok (fun m acc h H ⟨vs, s0, _, _⟩ => s0.kp0 hD) f0 e2 ?_ ?_
  · intro d xs' m2 acc h2 H2 r v H3 f st run y Nx hN
    have hz : r.1.length ≤ most := Nat.le_trans (compL_len (fun x acc h r e => out_len e) run) hl
    obtain ⟨f3, q3, s3⟩ := f.yl y
    obtain ⟨env1, t1, st1⟩ := bind_some st
    obtain ⟨⟨cv, h4⟩, t2', st2⟩ := bind_some st1
    obtain ⟨b, t3, st3⟩ := bind_some st2
    clear st st1 st2
    have es3 : REs P.K (Gx G D) P.c.scr m2 h2 H3 (wipe σ own) (wipeE env own) := by
      obtain ⟨vs, s0, _, _⟩ := f3
      exact (x1.es.via s0.pre (s0.kp0 hD)).wipe own
    refine gMT_ok (G := Gx G D) s3.rl t (.d d) v _ _ env1 _ q3 es3 t1 fun σ2 es2 w2 => ⟨?_, ?_⟩
    · rw [w2 own hs, slots_wipe]
    refine ⟨Gx G D, nf, m2, h2, env1, cv, h4, b, f3.sx x1.ba s1.rl x1.yo es2, t2', t3, fun m4 H4 s4 => ?_⟩
    have f4 := f3.go s4
    cases b with
    | false =>
      cases st3
      show Nx H4
      exact hN _ _ f4
    | true =>
      obtain ⟨⟨ys, h5⟩, t4, st4⟩ := bind_some st3
      refine ⟨Gx G D, nf, m4, h4, env1, ys, h5, f4.sx x1.ba s1.rl x1.yo (es2.keep s4), t4, fun J1 m5 H5 s5 jok1 => ?_⟩
      have f5 := f4.go s5
      refine loop_gen (NF := fun m h => Fb (Gx G D) m h) (S := fun m acc h H => Fil P.K G nf D m1 h1 H1 m acc h H ∧ Keeps (Fb (Gx G D) m5 h5) (Fb (Gx G D) m h) H5 H ∧ m5 <+: m) (m0 := m5) (accF := r.1) (hF := r.2) jok1 (fun m acc h H s => s.2.1) ⟨f5, fun a o e n => ⟨e, n⟩, List.prefix_refl _⟩ st4 ?_ ?_
      · intro d2 ys' m6 acc6 h6 H6 r6 v6 H7 ⟨f6, kp6, pre6⟩ st6 run6 y6 Nx1 hN1
        have hz6 : r6.1.length ≤ most := Nat.le_trans (compL_len (fun x acc h r e => stepI_len e) run6) hz
        exact turn_in hs2 x1.ba s1.rl x1.yo hD f6 (((es2.keep s4).keep s5).via pre6 kp6) st6 hz6 y6 fun m8 H8 f8 kp8 pre8 => hN1 _ _ ⟨f8, kp6.trans kp8, pre6.trans pre8⟩
      · intro m6 H6 s6
        exact hN _ _ s6.1
  · rintro m2 H2 ⟨vs, s0, e, rs⟩
    obtain ⟨m3, s3, q3⟩ := s1.rl.filled (sc := P.c.scr) mu s0 hD e rs
    rw [ev3] at s3 q3
    exact k _ _ _ (s1.trans s3) q3
where
  out_len {c : Cl} {elt cond cond2 : ME} {t t2 : MT} {it2 : MI} {env : Ev} {own own2 : List Nat} {x : PyData} {acc : List PyData} {h1 : Hm} {r : List PyData × Hm} (e : ((sto t (.d x) (wipeE env own)).bind fun env1 => (evE c cond env1 h1).bind fun k => (tru c k.1 k.2).bind fun b => match b with
      | true => (evI c it2 env1 k.2).bind fun r2 => compL (stepI c elt cond2 t2 own2 env1) r2.1 acc r2.2
      | false => some (acc, k.2)) = some r) : acc.length ≤ r.1.length := by
    obtain ⟨env1, t1, st1⟩ := bind_some e
    obtain ⟨⟨cv, h4⟩, t2, st2⟩ := bind_some st1
    obtain ⟨b, t3, st3⟩ := bind_some st2
    cases b with
    | false => cases st3; exact Nat.le_refl _
    | true =>
      obtain ⟨⟨ys, h5⟩, t4, st4⟩ := bind_some st3
      exact compL_len (fun x acc h r e => stepI_len e) st4
end
end Mp
set_option Elab.async false
set_option linter.all false
set_option maxRecDepth 100000
set_option maxHeartbeats 1000000
/-! Mp, part N: stores and statements as readings. -/
namespace Mp
open PySem PySem.Spec PyProof.Rows L2 StX

/-- e.f = value, as a target -/
def gFld (K : PySem.W.Frag) (to : TE) (f : Str) : TG := fun v σ H Q => to σ H fun x H1 => ∃ a C dx fs, x = .ref a ∧ H1 a = some (.ins C dx fs) ∧ Cls K C ∧ NoAttr K C f ∧ fs.length < 1000 ∧ Q σ (upd H1 a (.ins C dx (L2.putF f v fs)))
theorem pg_fld {X : Cx} {o : Expr} {f : Str} {pos : Pos} {to : TE} (ho : PE X o to) : PG X (.Attribute o f pos) (gFld X.K to f) := by
  refine ⟨fun pins s σ H v u Q I r h => ?_⟩
  rw [show assign (.Attribute o f pos) X.env u = (do
      let ov ← holding [u] (eval o X.env)
      standAt pos.atName
      holding [u, ov] (setAttr ov f u)
      release [u, ov] []) from rfl]
  refine wpAny_bind (wpAny_holding (thn (ho.run pins s σ H _ I h) fun ov s1 ⟨x, H1, I1, r1, a, C, dx, fs, ex, ea, cl, na, hl, q⟩ => ?_))
  subst ex
  obtain rfl : ov = Value.ref a := r1
  refine wpAny_bind (wpAny_standAt (wpAny_bind (wpAny_holding (setattr_ok I1 ea cl na hl r fun s3 I3 => ?_))))
  exact wpAny_release ⟨σ, _, I3, q⟩
theorem putF_keys {f : Str} {d : PyData} {v : V} : ∀ {fs : List (Str × PyData)} {vs : List (Str × V)}, vs.map (·.1) = fs.map (·.1) → (L2.putF f v vs).map (·.1) = (stA.putF f d fs).map (·.1)
  | [], [], _ => rfl
  | [], _ :: _, e => by cases e
  | _ :: _, [], e => by cases e
  | (g, x) :: fs, (g', y) :: vs, e => by
    have k1 : g' = g := (List.cons.inj e).1
    have k2 := (List.cons.inj e).2
    subst k1
    unfold L2.putF stA.putF
    by_cases q : g' = f
    · rw [if_pos q, if_pos q]
      exact congrArg _ k2
    · rw [if_neg q, if_neg q]
      exact congrArg _ (putF_keys k2)
theorem putF_reps {N : Addr → Prop} {H : Hp} {f : Str} {d : PyData} {v : V} (r : Rep N H d v) : ∀ {fs : List (Str × PyData)} {vs : List (Str × V)}, vs.map (·.1) = fs.map (·.1) → Reps N H (fs.map (·.2)) (vs.map (·.2)) → Reps N H ((stA.putF f d fs).map (·.2)) ((L2.putF f v vs).map (·.2))
  | [], [], _, _ => ⟨r, trivial⟩
  | [], _ :: _, e, _ => by cases e
  | _ :: _, [], e, _ => by cases e
  | (g, x) :: fs, (g', y) :: vs, e, rs => by
    have k1 : g' = g := (List.cons.inj e).1
    have k2 := (List.cons.inj e).2
    subst k1
    unfold L2.putF stA.putF
    by_cases q : g' = f
    · rw [if_pos q, if_pos q]
      exact ⟨r, rs.2⟩
    · rw [if_neg q, if_neg q]
      exact ⟨rs.1, putF_reps r k2 rs.2⟩
theorem putF_mem {f : Str} {d : PyData} : ∀ {fs : List (Str × PyData)} {p : Str × PyData}, p ∈ stA.putF f d fs → p.1 = f ∨ ∃ q ∈ fs, q.1 = p.1
  | [], p, h => by
    rw [List.mem_singleton.mp h]
    exact .inl rfl
  | (g, x) :: fs, p, h => by
    unfold stA.putF at h
    by_cases q : g = f
    · rw [if_pos q] at h
      rcases List.mem_cons.mp h with z | z
      · rw [z]; exact .inl q
      · exact .inr ⟨p, List.mem_cons_of_mem _ z, rfl⟩
    · rw [if_neg q] at h
      rcases List.mem_cons.mp h with z | z
      · exact .inr ⟨(g, x), List.mem_cons_self .., by rw [z]⟩
      · rcases putF_mem z with z | ⟨q, h1, h2⟩
        · exact .inl z
        · exact .inr ⟨q, List.mem_cons_of_mem _ h1, h2⟩
section
variable {P : Pm} {G : Addr → Prop} {nf : Nat → Nat} {m m' : List Addr} {h h' : Hm} {H H' : Hp} {σ : L2.St} {env env' : Ev}
/-- a target's reading -/
def gMA (P : Pm) : MA → TG
  | .pt t => gMT P.K t
  | .fld i _ f => gFld P.K (tVar i) f
  | .sub o ix => gSub (tE P o) (tE P ix) rSetL
def gMAs (P : Pm) : MAs → TGs
  | .nil => gNil
  | .cons t r => gCons (gMA P t) (gMAs P r)
/-- the fields that are stored are no attributes of the class -/
def naA (K : PySem.W.Frag) : MA → Prop
  | .fld _ c f => NoAttr K (He.ga K c) f
  | _ => True
def naAs (K : PySem.W.Frag) : MAs → Prop
  | .nil => True
  | .cons t r => naA K t ∧ naAs K r
theorem gMA_ok {t : MA} {d : EV} {v : V} {Q : L2.St → Hp → Prop} (na : naA P.K t) (x : Sx P G nf m h H σ env) (r : RE P.K G P.c.scr m h H v d) (e : stA P.c t d env h = some (env', h'))
    (k : ∀ σ' m' H', Stp P.K G nf m h H m' h' H' → REs P.K G P.c.scr m' h' H' σ' env' → Q σ' H') : gMA P t v σ H Q := by
  cases t with
  | pt t =>
    simp only [stA] at e
    obtain ⟨e1, q1, q2⟩ := Option.map_eq_some_iff.mp e
    cases q2
    exact gMT_ok x.rl t d v σ env _ Q r x.es q1 fun σ' es' _ => k σ' m H (.refl x.rl) es'
  | fld i c f =>
    simp only [stA] at e
    split at e
    · rename_i j hj
      obtain ⟨⟨d1, h1⟩, t1, e1⟩ := bind_some e
      split at e1
      · rename_i n fs hn
        split at e1
        · rename_i hc
          cases e1
          obtain ⟨rfl, hl⟩ := hc
          obtain ⟨u, u1, a, rfl, ha⟩ := x.es.2 i _ hj
          obtain ⟨s1, q1⟩ := x.rl.toD r t1
          obtain ⟨dx, vs, p, ks, cl, nas, rs⟩ := s1.rl.ob j a _ ha hn
          have lv : vs.length = fs.length := by have z := congrArg List.length ks; simpa using z
          refine ⟨.ref a, u1, a, _, dx, vs, rfl, p, cl, na, by omega, ?_⟩
          have s2 := s1.rl.write (o' := .ins n (stA.putF f d1 fs)) (u := .ins (He.ga P.K n) dx (L2.putF f v vs)) ha hn rfl rfl nofun nofun nofun ⟨dx, _, upd_same, putF_keys ks, cl, fun p' hp' => ?_, Reps.keep (s1.rl.writeKeeps ha hn rfl) _ _ (putF_reps q1 ks rs)⟩ fun zs e => by
            rcases e with e | ⟨u, e⟩ <;> cases e
          · exact k σ m _ (s1.trans s2) ((x.es.keep s1).keep s2)
          · rcases putF_mem hp' with z | ⟨q, h1, h2⟩
            · rw [z]; exact na
            · rw [← h2]; exact nas q h1
        · cases e1
      · cases e1
    · cases e
  | sub o ix =>
    simp only [stA] at e
    obtain ⟨⟨v1, h1⟩, e1, e2⟩ := bind_some e
    obtain ⟨⟨v2, h2⟩, e3, e4⟩ := bind_some e2
    clear e e2
    split at e4
    · rename_i j i hv1 hv2
      simp only at hv1 hv2
      subst hv1 hv2
      obtain ⟨⟨d1, h3⟩, e5, e6⟩ := bind_some e4
      split at e6
      · rename_i xs hx
        split at e6
        · rename_i n hn
          cases e6
          refine ⟨G, nf, m, h, env, _, h1, x, e1, fun y m1 H1 s1 q1 => ⟨G, nf, m1, h1, env, _, h2, x.go s1, e3, fun z m2 H2 s2 q2 => ?_⟩⟩
          have s12 := s1.trans s2
          obtain ⟨s3, q3⟩ := s2.rl.toD (r.keep s12) e5
          obtain ⟨a, rfl, ha⟩ := q1
          cases (show z = .int i from q2)
          have ha2 := s2.at_ ha
          obtain ⟨vs, p, rs⟩ := s3.rl.ob j a _ ha2 hx
          refine ⟨a, vs, i, n, rfl, rfl, p, by rw [← rs.length]; exact hn, ?_⟩
          have s4 := s3.rl.write (o' := .lst (xs.set n d1)) (u := .lst (vs.set n v)) ha2 hx rfl rfl nofun nofun nofun ⟨_, upd_same, Reps.keep (s3.rl.writeKeeps ha2 hx rfl) _ _ (Reps.set q3 n rs)⟩ fun zs e => by
            rcases e with e | ⟨u, e⟩
            · cases e
              rw [List.length_set]
              exact s3.rl.sm a vs (.inl p)
            · cases e
          have s := s12.trans (s3.trans s4)
          exact k σ m2 _ s (x.es.keep s)
        · cases e6
      · cases e6
    · cases e4
theorem gMAs_ok : ∀ {ts : MAs} {ds : List EV} {vs : List V} {m : List Addr} {h : Hm} {H : Hp} {σ : L2.St} {env : Ev} {Q : L2.St → Hp → Prop}, naAs P.K ts → Sx P G nf m h H σ env → REv P.K G P.c.scr m h H vs ds → stAs P.c ts ds env h = some (env', h') →
    (∀ σ' m' H', Stp P.K G nf m h H m' h' H' → REs P.K G P.c.scr m' h' H' σ' env' → Q σ' H') → gMAs P ts vs σ H Q
  | .nil, [], [], m, h, H, σ, env, Q, _, x, _, e, k => by
    cases e
    exact ⟨rfl, k σ m H (.refl x.rl) x.es⟩
  | .nil, [], _ :: _, _, _, _, _, _, _, _, _, r, _, _ => r.elim
  | .nil, _ :: _, _, _, _, _, _, _, _, _, _, _, e, _ => by cases e
  | .cons t ts, [], _, _, _, _, _, _, _, _, _, _, e, _ => by cases e
  | .cons t ts, _ :: _, [], _, _, _, _, _, _, _, _, r, _, _ => r.elim
  | .cons t ts, d :: ds, v :: vs, m, h, H, σ, env, Q, na, x, r, e, k => by
    simp only [stAs] at e
    obtain ⟨⟨env1, h1⟩, e1, e2⟩ := bind_some e
    refine ⟨v, vs, rfl, gMA_ok na.1 x r.1 e1 fun σ1 m1 H1 s1 es1 => ?_⟩
    exact gMAs_ok na.2 ⟨s1.rl, es1, Nat.le_trans x.ba (s1.lenle x.rl), x.yo⟩ (r.2.keep s1) e2 fun σ2 m2 H2 s2 es2 => k σ2 m2 H2 (s1.trans s2) es2

/-! ### statements -/
/-- what a statement's end is to give -/
def Fin (P : Pm) (G : Addr → Prop) (nf : Nat → Nat) (m : List Addr) (h : Hm) (H : Hp) (D : Ends) (out : Out) (env' : Ev) (h' : Hm) : Prop := ∀ (σ' : L2.St) (m' : List Addr) (H' : Hp), Stp P.K G nf m h H m' h' H' → match out with
  | .next => REs P.K G P.c.scr m' h' H' σ' env' → D.nx σ' H'
  | .brk => REs P.K G P.c.scr m' h' H' σ' env' → D.bk σ' H'
  | .cont => REs P.K G P.c.scr m' h' H' σ' env' → D.ct σ' H'
  | .ret e => ∀ v, RE P.K G P.c.scr m' h' H' v e → D.rt v H'
theorem Fin.go {m m1 : List Addr} {h h1 : Hm} {H H1 : Hp} {D : Ends} {out : Out} (f : Fin P G nf m h H D out env' h') (s : Stp P.K G nf m h H m1 h1 H1) : Fin P G nf m1 h1 H1 D out env' h' := fun σ' m' H' s' => f σ' m' H' (s.trans s')
def tSt (P : Pm) (s : MS) : TS := fun D σ H => ∃ (G : Addr → Prop) (nf : Nat → Nat) (m : List Addr) (h : Hm) (env : Ev) (out : Out) (env' : Ev) (h' : Hm), Sx P G nf m h H σ env ∧ evS P.c s env h = some (out, env', h') ∧ Fin P G nf m h H D out env' h'
def tSs (P : Pm) (s : MSs) : TS := fun D σ H => ∃ (G : Addr → Prop) (nf : Nat → Nat) (m : List Addr) (h : Hm) (env : Ev) (out : Out) (env' : Ev) (h' : Hm), Sx P G nf m h H σ env ∧ evSs P.c s env h = some (out, env', h') ∧ Fin P G nf m h H D out env' h'
variable {D : Ends}
theorem tSt_asg {t : MA} {e : ME} (na : naA P.K t) (q : tSt P (.asg t e) D σ H) : tAsg (tE P e) (gMA P t) D σ H := by
  obtain ⟨G, nf, m, h, env, out, env', h', x, ev, f⟩ := q
  simp only [evS] at ev
  obtain ⟨⟨v1, h1⟩, e1, ev1⟩ := bind_some ev
  obtain ⟨⟨env2, h2⟩, e2, ev2⟩ := bind_some ev1
  cases ev2
  refine ⟨G, nf, m, h, env, v1, h1, x, e1, fun y m1 H1 s1 q1 => ?_⟩
  exact gMA_ok na (x.go s1) q1 e2 fun σ2 m2 H2 s2 es2 => f σ2 m2 H2 (s1.trans s2) es2
theorem tSt_fld {i : Nat} {c f : Str} {e : ME} (na : NoAttr P.K (He.ga P.K c) f) (q : tSt P (.asg (.fld i c f) e) D σ H) : sFld P.K (tVar i) (tE P e) f D σ H := tSt_asg (t := .fld i c f) na q
/-- a, b = x, y: the tuple made, then its parts stored -/
theorem tSt_par {ts : MAs} {es : MEs} {n : Nat} (na : naAs P.K ts) (hn : ∀ vs env h r, evVs P.c es env h = some (vs, r) → vs.length = n) (hz : n ≤ sizeLine) (q : tSt P (.par ts es) D σ H) : tAsg (tTup (tVs P es)) (gTup P.K n (gMAs P ts)) D σ H := by
  obtain ⟨G, nf, m, h, env, out, env', h', x, ev, f⟩ := q
  simp only [evS] at ev
  obtain ⟨⟨vs, h1⟩, e1, ev1⟩ := bind_some ev
  obtain ⟨⟨env2, h2⟩, e2, ev2⟩ := bind_some ev1
  cases ev2
  refine ⟨G, nf, m, h, env, vs, h1, x, e1, fun us m1 H1 s1 q1 => ?_⟩
  have hl : us.length = n := by rw [← hn vs env h h1 e1]; exact REv_len q1
  refine ⟨by rw [hl]; exact hz, fun p hp => ?_⟩
  have s2 := s1.rl.laid (o := .tup us) hp fun zs e => by
    rcases e with e | ⟨u, e⟩ <;> cases e
  refine ⟨p, us, rfl, .of upd_same, hl, ?_⟩
  exact gMAs_ok na ((x.go s1).go s2) (q1.keep s2) e2 fun σ3 m3 H3 s3 es3 => f σ3 m3 H3 (s1.trans (s2.trans s3)) es3
where
  REv_len {G : Addr → Prop} {K : PySem.W.Frag} {sc : List Int} {m : List Addr} {h : Hm} {H : Hp} : ∀ {vs : List V} {es : List EV}, REv K G sc m h H vs es → vs.length = es.length
    | [], [], _ => rfl
    | _ :: _, _ :: _, r => congrArg (· + 1) (REv_len r.2)
    | [], _ :: _, r => r.elim
    | _ :: _, [], r => r.elim
/-- the same with plain local names: stored from the right -/
theorem tSt_par2 {i j : Nat} {es : MEs} (q : tSt P (.par (.cons (.pt (.nm i)) (.cons (.pt (.nm j)) .nil)) es) D σ H) : tPar i j (tVs P es) D σ H := by
  obtain ⟨G, nf, m, h, env, out, env', h', x, ev, f⟩ := q
  simp only [evS] at ev
  obtain ⟨⟨vs, h1⟩, e1, ev1⟩ := bind_some ev
  obtain ⟨⟨env2, h2⟩, e2, ev2⟩ := bind_some ev1
  cases ev2
  refine ⟨G, nf, m, h, env, vs, h1, x, e1, fun us m1 H1 s1 q1 => ?_⟩
  match vs, us, q1, e2 with
  | [a, b], [u, v], q1, e2 =>
    simp only [stAs, stA, sto, Option.map_some, Option.bind_some] at e2
    cases e2
    exact ⟨u, v, rfl, f _ m1 H1 s1 (((x.es.keep s1).set i q1.1).set j q1.2.1)⟩
  | [], _, _, e2 => cases e2
  | [_], _, _, e2 => simp only [stAs, stA, sto, Option.map_some, Option.bind_some] at e2; cases e2
  | _ :: _ :: _ :: _, _, _, e2 => simp only [stAs, stA, sto, Option.map_some, Option.bind_some] at e2; cases e2
  | [_, _], [], q1, _ => exact q1.elim
  | [_, _], [_], q1, _ => exact q1.2.elim
  | [_, _], _ :: _ :: _ :: _, q1, _ => exact q1.2.2.elim
theorem tSt_par3 {i j l : Nat} {es : MEs} (q : tSt P (.par (.cons (.pt (.nm i)) (.cons (.pt (.nm j)) (.cons (.pt (.nm l)) .nil))) es) D σ H) : tPar3 i j l (tVs P es) D σ H := by
  obtain ⟨G, nf, m, h, env, out, env', h', x, ev, f⟩ := q
  simp only [evS] at ev
  obtain ⟨⟨vs, h1⟩, e1, ev1⟩ := bind_some ev
  obtain ⟨⟨env2, h2⟩, e2, ev2⟩ := bind_some ev1
  cases ev2
  refine ⟨G, nf, m, h, env, vs, h1, x, e1, fun us m1 H1 s1 q1 => ?_⟩
  match vs, us, q1, e2 with
  | [a, b, c], [u, v, w], q1, e2 =>
    simp only [stAs, stA, sto, Option.map_some, Option.bind_some] at e2
    cases e2
    exact ⟨u, v, w, rfl, f _ m1 H1 s1 ((((x.es.keep s1).set i q1.1).set j q1.2.1).set l q1.2.2.1)⟩
  | [], _, _, e2 => cases e2
  | [_], _, _, e2 => simp only [stAs, stA, sto, Option.map_some, Option.bind_some] at e2; cases e2
  | [_, _], _, _, e2 => simp only [stAs, stA, sto, Option.map_some, Option.bind_some] at e2; cases e2
  | _ :: _ :: _ :: _ :: _, _, _, e2 => simp only [stAs, stA, sto, Option.map_some, Option.bind_some] at e2; cases e2
  | [_, _, _], [], q1, _ => exact q1.elim
  | [_, _, _], [_], q1, _ => exact q1.2.elim
  | [_, _, _], [_, _], q1, _ => exact q1.2.2.elim
  | [_, _, _], _ :: _ :: _ :: _ :: _, q1, _ => exact q1.2.2.2.elim
theorem tSt_expr {e : ME} (q : tSt P (.expr e) D σ H) : tDrop (tE P e) D σ H := by
  obtain ⟨G, nf, m, h, env, out, env', h', x, ev, f⟩ := q
  simp only [evS] at ev
  obtain ⟨⟨v1, h1⟩, e1, ev1⟩ := bind_some ev
  cases ev1
  exact ⟨G, nf, m, h, env, v1, _, x, e1, fun y m1 H1 s1 q1 => f σ m1 H1 s1 (x.es.keep s1)⟩
theorem tSt_ret {e : ME} (q : tSt P (.ret e) D σ H) : tRet (tE P e) D σ H := by
  obtain ⟨G, nf, m, h, env, out, env', h', x, ev, f⟩ := q
  simp only [evS] at ev
  obtain ⟨⟨v1, h1⟩, e1, ev1⟩ := bind_some ev
  cases ev1
  exact ⟨G, nf, m, h, env, v1, _, x, e1, fun y m1 H1 s1 q1 => f σ m1 H1 s1 y q1⟩
theorem tSt_retN (q : tSt P .retN D σ H) : tRetN D σ H := by
  obtain ⟨G, nf, m, h, env, out, env', h', x, ev, f⟩ := q
  cases ev
  exact f σ m H (.refl x.rl) .non rfl
theorem tSt_brk (q : tSt P .brk D σ H) : tBreak D σ H := by
  obtain ⟨G, nf, m, h, env, out, env', h', x, ev, f⟩ := q
  cases ev
  exact f σ m H (.refl x.rl) x.es
theorem tSt_cont (q : tSt P .cont D σ H) : tCont D σ H := by
  obtain ⟨G, nf, m, h, env, out, env', h', x, ev, f⟩ := q
  cases ev
  exact f σ m H (.refl x.rl) x.es
theorem tSt_pass (q : tSt P .pass D σ H) : tNext D σ H := by
  obtain ⟨G, nf, m, h, env, out, env', h', x, ev, f⟩ := q
  cases ev
  exact f σ m H (.refl x.rl) x.es
theorem tSt_never (q : tSt P .never D σ H) : tNever D σ H := by
  obtain ⟨G, nf, m, h, env, out, env', h', x, ev, f⟩ := q
  cases ev
theorem tSt_ifs {t : ME} {a b : MSs} (q : tSt P (.ifs t a b) D σ H) : tIfS (tT P t) (tSs P a) (tSs P b) D σ H := by
  obtain ⟨G, nf, m, h, env, out, env', h', x, ev, f⟩ := q
  simp only [evS] at ev
  obtain ⟨⟨v1, h1⟩, e1, ev1⟩ := bind_some ev
  obtain ⟨bb, e2, ev2⟩ := bind_some ev1
  refine ⟨G, nf, m, h, env, v1, h1, bb, x, e1, e2, fun m1 H1 s1 => ?_⟩
  cases bb with
  | true => exact ⟨G, nf, m1, h1, env, out, env', h', x.go s1, ev2, f.go s1⟩
  | false => exact ⟨G, nf, m1, h1, env, out, env', h', x.go s1, ev2, f.go s1⟩
theorem tSs_nil (q : tSs P .nil D σ H) : tNext D σ H := by
  obtain ⟨G, nf, m, h, env, out, env', h', x, ev, f⟩ := q
  cases ev
  exact f σ m H (.refl x.rl) x.es
theorem tSs_cons {s : MS} {r : MSs} (q : tSs P (.cons s r) D σ H) : tSeq (tSt P s) (tSs P r) D σ H := by
  obtain ⟨G, nf, m, h, env, out, env', h', x, ev, f⟩ := q
  simp only [evSs] at ev
  obtain ⟨⟨o1, env1, h1⟩, e1, ev1⟩ := bind_some ev
  refine ⟨G, nf, m, h, env, o1, env1, h1, x, e1, fun σ1 m1 H1 s1 => ?_⟩
  cases o1 with
  | next => exact fun es1 => ⟨G, nf, m1, h1, env1, out, env', h', ⟨s1.rl, es1, Nat.le_trans x.ba (s1.lenle x.rl), x.yo⟩, ev1, f.go s1⟩
  | brk => cases ev1; exact f σ1 m1 H1 s1
  | cont => cases ev1; exact f σ1 m1 H1 s1
  | ret v => cases ev1; exact f σ1 m1 H1 s1
theorem tSt_for {t : MT} {it : MI} {body : MSs} (q : tSt P (.for_ t it body) D σ H) : tFor (tI P it) (gMT P.K t) (tSs P body) D σ H := by
  obtain ⟨G, nf, m, h, env, out, env', h', x, ev, f⟩ := q
  simp only [evS] at ev
  obtain ⟨⟨xs, h1⟩, e1, ev1⟩ := bind_some ev
  clear ev
  refine ⟨G, nf, m, h, env, xs, h1, x, e1, fun J m1 H1 s1 jok => ?_⟩
  have x1 := x.go s1
  have f1 := f.go s1
  refine ⟨fun i k σ H => k = xs.length - i ∧ i ≤ xs.length ∧ ∃ m2 h2 env2, Stp P.K G nf m1 h1 H1 m2 h2 H ∧ REs P.K G P.c.scr m2 h2 H σ env2 ∧ forL (fun x env1 h1 => (sto t (.d x) env1).bind fun env2 => evSs P.c body env2 h1) (xs.drop i) env2 h2 = some (out, env', h'), ⟨xs.length, by simp, Nat.zero_le _, m1, h1, env, .refl s1.rl, x1.es, ev1⟩, ?_⟩
  rintro i k σ2 H2 ⟨rfl, hi, m2, h2, env2, s2, es2, e⟩
  by_cases hlt : i < xs.length
  · have hd : xs.drop i = xs[i] :: xs.drop (i + 1) := List.drop_eq_getElem_cons hlt
    rw [hd] at e
    simp only [forL] at e
    obtain ⟨⟨o3, env3, h3⟩, e3, e4⟩ := bind_some e
    obtain ⟨env4, e5, e6⟩ := bind_some e3
    refine .inr ⟨jok.go i _ H2 s2.keeps hlt, fun σ' H' => ∃ m2 h2 env2, Stp P.K G nf m1 h1 H1 m2 h2 H' ∧ REs P.K G P.c.scr m2 h2 H' σ' env2 ∧ forL (fun x env1 h1 => (sto t (.d x) env1).bind fun env2 => evSs P.c body env2 h1) (xs.drop (i + 1)) env2 h2 = some (out, env', h'), fun σ' H' r => ⟨xs.length - (i + 1), by omega, rfl, hlt, r⟩, fun v H3 y => ?_⟩
    obtain ⟨d, hd1, hy⟩ := jok.yld i _ H2 v H3 s2.keeps hlt y
    rw [List.getElem?_eq_getElem hlt] at hd1
    cases hd1
    have z : Rep (Fb G m2 h2) H3 xs[i] v ∧ Stp P.K G nf m2 h2 H2 m2 h2 H3 := by
      rcases hy with ⟨rfl, y⟩ | ⟨T, o, ws, ds, rfl, hT, pl, rfl, he, hz, rs⟩
      · exact ⟨y, .refl s2.rl⟩
      · obtain ⟨s3, q3⟩ := s2.rl.newTup hT pl hz rs
        rw [he]
        exact ⟨q3, s3⟩
    obtain ⟨q3, s3⟩ := z
    refine gMT_ok s3.rl t (.d xs[i]) v σ2 env2 env4 _ q3 (es2.keep s3) e5 fun σ4 es4 _ => ?_
    have s23 := s2.trans s3
    have x4 : Sx P G nf m2 h2 H3 σ4 env4 := ⟨s3.rl, es4, Nat.le_trans x1.ba (s23.lenle s1.rl), x.yo⟩
    refine ⟨G, nf, m2, h2, env4, o3, env3, h3, x4, e6, fun σ5 m5 H5 s5 => ?_⟩
    have s25 := s23.trans s5
    cases o3 with
    | next => exact fun es5 => ⟨m5, h3, env3, s25, es5, e4⟩
    | cont => exact fun es5 => ⟨m5, h3, env3, s25, es5, e4⟩
    | brk =>
      cases e4
      exact fun es5 => f1 σ5 m5 H5 s25 es5
    | ret v =>
      cases e4
      exact fun w hw => f1 σ5 m5 H5 s25 w hw
  · have ei : i = xs.length := by omega
    subst ei
    rw [List.drop_length] at e
    cases e
    exact .inl ⟨jok.stop _ H2 s2.keeps, f1 σ2 m2 H2 s2 es2⟩
theorem tSt_while {t : ME} {body : MSs} (q : tSt P (.while_ t body) D σ H) : tWhile (tT P t) (tSs P body) D σ H := by
  obtain ⟨G, nf, m, h, env, out, env', h', x, ev, f⟩ := q
  simp only [evS] at ev
  refine ⟨fun n σ2 H2 => ∃ m2 h2 env2, Stp P.K G nf m h H m2 h2 H2 ∧ REs P.K G P.c.scr m2 h2 H2 σ2 env2 ∧ whileL (fun env1 h1 => (evE P.c t env1 h1).bind fun r => (tru P.c r.1 r.2).map fun k => (k, r.2)) (fun env1 h1 => evSs P.c body env1 h1) n env2 h2 = some (out, env', h'), ⟨fuelW, m, h, env, .refl x.rl, x.es, ev⟩, ?_⟩
  rintro n σ2 H2 ⟨m2, h2, env2, s2, es2, e⟩
  cases n with
  | zero => cases e
  | succ n =>
    simp only [whileL] at e
    obtain ⟨⟨b, h3⟩, e1, e2⟩ := bind_some e
    obtain ⟨⟨v3, h3'⟩, e3, e4⟩ := bind_some e1
    obtain ⟨k, e5, e6⟩ := Option.map_eq_some_iff.mp e4
    cases e6
    have x2 : Sx P G nf m2 h2 H2 σ2 env2 := ⟨s2.rl, es2, Nat.le_trans x.ba (s2.lenle x.rl), x.yo⟩
    refine ⟨G, nf, m2, h2, env2, v3, _, b, x2, e3, e5, fun m3 H3 s3 => ?_⟩
    have s23 := s2.trans s3
    cases b with
    | false =>
      cases e2
      exact f σ2 m3 H3 s23 (es2.keep s3)
    | true =>
      obtain ⟨⟨o3, env3, h4⟩, e7, e8⟩ := bind_some e2
      refine ⟨fun σ4 H4 => ∃ m2 h2 env2, Stp P.K G nf m h H m2 h2 H4 ∧ REs P.K G P.c.scr m2 h2 H4 σ4 env2 ∧ whileL (fun env1 h1 => (evE P.c t env1 h1).bind fun r => (tru P.c r.1 r.2).map fun k => (k, r.2)) (fun env1 h1 => evSs P.c body env1 h1) n env2 h2 = some (out, env', h'), fun σ4 H4 r => ⟨n, Nat.lt_succ_self n, r⟩, ?_⟩
      refine ⟨G, nf, m3, _, env2, o3, env3, h4, x2.go s3, e7, fun σ5 m5 H5 s5 => ?_⟩
      have s25 := s23.trans s5
      cases o3 with
      | next => exact fun es5 => ⟨m5, h4, env3, s25, es5, e8⟩
      | cont => exact fun es5 => ⟨m5, h4, env3, s25, es5, e8⟩
      | brk =>
        cases e8
        exact fun es5 => f σ5 m5 H5 s25 es5
      | ret v =>
        cases e8
        exact fun w hw => f σ5 m5 H5 s25 w hw
end
end Mp
set_option Elab.async false
set_option linter.all false
set_option maxRecDepth 100000
set_option maxHeartbeats 1000000
/-! Mp, part O: calls; a zip at a name. -/
namespace Mp
open PySem PySem.Spec PyProof.Rows L2 StX ItX

/-! ### calls -/
/-- a callee's promise -/
def spC (K : PySem.W.Frag) (sc : List Int) (call : Str → Option Str → List EV → Hm → Option (EV × Hm)) (f : Str) (mt : Option Str) : Sp := fun vs H Q _ => ∃ (G : Addr → Prop) (nf : Nat → Nat) (m : List Addr) (h : Hm) (es : List EV) (res : EV) (h' : Hm),
  Rl K G nf m h H ∧ REv K G sc m h H vs es ∧ call f mt es h = some (res, h') ∧ ∀ v m' H', Stp K G nf m h H m' h' H' → RE K G sc m' h' H' v res → Q v H'
section
variable {P : Pm} {G : Addr → Prop} {nf : Nat → Nat} {m m' : List Addr} {h h' : Hm} {H H' : Hp} {σ : L2.St} {env env' : Ev} {Q : VK} {E : XK}
theorem tE_call {f : Str} {es : MEs} (q : tE P (.call f es) σ H Q) : tCall (spC P.K P.c.scr P.c.call f none) [] E (tVs P es) σ H Q := by
  obtain ⟨G, nf, m, h, env, r, h', x, ev, k⟩ := q
  simp only [evE] at ev
  obtain ⟨⟨rs, h1⟩, e1, e2⟩ := bind_some ev
  refine ⟨G, nf, m, h, env, rs, h1, x, e1, fun vs m1 H1 s1 q1 => ?_⟩
  show spC P.K P.c.scr P.c.call f none (vs ++ []) H1 Q E
  rw [List.append_nil]
  exact ⟨G, nf, m1, h1, rs, r, h', s1.rl, q1, e2, fun v m2 H2 s2 q2 => k v m2 H2 (s1.trans s2) q2⟩
theorem noKey {K : PySem.W.Frag} {C : Addr} {mt : Str} {f : Addr} (hm : Meth K C mt f) : ∀ {fs : List (Str × PyData)} {vs : List (Str × V)}, vs.map (·.1) = fs.map (·.1) → (∀ p ∈ fs, NoAttr K C p.1) → vs.lookup mt = none
  | [], [], _, _ => rfl
  | [], _ :: _, e, _ => by cases e
  | _ :: _, [], e, _ => by cases e
  | (g, x) :: fs, (g', y) :: vs, e, na => by
    have k1 : g' = g := (List.cons.inj e).1
    have k2 := (List.cons.inj e).2
    subst k1
    rw [List.lookup_cons]
    cases q : mt == g' with
    | true =>
      have e1 : mt = g' := by simpa using q
      have n := na (g', x) (List.mem_cons_self ..)
      have a := hm.at_
      rw [e1] at a
      rw [show PySem.W.findIn K (.ref C) g' = some none from n] at a
      cases a
    | false => exact noKey hm k2 fun p hp => na p (List.mem_cons_of_mem _ hp)
theorem tE_meth {i : Nat} {c mt : Str} {es : MEs} {f : Addr} (hm : Meth P.K (He.ga P.K c) mt f) (q : tE P (.meth i c mt es) σ H Q) : tMeth (He.ga P.K c) mt (spC P.K P.c.scr P.c.call c (some mt)) [] E (tVar i) (tVs P es) σ H Q := by
  obtain ⟨G, nf, m, h, env, r, h', x, ev, k⟩ := q
  simp only [evE] at ev
  split at ev
  · rename_i j hj
    split at ev
    · rename_i k' fs hk
      split at ev
      · rename_i hc
        subst hc
        obtain ⟨⟨rs, h1⟩, e1, e2⟩ := bind_some ev
        obtain ⟨u, u1, a, rfl, ha⟩ := x.es.2 i _ hj
        obtain ⟨dx, vs, p, ks, cl, nas, rsf⟩ := x.rl.ob j a _ ha hk
        refine ⟨.ref a, u1, a, dx, vs, rfl, p, noKey hm ks nas, G, nf, m, h, env, rs, h1, x, e1, fun ws m1 H1 s1 q1 => ?_⟩
        show spC P.K P.c.scr P.c.call _ (some mt) (V.ref a :: (ws ++ [])) H1 Q E
        rw [List.append_nil]
        exact ⟨G, nf, m1, h1, .ref j :: rs, r, h', s1.rl, ⟨⟨a, rfl, s1.at_ ha⟩, q1⟩, e2, fun v m2 H2 s2 q2 => k v m2 H2 (s1.trans s2) q2⟩
      · cases ev
    · cases ev
  · cases ev
theorem tE_make {c : Str} {es : MEs} (cl : Cls P.K (He.ga P.K c)) (q : tE P (.make c es) σ H Q) : tMake (He.ga P.K c) (spC P.K P.c.scr P.c.call c (some "__init__")) [] E (tVs P es) σ H Q := by
  obtain ⟨G, nf, m, h, env, r, h', x, ev, k⟩ := q
  simp only [evE] at ev
  obtain ⟨⟨rs, h1⟩, e1, ev1⟩ := bind_some ev
  obtain ⟨⟨s, h2⟩, e2, ev2⟩ := bind_some ev1
  simp only at ev2
  split at ev2
  · rename_i hs
    cases ev2
    refine ⟨G, nf, m, h, env, rs, h1, x, e1, fun ws m1 H1 s1 q1 y dx hy hdx ne => ?_⟩
    rw [List.append_nil]
    have s2 := s1.rl.laid (o := .own y) hdx fun xs e => by
      rcases e with e | ⟨u, e⟩ <;> cases e
    have hy2 : upd H1 dx (.own y) y = none := by rw [upd_ne ne.symm]; exact hy
    have s3 : Stp P.K G nf m1 h1 (upd H1 dx (.own y)) (m1 ++ [y]) (h1 ++ [.ins c []]) (upd (upd H1 dx (.own y)) y (.ins (He.ga P.K c) dx [])) := by
      refine s2.rl.slot hy2 (fun a u e => by rw [upd_ne (fun z => by rw [z, hy2] at e; cases e)]; exact e) ⟨dx, [], upd_same, rfl, cl, nofun, trivial⟩ nofun ⟨_, upd_same⟩ fun a xs e => ?_
      by_cases z : a = y
      · rw [z, upd_same] at e
        rcases e with e | ⟨u, e⟩ <;> cases e
      · rw [upd_ne z] at e
        exact s2.rl.sm a xs e
    have sl : (m1 ++ [y])[h1.length]? = some y := s2.rl.slotAt
    refine ⟨G, nf, _, _, .ref h1.length :: rs, _, _, s3.rl, ⟨⟨y, rfl, sl⟩, (q1.keep s2).keep s3⟩, e2, fun v m4 H4 s4 q4 => ?_⟩
    exact ⟨q4, k _ _ _ (s1.trans (s2.trans (s3.trans s4))) ⟨y, rfl, s4.at_ sl⟩⟩
  · cases ev2
end

/-! ### a zip at a name -/
/-- the five things of a new zip -/
def zipH (H : Hp) (N : Addr) (k1 k2 : Bool) (a b : Addr) : Hp :=
  upd (upd (upd (upd (upd H N (.ext fun h => ItS k1 h N a 0)) (N + 1) (.ext fun h => ItS k2 h (N + 1) b 0)) (N + 2) (.ext fun h => IsTupOf2 h (N + 2) (.ref N) (.ref (N + 1)))) (N + 3) (.ext fun h => IsTupOf2 h (N + 3) .none .none)) (N + 4) (.ext fun h => IsZip h (N + 4) (N + 2) (N + 3) .none)
section
variable {H : Hp} {N : Nat} {k1 k2 : Bool} {a b : Addr}
theorem zipH_z : zipH H N k1 k2 a b (N + 4) = some (.ext fun h => IsZip h (N + 4) (N + 2) (N + 3) .none) := upd_same
theorem zipH_o : zipH H N k1 k2 a b (N + 3) = some (.ext fun h => IsTupOf2 h (N + 3) .none .none) := by
  unfold zipH
  rw [upd_ne (show N + 3 ≠ N + 4 by omega), upd_same]
theorem zipH_i : zipH H N k1 k2 a b (N + 2) = some (.ext fun h => IsTupOf2 h (N + 2) (.ref N) (.ref (N + 1))) := by
  unfold zipH
  rw [upd_ne (show N + 2 ≠ N + 4 by omega), upd_ne (show N + 2 ≠ N + 3 by omega), upd_same]
theorem zipH_2 : zipH H N k1 k2 a b (N + 1) = some (.ext fun h => ItS k2 h (N + 1) b 0) := by
  unfold zipH
  rw [upd_ne (show N + 1 ≠ N + 4 by omega), upd_ne (show N + 1 ≠ N + 3 by omega), upd_ne (show N + 1 ≠ N + 2 by omega), upd_same]
theorem zipH_1 : zipH H N k1 k2 a b N = some (.ext fun h => ItS k1 h N a 0) := by
  unfold zipH
  rw [upd_ne (show N ≠ N + 4 by omega), upd_ne (show N ≠ N + 3 by omega), upd_ne (show N ≠ N + 2 by omega), upd_ne (show N ≠ N + 1 by omega), upd_same]
theorem zipH_old {c : Nat} (h : c < N ∨ N + 5 ≤ c) : zipH H N k1 k2 a b c = H c := by
  unfold zipH
  rw [upd_ne (show c ≠ N + 4 by omega), upd_ne (show c ≠ N + 3 by omega), upd_ne (show c ≠ N + 2 by omega), upd_ne (show c ≠ N + 1 by omega), upd_ne (show c ≠ N by omega)]
theorem zipH_cases (c : Nat) : (c < N ∨ N + 5 ≤ c) ∨ c = N ∨ c = N + 1 ∨ c = N + 2 ∨ c = N + 3 ∨ c = N + 4 := by omega
end
def rZip5 (n0 : Nat) : List V → Hp → VK → Prop := fun xs H Q => ∃ k1 k2 a b vs ws, xs = [.ref a, .ref b] ∧ SqAt k1 H a vs ∧ SqAt k2 H b ws ∧ ∀ N : Nat, n0 ≤ N → (∀ c, N ≤ c → H c = none) → Q (.ref (N + 4)) (zipH H N k1 k2 a b)
theorem call_zip5 {X : Cx} : CallR X (.type "zip") (rZip5 X.s_0.heap.objs.size) := by
  intro pins s σ H xs us Q I r h
  obtain ⟨k1, k2, a, b, vs, ws, rfl, hq1, hq2, q⟩ := h
  obtain ⟨u1, u2, rfl, ru1, ru2⟩ := vals2 r
  cases ru1
  cases ru2
  obtain ⟨its1, rv1, p1⟩ := inv_sq I hq1
  obtain ⟨its2, rv2, p2⟩ := inv_sq I hq2
  refine zip_begins2 (begins_s (k := k1) its1.toArray) (begins_s (k := k2) its2.toArray) p1 p2 fun h' hz hTI hTO h1 h2 hsz hk => ?_
  generalize hN : s.heap.objs.size = N at *
  have fr : ∀ c, N ≤ c → H c = none := fun c hc => I.hok.fresh (by rw [hN]; exact hc)
  refine ⟨.ref (N + 4), zipH H N k1 k2 a b, ?_, rfl, q N (by rw [← hN]; exact I.sz) fr⟩
  have old : ∀ c, c < N → zipH H N k1 k2 a b c = H c := fun c hc => zipH_old (.inl hc)
  have lt : ∀ {c o}, s.heap.get? c = some o → c < N := fun {c o} e => by rw [← hN]; exact Heap.lt_size e
  have ltH : ∀ {c o}, H c = some o → c < N := fun {c o} e => by rw [← hN]; exact I.hok.lt e
  refine I.un (t' := s.toks) ⟨fun c o e _ _ _ => hk c o e, fun c o e _ _ _ => ⟨o.slots, hk c o e⟩, fun c o e n _ => by rw [old c (lt e)]; exact n, fun c o e _ => ⟨o, hk c o e⟩, fun c xs e => by rw [old c (ltH e)]; exact e, fun c o xs e => by rw [old c (ltH e)]; exact e, fun c ps e => ⟨#[], by rw [old c (ltH e), e]; simp⟩⟩ fun c o e => ?_
  rcases zipH_cases (N := N) c with z | z | z | z | z | z
  · rw [zipH_old z] at e
    exact (I.hok c o e).stay (fun b u _ q => hk b u q) (fun b e => by rw [old b (ltH e)]; exact e) fun b xs e => by rw [old b (ltH e)]; exact e
  · rw [z, zipH_1] at e
    cases e
    rw [z]
    have i1 : ItS k1 h' N a 0 := ItS.new h1
    obtain ⟨o, ho, _⟩ := i1.obj
    exact ⟨i1, ⟨o, ho⟩, fun g1 g2 x st => x.stay st⟩
  · rw [z, zipH_2] at e
    cases e
    rw [z]
    have i1 : ItS k2 h' (N + 1) b 0 := ItS.new h2
    obtain ⟨o, ho, _⟩ := i1.obj
    exact ⟨i1, ⟨o, ho⟩, fun g1 g2 x st => x.stay st⟩
  · rw [z, zipH_i] at e
    cases e
    rw [z]
    exact ⟨hTI, ⟨_, hTI⟩, fun g1 g2 x st => st _ x⟩
  · rw [z, zipH_o] at e
    cases e
    rw [z]
    exact ⟨hTO, ⟨_, hTO⟩, fun g1 g2 x st => st _ x⟩
  · rw [z, zipH_z] at e
    cases e
    rw [z]
    exact ⟨hz, ⟨_, hz⟩, fun g1 g2 x st => st _ x⟩
end Mp
set_option Elab.async false
set_option linter.all false
set_option maxRecDepth 100000
set_option maxHeartbeats 1000000
/-! Mp, part P: a zip at a name against the evaluator. -/
namespace Mp
open PySem PySem.Spec PyProof.Rows L2 StX ItX
section
variable {K : PySem.W.Frag} {G : Addr → Prop} {nf : Nat → Nat} {m m' : List Addr} {h h' : Hm} {H H' : Hp}
def zm (N : Nat) : List Addr := [N + 4, N + 2, N + 3, N, N + 1]
def zo (xs ys : List PyData) : Hm := [.zp xs ys, .aux, .aux, .aux, .aux]
theorem zm_at {N : Nat} {j : Nat} {a : Nat} (e : (zm N)[j]? = some a) : N ≤ a ∧ a < N + 5 ∧ j < 5 ∧ (j = 0 ∧ a = N + 4 ∨ j = 1 ∧ a = N + 2 ∨ j = 2 ∧ a = N + 3 ∨ j = 3 ∧ a = N ∨ j = 4 ∧ a = N + 1) := by
  match j, e with
  | 0, e => have z : N + 4 = a := Option.some.inj e; omega
  | 1, e => have z : N + 2 = a := Option.some.inj e; omega
  | 2, e => have z : N + 3 = a := Option.some.inj e; omega
  | 3, e => have z : N = a := Option.some.inj e; omega
  | 4, e => have z : N + 1 = a := Option.some.inj e; omega
theorem zm_inj {N : Nat} {i j : Nat} {a : Nat} (e : (zm N)[i]? = some a) (e2 : (zm N)[j]? = some a) : i = j := by
  have h1 := zm_at e
  have h2 := zm_at e2
  omega
theorem zo_tail {xs ys : List PyData} {j : Nat} {o : MO} (e : (zo xs ys)[j]? = some o) : (j = 0 ∧ o = .zp xs ys) ∨ (0 < j ∧ j < 5 ∧ o = .aux) := by
  match j, e with
  | 0, e => cases e; exact .inl ⟨rfl, rfl⟩
  | 1, e => cases e; exact .inr ⟨by omega, by omega, rfl⟩
  | 2, e => cases e; exact .inr ⟨by omega, by omega, rfl⟩
  | 3, e => cases e; exact .inr ⟨by omega, by omega, rfl⟩
  | 4, e => cases e; exact .inr ⟨by omega, by omega, rfl⟩
theorem get_app {α : Type} {l r : List α} {k : Nat} {a : α} (e : (l ++ r)[k]? = some a) : l[k]? = some a ∨ (l.length ≤ k ∧ r[k - l.length]? = some a) := by
  by_cases hk : k < l.length
  · rw [List.getElem?_append_left hk] at e
    exact .inl e
  · rw [List.getElem?_append_right (by omega)] at e
    exact .inr ⟨by omega, e⟩
theorem Rl.zipNew (r : Rl K G nf m h H) {N : Nat} {k1 k2 : Bool} {a b : Addr} {vs ws : List V} {xs ys : List PyData} (fr : ∀ c, N ≤ c → H c = none) (s1 : Seq (Fb G m h) H k1 a vs xs) (s2 : Seq (Fb G m h) H k2 b ws ys) (hn : nf h.length ≤ N) :
    Stp K G nf m h H (m ++ zm N) (h ++ zo xs ys) (zipH H N k1 k2 a b) := by
  have lt : ∀ {c o}, H c = some o → c < N := fun {c o} e => by
    by_cases z : N ≤ c
    · rw [fr c z] at e; cases e
    · exact Nat.lt_of_not_le z
  have kp : ∀ c o, H c = some o → zipH H N k1 k2 a b c = some o := fun c o e => by rw [zipH_old (.inl (lt e))]; exact e
  have cut : ∀ {k : Nat} {a : Addr} {o : MO}, m[k]? = some a → (h ++ zo xs ys)[k]? = some o → h[k]? = some o := fun {k a o} q e2 => by
    have hk : k < h.length := by rw [← r.len]; exact (List.getElem?_eq_some_iff.mp q).1
    rw [List.getElem?_append_left hk] at e2
    exact e2
  have cut2 : ∀ {k : Nat} {a : Addr} {o : MO}, m.length ≤ k → (h ++ zo xs ys)[k]? = some o → (zo xs ys)[k - m.length]? = some o := fun {k a o} q e2 => by
    rw [List.getElem?_append_right (by rw [← r.len]; exact q), ← r.len] at e2
    exact e2
  have some5 : ∀ c, N ≤ c → c < N + 5 → ∃ u, zipH H N k1 k2 a b c = some u := fun c h1 h2 => by
    rcases zipH_cases (N := N) c with z | z | z | z | z | z
    · omega
    · rw [z]; exact ⟨_, zipH_1⟩
    · rw [z]; exact ⟨_, zipH_2⟩
    · rw [z]; exact ⟨_, zipH_i⟩
    · rw [z]; exact ⟨_, zipH_o⟩
    · rw [z]; exact ⟨_, zipH_z⟩
  have old : ∀ {k : Nat} {c : Addr} {o : MO}, m[k]? = some c → (h ++ zo xs ys)[k]? = some o → o ≠ .gone → c < N := fun {k c o} q e2 n => by
    obtain ⟨u, w⟩ := r.th c (live_of q (cut q e2) n)
    exact lt w
  have new : ∀ c, Mx (m ++ zm N) (h ++ zo xs ys) c → Mx m h c ∨ H c = none := fun c ⟨k, o, e1, e2, e3⟩ => by
    rcases get_app e1 with q | ⟨q, z⟩
    · exact .inl ⟨k, o, q, cut q e2, e3⟩
    · exact .inr (fr c (zm_at z).1)
  have kps : Keeps (Fb G m h) (Fb G (m ++ zm N) (h ++ zo xs ys)) H (zipH H N k1 k2 a b) := fun c u e n => ⟨kp c u e, fun z => by
    rcases z with z | z
    · rcases new c z with z | z
      · exact n (.inl z)
      · rw [e] at z; cases z
    · exact n (.inr z)⟩
  have sm' : ∀ c, (∃ u, H c = some u) → zipH H N k1 k2 a b c = H c := fun c ⟨u, e⟩ => (kp c u e).trans e.symm
  refine ⟨List.prefix_append _ _, fun c u e _ => kp c u e, new, ⟨by rw [List.length_append]; omega, fun k us vs e l => by rw [List.getElem?_append_left l] at e; exact e⟩, ?_⟩
  refine ⟨by rw [List.length_append, List.length_append, r.len]; rfl, fun i j c o u e1 e2 e3 e4 n1 n2 => ?_, fun k c o e1 e2 => ?_, fun c ⟨k, o, e1, e2, n⟩ => ?_, fun k us vs' e => ?_, fun c g => ?_, fun c ⟨k, o, e1, e2, n⟩ g => ?_, fun c zs e => ?_⟩
  · rcases get_app e1 with q1 | ⟨q1, z1⟩ <;> rcases get_app e2 with q2 | ⟨q2, z2⟩
    · exact r.nd i j c o u q1 q2 (cut q1 e3) (cut q2 e4) n1 n2
    · exact absurd (Nat.lt_of_lt_of_le (old q1 e3 n1) (zm_at z2).1) (Nat.lt_irrefl _)
    · exact absurd (Nat.lt_of_lt_of_le (old q2 e4 n2) (zm_at z1).1) (Nat.lt_irrefl _)
    · have w := zm_inj z1 z2
      omega
  · rcases get_app e1 with q | ⟨q, z⟩
    · by_cases n : o = .gone
      · rw [n]; trivial
      · exact (r.ob k c o q (cut q e2)).move kps (sm' c (r.th c (live_of q (cut q e2) n)))
    · rcases zo_tail (cut2 (a := c) q e2) with ⟨_, w⟩ | ⟨_, _, w⟩
      · rw [w]; trivial
      · rw [w]; trivial
  · rcases get_app e1 with q | ⟨q, z⟩
    · obtain ⟨u, w⟩ := r.th c (live_of q (cut q e2) n)
      exact ⟨u, kp c u w⟩
    · exact some5 c (zm_at z).1 (zm_at z).2.1
  · rcases get_app e with q | ⟨q, z⟩
    · obtain ⟨hj, z, TI, TO, i1, i2, a0, a1, a2, a3, a4, x⟩ := r.zp k us vs' q
      have at' : ∀ {j b}, m[j]? = some b → (m ++ zm N)[j]? = some b := fun {j b} w => by rw [List.getElem?_append_left (List.getElem?_eq_some_iff.mp w).1]; exact w
      exact ⟨fun j h1 h2 => by have w := hj j h1 h2; rw [List.getElem?_append_left (List.getElem?_eq_some_iff.mp w).1]; exact w, z, TI, TO, i1, i2, at' a0, at' a1, at' a2, at' a3, at' a4, x.move kps fun b hb => sm' b (r.th b (zp_mem q hj a0 a1 a2 a3 a4 b hb))⟩
    · rcases zo_tail z with ⟨w0, w⟩ | ⟨_, _, w⟩
      · cases w
        have ek : k = h.length := by omega
        subst ek
        have at' : ∀ {j c}, (zm N)[j]? = some c → (m ++ zm N)[h.length + j]? = some c := fun {j c} w => by
          rw [← r.len, List.getElem?_append_right (by omega), Nat.add_sub_cancel_left]
          exact w
        refine ⟨fun j h1 h2 => ?_, N + 4, N + 2, N + 3, N, N + 1, at' (j := 0) rfl, at' (j := 1) rfl, at' (j := 2) rfl, at' (j := 3) rfl, at' (j := 4) rfl, zipH_z, zipH_i, zipH_o, ⟨k1, k2, a, b, vs, ws, zipH_1, zipH_2, s1.move kps, s2.move kps⟩, fun c hc => ?_⟩
        · rw [List.getElem?_append_right (by omega)]
          have z : j - h.length = 1 ∨ j - h.length = 2 ∨ j - h.length = 3 ∨ j - h.length = 4 := by omega
          rcases z with z | z | z | z <;> rw [z] <;> rfl
        · have z : c = N + 4 ∨ c = N + 2 ∨ c = N + 3 ∨ c = N ∨ c = N + 1 := by simpa using hc
          rcases z with z | z | z | z | z
          · rw [z]; exact Nat.le_trans hn (Nat.le_add_right N 4)
          · rw [z]; exact Nat.le_trans hn (Nat.le_add_right N 2)
          · rw [z]; exact Nat.le_trans hn (Nat.le_add_right N 3)
          · rw [z]; exact hn
          · rw [z]; exact Nat.le_trans hn (Nat.le_add_right N 1)
      · cases w
  · obtain ⟨u, z⟩ := r.gd c g
    exact ⟨u, kp c u z⟩
  · rcases get_app e1 with q | ⟨q, z⟩
    · exact r.gm c (live_of q (cut q e2) n) g
    · obtain ⟨u, w⟩ := r.gd c g
      exact absurd (Nat.lt_of_lt_of_le (lt w) (zm_at z).1) (Nat.lt_irrefl _)
  · rcases zipH_cases (N := N) c with z | z | z | z | z | z
    · rw [zipH_old z] at e
      exact r.sm c zs e
    · rw [z, zipH_1] at e
      rcases e with e | ⟨_, e⟩ <;> cases e
    · rw [z, zipH_2] at e
      rcases e with e | ⟨_, e⟩ <;> cases e
    · rw [z, zipH_i] at e
      rcases e with e | ⟨_, e⟩ <;> cases e
    · rw [z, zipH_o] at e
      rcases e with e | ⟨_, e⟩ <;> cases e
    · rw [z, zipH_z] at e
      rcases e with e | ⟨_, e⟩ <;> cases e
end
section
variable {P : Pm} {σ : L2.St} {H : Hp} {Q : VK}
theorem tE_zip {a b : ME} (q : tE P (.zip a b) σ H Q) : tCB (rZip5 P.n0) (tCons (tE P a) (tCons (tE P b) tNil)) σ H Q := by
  obtain ⟨G, nf, m, h, env, r, h', x, ev, k⟩ := q
  simp only [evE] at ev
  obtain ⟨⟨v1, h1⟩, e1, ev1⟩ := bind_some ev
  obtain ⟨⟨v2, h2⟩, e2, ev2⟩ := bind_some ev1
  obtain ⟨⟨ds1, h3⟩, e3, ev3⟩ := bind_some ev2
  obtain ⟨⟨ds2, h4⟩, e4, ev4⟩ := bind_some ev3
  cases ev4
  refine ⟨G, nf, m, h, env, v1, h1, x, e1, fun y m1 H1 s1 q1 => ⟨G, nf, m1, h1, env, v2, h2, x.go s1, e2, fun z m2 H2 s2 q2 => ?_⟩⟩
  obtain ⟨s3, k1, p, vs, rfl, sq1⟩ := frzS (c := P.c) s2.rl (q1.keep s2) e3
  obtain ⟨s4, k2, q, ws, rfl, sq2⟩ := frzS (c := P.c) s3.rl (q2.keep s3) e4
  have s := s1.trans (s2.trans (s3.trans s4))
  have sq1' := sq1.move s4.keeps
  refine ⟨k1, k2, p, q, vs, ws, rfl, sq1'.at_, sq2.at_, fun N hN fr => ?_⟩
  have s5 := s4.rl.zipNew fr sq1' sq2 (by rw [x.yo _ (Nat.le_trans x.ba (s.lenle x.rl))]; exact hN)
  refine k _ _ _ (s.trans s5) ⟨N + 4, rfl, ?_⟩
  show (m2 ++ zm N)[h4.length]? = some (N + 4)
  rw [← s4.rl.len, List.getElem?_append_right (Nat.le_refl _), Nat.sub_self]
  rfl
end
end Mp
set_option Elab.async false
set_option linter.all false
set_option maxRecDepth 100000
set_option maxHeartbeats 1000000
/-! Mp, part Q: the walk of a zip that stands at a name. -/
namespace Mp
open PySem PySem.Spec PyProof.Rows L2 StX ItX

def drop5 (H : Hp) (z TI TO i1 i2 : Addr) : Hp := dropH (dropH (dropH (dropH (dropH H z) TI) TO) i1) i2
theorem drop5_ne {H : Hp} {z TI TO i1 i2 c : Addr} (h : c ∉ [z, TI, TO, i1, i2]) : drop5 H z TI TO i1 i2 c = H c := by
  simp only [List.mem_cons, List.not_mem_nil, or_false, not_or] at h
  obtain ⟨h1, h2, h3, h4, h5⟩ := h
  unfold drop5
  rw [dropH_ne h5, dropH_ne h4, dropH_ne h3, dropH_ne h2, dropH_ne h1]
theorem drop5_some {H : Hp} {z TI TO i1 i2 c : Addr} {o : HO} (h : drop5 H z TI TO i1 i2 c = some o) : H c = some o := by
  have one : ∀ {H : Hp} {a : Addr}, dropH H a c = some o → H c = some o := fun {H a} e => by
    by_cases q : c = a
    · rw [q, dropH_same] at e; cases e
    · rw [dropH_ne q] at e; exact e
  exact one (one (one (one (one h))))
/-- for .. in x, x a name that holds a zip -/
def iVar (n0 : Nat) (i : Nat) : TI := fun σ H R => ∃ z TI TO i1 i2 k1 k2 a b vs ws, σ[i]? = some (some (V.ref z)) ∧ H z = some (.ext fun h => IsZip h z TI TO .none) ∧ H TI = some (.ext fun h => IsTupOf2 h TI (.ref i1) (.ref i2)) ∧ H TO = some (.ext fun h => IsTupOf2 h TO .none .none) ∧
  H i1 = some (.ext fun h => ItS k1 h i1 a 0) ∧ H i2 = some (.ext fun h => ItS k2 h i2 b 0) ∧ SqAt k1 H a vs ∧ SqAt k2 H b ws ∧ [z, TI, TO, i1, i2].Nodup ∧ (∀ c ∈ [z, TI, TO, i1, i2], n0 ≤ c) ∧ R (ItZ k1 k2 a b) (drop5 H z TI TO i1 i2)
theorem sq_noext {H : Hp} {k : Bool} {a : Addr} {vs : List V} {φ : Heap → Prop} (x : SqAt k H a vs) : H a ≠ some (.ext φ) := fun e => by
  cases k with
  | true => rw [show H a = some (.lst vs) from x] at e; cases e
  | false => obtain ⟨o, x, _⟩ := x; rw [x] at e; cases e
theorem pi_var {X : Cx} {i : Nat} {x : Str} {pos tpos : Pos} {elts : List Expr} {kk : Nat} (hx : PE X (.Name x pos) (tVar i)) : PI X (.Tuple elts kk tpos) (.Name x pos) (iVar X.s_0.heap.objs.size i) := by
  refine ⟨fun pins s σ H R I q => ?_⟩
  obtain ⟨z, TI, TO, i1, i2, k1, k2, a, b, vs, ws, hσ, hz, hTI, hTO, h1, h2, sq1, sq2, nd, yo, r⟩ := q
  refine thn (hx.run pins s σ H (fun v H1 => v = .ref z ∧ H1 = H) I ⟨.ref z, hσ, rfl, rfl⟩) fun u s1 ⟨v, H1, I1, rv, ev, eh⟩ => ?_
  subst ev eh
  cases (show u = Value.ref z from rv)
  have oz : ObjOk X.prog X.w H1 s1.heap z (.ext fun h => IsZip h z TI TO .none) := I1.hok z _ hz
  have oTI : ObjOk X.prog X.w H1 s1.heap TI (.ext fun h => IsTupOf2 h TI (.ref i1) (.ref i2)) := I1.hok TI _ hTI
  have oTO : ObjOk X.prog X.w H1 s1.heap TO (.ext fun h => IsTupOf2 h TO .none .none) := I1.hok TO _ hTO
  have o1 : ObjOk X.prog X.w H1 s1.heap i1 (.ext fun h => ItS k1 h i1 a 0) := I1.hok i1 _ h1
  have o2 : ObjOk X.prog X.w H1 s1.heap i2 (.ext fun h => ItS k2 h i2 b 0) := I1.hok i2 _ h2
  obtain ⟨gz, _⟩ := oz
  obtain ⟨gTI, _⟩ := oTI
  obtain ⟨gTO, _⟩ := oTO
  obtain ⟨g1, _⟩ := o1
  obtain ⟨g2, _⟩ := o2
  have ext : ∀ c ∈ [z, TI, TO, i1, i2], ∃ φ, H1 c = some (.ext φ) := fun c hc => by
    rcases five_mem hc with e | e | e | e | e
    · rw [e]; exact ⟨_, hz⟩
    · rw [e]; exact ⟨_, hTI⟩
    · rw [e]; exact ⟨_, hTO⟩
    · rw [e]; exact ⟨_, h1⟩
    · rw [e]; exact ⟨_, h2⟩
  have na : a ∉ [z, TI, TO, i1, i2] := fun hc => let ⟨φ, e⟩ := ext a hc; sq_noext sq1 e
  have nb : b ∉ [z, TI, TO, i1, i2] := fun hc => let ⟨φ, e⟩ := ext b hc; sq_noext sq2 e
  refine wpAny_pyIter_zip gz ?_
  have nd' := nd
  simp only [List.nodup_cons, List.mem_cons, List.not_mem_nil, or_false, not_or, not_false_eq_true, and_true, List.nodup_nil] at nd'
  obtain ⟨⟨n1, n2, n3, n4⟩, ⟨n5, n6, n7⟩, ⟨n8, n9⟩, n10⟩ := nd'
  have J1 := inv_drop I1 hz
  have J2 := inv_drop J1 (show dropH H1 z TI = some _ by rw [dropH_ne (Ne.symm n1)]; exact hTI)
  have J3 := inv_drop J2 (show dropH (dropH H1 z) TI TO = some _ by rw [dropH_ne (Ne.symm n5), dropH_ne (Ne.symm n2)]; exact hTO)
  have J4 := inv_drop J3 (show dropH (dropH (dropH H1 z) TI) TO i1 = some _ by rw [dropH_ne (Ne.symm n8), dropH_ne (Ne.symm n6), dropH_ne (Ne.symm n3)]; exact h1)
  have J5 := inv_drop J4 (show dropH (dropH (dropH (dropH H1 z) TI) TO) i1 i2 = some _ by rw [dropH_ne (Ne.symm n10), dropH_ne (Ne.symm n9), dropH_ne (Ne.symm n7), dropH_ne (Ne.symm n4)]; exact h2)
  refine ⟨z, [z, TI, TO, i1, i2], _, _, drop5 H1 z TI TO i1 i2, rfl, J5, turn_z ⟨nd, na, nb⟩, ⟨gz, gTI, ⟨_, _, gTO⟩, g1, g2⟩, fun c hc => ?_, r⟩
  obtain ⟨φ, e⟩ := ext c hc
  obtain ⟨_, f1, f2, f3, f4, f5⟩ := inv_fp I1 e (yo c hc)
  refine ⟨?_, f1, f2, f3, f4, f5⟩
  have gone : ∀ {H : Hp} {c b : Addr}, H c = none → dropH H b c = none := fun {H c b} e => by
    by_cases q : c = b
    · rw [q, dropH_same]
    · rw [dropH_ne q]; exact e
  show dropH (dropH (dropH (dropH (dropH H1 z) TI) TO) i1) i2 c = none
  rcases five_mem hc with e | e | e | e | e
  · rw [e]; exact gone (gone (gone (gone dropH_same)))
  · rw [e]; exact gone (gone (gone dropH_same))
  · rw [e]; exact gone (gone dropH_same)
  · rw [e]; exact gone dropH_same
  · rw [e]; exact dropH_same

section
variable {K : PySem.W.Frag} {G : Addr → Prop} {nf : Nat → Nat} {m m' : List Addr} {h h' : Hm} {H H' : Hp}
def gone5 (h : Hm) (k : Nat) : Hm := ((((h.set k .gone).set (k + 1) .gone).set (k + 2) .gone).set (k + 3) .gone).set (k + 4) .gone
theorem gone5_at {h : Hm} {k j : Nat} {o : MO} (e : (gone5 h k)[j]? = some o) : (o = .gone ∧ k ≤ j ∧ j ≤ k + 4) ∨ ((j < k ∨ k + 4 < j) ∧ h[j]? = some o) := by
  unfold gone5 at e
  rcases get_set e with ⟨z, q⟩ | ⟨z1, e⟩
  · exact .inl ⟨q, by omega, by omega⟩
  rcases get_set e with ⟨z, q⟩ | ⟨z2, e⟩
  · exact .inl ⟨q, by omega, by omega⟩
  rcases get_set e with ⟨z, q⟩ | ⟨z3, e⟩
  · exact .inl ⟨q, by omega, by omega⟩
  rcases get_set e with ⟨z, q⟩ | ⟨z4, e⟩
  · exact .inl ⟨q, by omega, by omega⟩
  rcases get_set e with ⟨z, q⟩ | ⟨z5, e⟩
  · exact .inl ⟨q, by omega, by omega⟩
  exact .inr ⟨by omega, e⟩
theorem gone5_out {h : Hm} {k j : Nat} (z : j < k ∨ k + 4 < j) : (gone5 h k)[j]? = h[j]? := by
  unfold gone5
  rw [List.getElem?_set_ne (by omega), List.getElem?_set_ne (by omega), List.getElem?_set_ne (by omega), List.getElem?_set_ne (by omega), List.getElem?_set_ne (by omega)]
theorem gone5_len {h : Hm} {k : Nat} : (gone5 h k).length = h.length := by
  unfold gone5
  simp only [List.length_set]
/-- the zip at slot k is walked: its things are no more -/
theorem Rl.zipGo (r : Rl K G nf m h H) {k : Nat} {xs ys : List PyData} (hk : h[k]? = some (.zp xs ys)) : ∃ z TI TO i1 i2, m[k]? = some z ∧ ZpOk (Fb G m h) (nf k) H z TI TO i1 i2 xs ys ∧ [z, TI, TO, i1, i2].Nodup ∧ Stp K G nf m h H m (gone5 h k) (drop5 H z TI TO i1 i2) := by
  obtain ⟨hj, z, TI, TO, i1, i2, a0, a1, a2, a3, a4, x⟩ := r.zp k xs ys hk
  -- positions
  have pos : ∀ c ∈ [z, TI, TO, i1, i2], ∃ j, k ≤ j ∧ j ≤ k + 4 ∧ m[j]? = some c := fun c hc => by
    rcases five_mem hc with e | e | e | e | e
    · rw [e]; exact ⟨k, by omega, by omega, a0⟩
    · rw [e]; exact ⟨k + 1, by omega, by omega, a1⟩
    · rw [e]; exact ⟨k + 2, by omega, by omega, a2⟩
    · rw [e]; exact ⟨k + 3, by omega, by omega, a3⟩
    · rw [e]; exact ⟨k + 4, by omega, by omega, a4⟩
  have alive : ∀ j, k ≤ j → j ≤ k + 4 → ∃ o, h[j]? = some o ∧ o ≠ .gone ∧ isM o = true := fun j h1 h2 => by
    by_cases e : k = j
    · exact ⟨.zp xs ys, e ▸ hk, nofun, rfl⟩
    · exact ⟨.aux, hj j (by omega) h2, nofun, rfl⟩
  have mx : ∀ c ∈ [z, TI, TO, i1, i2], Mx m h c := fun c hc => by
    obtain ⟨j, h1, h2, e⟩ := pos c hc
    obtain ⟨o, p1, _, p3⟩ := alive j h1 h2
    exact ⟨j, o, e, p1, p3⟩
  have out : ∀ {j : Nat} {c : Addr} {o : MO}, m[j]? = some c → h[j]? = some o → o ≠ .gone → (j < k ∨ k + 4 < j) → c ∉ [z, TI, TO, i1, i2] := fun {j c o} e1 e2 n hlt hc => by
    obtain ⟨j', h1, h2, e⟩ := pos c hc
    obtain ⟨o', p1, p2, _⟩ := alive j' h1 h2
    have := r.inj e1 e e2 p1 n p2
    omega
  have sub : ∀ c, Mx m (gone5 h k) c → Mx m h c := fun c ⟨j, o, e1, e2, e3⟩ => by
    rcases gone5_at e2 with ⟨q, _⟩ | ⟨_, q⟩
    · rw [q] at e3; cases e3
    · exact ⟨j, o, e1, q, e3⟩
  have kp : Keeps (Fb G m h) (Fb G m (gone5 h k)) H (drop5 H z TI TO i1 i2) := fun c o e n => ⟨by rw [drop5_ne fun hc => n (.inl (mx c hc))]; exact e, fun w => n (w.imp (sub c) id)⟩
  have nd : [z, TI, TO, i1, i2].Nodup := by
    have ne : ∀ {i j : Nat} {c d : Addr}, m[i]? = some c → m[j]? = some d → k ≤ i → i ≤ k + 4 → k ≤ j → j ≤ k + 4 → i ≠ j → c ≠ d := fun {i j c d} e1 e2 h1 h2 h3 h4 n w => by
      obtain ⟨o, p1, p2, _⟩ := alive i h1 h2
      obtain ⟨o', p3, p4, _⟩ := alive j h3 h4
      exact n (r.inj e1 (w ▸ e2) p1 p3 p2 p4)
    simp only [List.nodup_cons, List.mem_cons, List.not_mem_nil, or_false, not_or, not_false_eq_true, and_true, List.nodup_nil]
    exact ⟨⟨ne a0 a1 (by omega) (by omega) (by omega) (by omega) (by omega), ne a0 a2 (by omega) (by omega) (by omega) (by omega) (by omega), ne a0 a3 (by omega) (by omega) (by omega) (by omega) (by omega), ne a0 a4 (by omega) (by omega) (by omega) (by omega) (by omega)⟩,
      ⟨ne a1 a2 (by omega) (by omega) (by omega) (by omega) (by omega), ne a1 a3 (by omega) (by omega) (by omega) (by omega) (by omega), ne a1 a4 (by omega) (by omega) (by omega) (by omega) (by omega)⟩,
      ⟨ne a2 a3 (by omega) (by omega) (by omega) (by omega) (by omega), ne a2 a4 (by omega) (by omega) (by omega) (by omega) (by omega)⟩, ne a3 a4 (by omega) (by omega) (by omega) (by omega) (by omega)⟩
  refine ⟨z, TI, TO, i1, i2, a0, x, nd, List.prefix_refl _, fun c o e n => by rw [drop5_ne fun hc => n (mx c hc)]; exact e, fun c w => .inl (sub c w), ⟨by rw [gone5_len]; exact Nat.le_refl _, fun j us vs e _ => by rcases gone5_at e with ⟨q, _⟩ | ⟨_, q⟩ <;> first | exact q | cases q⟩, r.move kp gone5_len (fun j c o e1 e2 n => ?_) (fun j us vs e => ?_) (fun c g => ?_) fun c zs e => r.sm c zs (e.imp drop5_some fun ⟨o, w⟩ => ⟨o, drop5_some w⟩)⟩
  · rcases gone5_at e2 with ⟨q, _⟩ | ⟨hlt, q⟩
    · exact absurd q n
    · exact .inl ⟨q, drop5_ne (out e1 q n hlt)⟩
  · rcases gone5_at e with ⟨q, _⟩ | ⟨hlt, q⟩
    · cases q
    · obtain ⟨hj2, _⟩ := r.zp j us vs q
      have far : ∀ i, j ≤ i → i ≤ j + 4 → i < k ∨ k + 4 < i := fun i h1 h2 => by
        by_cases w1 : j < k
        · by_cases w2 : k ≤ j + 4
          · have w := hj2 k w1 w2
            rw [hk] at w
            cases w
          · omega
        · by_cases w2 : j ≤ k + 4
          · omega
          · omega
      refine ⟨q, fun i h1 h2 => ⟨fun _ w => ?_, fun c e2 => ?_⟩⟩
      · rw [gone5_out (far i h1 h2)]
        exact w
      · by_cases w : j = i
        · exact drop5_ne (out (o := .zp us vs) e2 (w ▸ q) nofun (far i h1 h2))
        · exact drop5_ne (out (o := .aux) e2 (hj2 i (by omega) h2) nofun (far i h1 h2))
  · obtain ⟨o, e⟩ := r.gd c g
    refine ⟨o, ?_⟩
    rw [drop5_ne fun hc => r.gm c (mx c hc).mem g]
    exact e
end
theorem tI_var {P : Pm} {σ : L2.St} {H : Hp} {R : It → Hp → Prop} {i : Nat} (t : tI P (.var i) σ H R) : iVar P.n0 i σ H R := by
  obtain ⟨G, nf, m, h, env, xs, h', x, ev, k⟩ := t
  simp only [evI] at ev
  split at ev
  · rename_i j hj
    split at ev
    · rename_i us vs hk
      split at ev
      · rename_i hb
        cases ev
        obtain ⟨u, u1, a0, rfl, ha⟩ := x.es.2 i _ hj
        obtain ⟨z, TI, TO, i1, i2, e0, zo, nd, s⟩ := x.rl.zipGo hk
        rw [ha] at e0
        cases e0
        obtain ⟨k1, k2, a, b, ps, qs, h1, h2, sq1, sq2⟩ := zo.sq
        refine ⟨a0, TI, TO, i1, i2, k1, k2, a, b, ps, qs, u1, zo.hz, zo.hTI, zo.hTO, h1, h2, sq1.at_, sq2.at_, nd, fun c hc => ?_, k _ _ _ s (jok_z (sq1.move s.keeps) (sq2.move s.keeps))⟩
        rw [← x.yo j hb]
        exact zo.young c hc
      · cases ev
    · cases ev
  · cases ev
end Mp
set_option Elab.async false
set_option linter.all false
set_option maxRecDepth 100000
set_option maxHeartbeats 4000000
/-! Mp, part R: tuple(enumerate(xs)), xs a list; list(range(..)). -/
namespace Mp
open PySem PySem.Spec PyProof.Rows L2 StX ItX

/-- a thing that hands out n new pairs, while a list at d is being filled -/
structure TSrc (prog : Program) (w : World) (A : Around) (I d : Addr) (wr : List Addr) (n : Nat) (Rel : Nat → Value → Value → Prop) (St : Nat → Heap → Prop) : Prop where
  off : d ∉ wr
  frame : ∀ i h h', St i h → (∀ b o, b ≠ d → h.get? b = some o → h'.get? b = some o) → St i h'
  item : ∀ i (s : Shared) (Q : Option Value → Shared → Prop) (E : Value → Shared → Prop), i < n → St i s.heap → d < s.heap.objs.size →
    (∀ k v h' tk, Rel i k v → h'.get? s.heap.objs.size = some { cls := .type "tuple", data := .seq #[k, v] } → St (i + 1) h' → (∀ b o, b ∉ wr → s.heap.get? b = some o → h'.get? b = some o) → Q (some (.ref s.heap.objs.size)) { s with heap := h', toks := tk }) → wpAny (model prog w) A (pyNext (.ref I)) Q E s
  done : ∀ (s : Shared) (Q : Option Value → Shared → Prop) (E : Value → Shared → Prop), St n s.heap →
    (∀ h' tk, (∀ b o, b ∉ wr → s.heap.get? b = some o → h'.get? b = some o) → Q none { s with heap := h', toks := tk }) → wpAny (model prog w) A (pyNext (.ref I)) Q E s
def stE (e it l d : Addr) (items : Array Value) (i : Nat) (h : Heap) : Prop := h.IsListIter it l i ∧ h.IsList l items ∧ ((∃ old, IsEnum h e it i old) ∨ ∃ old T f oT, IsEnumHeld h e it i old T f ∧ h.get? T = some oT ∧ T ≠ e ∧ T ≠ it ∧ T ≠ d)
theorem tsrc_enum {prog : Program} {w : World} {A : Around} {e it l d : Addr} {items : Array Value} (hA : A.handled = none) (hei : e ≠ it) (hle : l ≠ e) (hli : l ≠ it) (de : d ≠ e) (dit : d ≠ it) (dl : d ≠ l) :
    TSrc prog w A e d [e, it] items.size (fun i k v => (∃ t, k = .int i t) ∧ items[i]? = some v) (stE e it l d items) where
  off := by simp [de, dit]
  frame := fun i h1 h2 ⟨x1, x2, x3⟩ hk => by
    refine ⟨x1.at fun o z => hk _ o (Ne.symm dit) z, x2.at fun o z => hk _ o (Ne.symm dl) z, ?_⟩
    rcases x3 with ⟨old, x3⟩ | ⟨old, T, f, oT, x3, hT, r1, r2, r3⟩
    · exact .inl ⟨old, hk _ _ (Ne.symm de) x3⟩
    · exact .inr ⟨old, T, f, oT, hk _ _ (Ne.symm de) x3, hk _ _ r3 hT, r1, r2, r3⟩
  item := fun i s Q E hi ⟨x1, x2, x3⟩ hds hQ => by
    have ex := Array.getElem?_eq_getElem hi
    have ec : ((i + 1 : Nat) : Int) = (i : Int) + 1 := by omega
    have nit : s.heap.objs.size ≠ it := let ⟨_, z, _⟩ := x1; Nat.ne_of_gt (Heap.lt_size z)
    have out : ∀ {b : Addr}, b ∉ [e, it] → b ≠ e ∧ b ≠ it := fun {b} hb => ⟨fun z => hb (by rw [z]; simp), fun z => hb (by rw [z]; simp)⟩
    rcases x3 with ⟨old, x3⟩ | ⟨old, T, f, oT, x3, hT, r1, r2, r3⟩
    · refine wpAny_pyNext_enum_item x3 x1 x2 ex hei fun h' ho hit' hT hsz hk => ?_
      exact hQ _ _ h' (s.toks + 1) ⟨⟨_, rfl⟩, ex⟩ hT ⟨hit', x2.at fun o z => hk l o hle hli z, .inr ⟨_, s.heap.objs.size, false, _, (by rw [ec]; exact ho), hT, Nat.ne_of_gt (Heap.lt_size x3), nit, Nat.ne_of_gt hds⟩⟩
        fun b o hb z => hk b o (out hb).1 (out hb).2 z
    · refine wpAny_pyNext_enum_item_held x3 hT r1 r2 x1 x2 ex hei fun h' ho hit' hT' hsz hk => ?_
      exact hQ _ _ h' (s.toks + 1) ⟨⟨_, rfl⟩, ex⟩ hT' ⟨hit', x2.at fun o z => hk l o hle hli z, .inr ⟨old, T, true, oT, (by rw [ec]; exact ho), hk _ _ r1 r2 hT, r1, r2, r3⟩⟩
        fun b o hb z => hk b o (out hb).1 (out hb).2 z
  done := fun s Q E ⟨x1, x2, x3⟩ hQ => by
    have hx : items[items.size]? = none := Array.getElem?_eq_none (Nat.le_refl _)
    rcases x3 with ⟨old, x3⟩ | ⟨old, T, f, oT, x3, hT, r1, r2, r3⟩
    · exact wpAny_pyNext_enum_end hA x3 x1 x2 hx fun h' hk => hQ h' s.toks fun b o hb z => hk b o (fun y => hb (by simp [y])) z
    · exact wpAny_pyNext_enum_end_held hA x3 x1 x2 hx fun h' hk => hQ h' s.toks fun b o hb z => hk b o (fun y => hb (by simp [y])) z
/-- the row at acc: new pairs -/
def NewRow (base : Heap) (Rel : Nat → Value → Value → Prop) (d : Addr) (wr : List Addr) (h : Heap) (acc : Array Value) : Prop :=
  ∀ j u, acc[j]? = some u → ∃ t k v, u = .ref t ∧ Rel j k v ∧ h.get? t = some { cls := .type "tuple", data := .seq #[k, v] } ∧ base.get? t = none ∧ t ≠ d ∧ t ∉ wr
section
variable {prog : Program} {w : World} {A : Around} {I d : Addr} {wr : List Addr} {n : Nat} {Rel : Nat → Value → Value → Prop} {St : Nat → Heap → Prop} {R : Result → Shared → Prop}
theorem loop_src (W : TSrc prog w A.in1 I d wr n Rel St) (hn : n ≤ sizeLine) (base : Heap) (hd0 : base.get? d = none) (hw0 : ∀ b ∈ wr, base.get? b = none) (res : Value) : ∀ (k i : Nat) (s : Shared) (acc : Array Value) (c : Nat), n - i = k → i ≤ n → St i s.heap → (∀ b o, base.get? b = some o → s.heap.get? b = some o) → (∀ b ∈ wr, ∃ o, s.heap.get? b = some o) → s.heap.get? d = some { cls := .type "list", dict := none, data := .seq acc c, slots := #[] } → acc.size = i → NewRow base Rel d wr s.heap acc →
    (∀ h' tk acc' c', (∀ b o, base.get? b = some o → h'.get? b = some o) → h'.get? d = some { cls := .type "list", dict := none, data := .seq acc' c', slots := #[] } → acc'.size = n → NewRow base Rel d wr h' acc' → R (.ok (.ret res)) { s with heap := h', toks := tk }) →
    (∀ i h, St i h → ∀ b ∈ wr, ∃ o, h.get? b = some o) → codeAny (model prog w) A (.builtin "list.extend.loop" ⟨[.ref d, .ref I, res], []⟩) R s := by
  intro k
  have off0 : ∀ {b o}, base.get? b = some o → b ≠ d ∧ b ∉ wr := fun {b o} e => ⟨fun z => (by rw [z, hd0] at e; cases e), fun z => (by rw [hw0 b z] at e; cases e)⟩
  induction k with
  | zero =>
    intro i s acc c hk hi st kb hwr hd ha hr hR hst
    have e : i = n := by omega
    subst e
    refine codeAny_builtin F.entry_extend_loop ?_
    rw [Around.under_plainId F.plain_extend_loop _]
    show wpAny _ A.in1 (pyNext (.ref I) >>= _) _ _ s
    refine wpAny_bind (W.done s _ _ st fun h' tk kp => ?_)
    refine wpAny_pure (hR h' tk acc c (fun b o e => kp b o (off0 e).2 (kb b o e)) (kp d _ W.off hd) ha fun j u hj => ?_)
    obtain ⟨t, k, v, e1, e2, e3, e4, e5, e6⟩ := hr j u hj
    exact ⟨t, k, v, e1, e2, kp t _ e6 e3, e4, e5, e6⟩
  | succ k ih =>
    intro i s acc c hk hi st kb hwr hd ha hr hR hst
    have hlt : i < n := by omega
    refine codeAny_builtin F.entry_extend_loop ?_
    rw [Around.under_plainId F.plain_extend_loop _]
    show wpAny _ A.in1 (pyNext (.ref I) >>= _) _ _ s
    refine wpAny_bind (W.item i s _ _ hlt st (Heap.lt_size hd) fun k v h' tk rel hT st' kp => ?_)
    have hd' := kp d _ W.off hd
    show wpAny _ A.in1 (updateSeq d (·.push (.ref s.heap.objs.size)) >>= _) _ _ _
    refine wpAny_bind ?_
    have other : ∀ b o, b ≠ d → h'.get? b = some o → (h'.update d (Obj.mapSeq (·.push (Value.ref s.heap.objs.size)))).get? b = some o := fun b o hb e => (Heap.get?_update_other _ _ (fun z => hb z.symm)).trans e
    have nd : s.heap.objs.size ≠ d := Nat.ne_of_gt (Heap.lt_size hd)
    have nw : s.heap.objs.size ∉ wr := fun z => by
      obtain ⟨o, e⟩ := hwr _ z
      exact absurd (Heap.lt_size e) (Nat.lt_irrefl _)
    have nb : base.get? s.heap.objs.size = none := by
      cases e : base.get? s.heap.objs.size with
      | none => rfl
      | some o => exact absurd (Heap.lt_size (kb _ o e)) (Nat.lt_irrefl _)
    refine wpAny_updateSeq hd' rfl (wpAny_pure ⟨plainId_quiet F.plain_extend_loop _, ih (i + 1) _ (acc.push (.ref s.heap.objs.size)) _ (by omega) hlt (W.frame _ _ _ st' fun b o hb e => other b o hb e) (fun b o e => other b o (off0 e).1 (kp b o (off0 e).2 (kb b o e))) (fun b hb => ?_) (Heap.get?_update_self _ hd' rfl) (by rw [Array.size_push, ha]) (fun j u hj => ?_) (fun h2 tk2 acc2 c2 k2 e2 l2 r2 => hR h2 tk2 acc2 c2 k2 e2 l2 r2) hst⟩) (by rw [ha]; omega) (by show (acc.push (.ref s.heap.objs.size)).size ≤ sizeLine + 1; rw [Array.size_push, ha]; omega)
    · obtain ⟨o, e⟩ := hst _ _ st' b hb
      exact ⟨o, other b o (fun z => W.off (z ▸ hb)) e⟩
    · rw [Array.getElem?_push] at hj
      split at hj
      · rename_i hz
        cases hj
        have ez : j = i := by rw [← ha]; exact hz
        subst ez
        exact ⟨_, k, v, rfl, rel, other _ _ nd hT, nb, nd, nw⟩
      · obtain ⟨t, k1, v1, e1, e2, e3, e4, e5, e6⟩ := hr j u hj
        exact ⟨t, k1, v1, e1, e2, other t _ e5 (kp t _ e6 e3), e4, e5, e6⟩
end
section
variable {prog : Program} {w : World} {A : Around} {E : Value → Shared → Prop} {s : Shared}
theorem nolen_en : typeLookup (.type "enumerate") "__len__" = pure none := by rw [typeLookup_type, builtinLookup_eq_fast]; kernel_rfl
theorem nohint_en : typeLookup (.type "enumerate") "__length_hint__" = pure none := by rw [typeLookup_type, builtinLookup_eq_fast]; kernel_rfl
/-- the items of enumerate(xs) -/
theorem collect_en {e it l : Addr} {items : Array Value} {old : Value} {base : Heap} {Q : List Value → Shared → Prop} (hh : A.handled = none) (he : IsEnum s.heap e it 0 old) (h1 : s.heap.IsListIter it l 0) (h2 : s.heap.IsList l items) (hei : e ≠ it) (hle : l ≠ e) (hli : l ≠ it)
    (hn : items.size ≤ sizeLine) (kb : ∀ b o, base.get? b = some o → s.heap.get? b = some o) (b1 : base.get? e = none) (b2 : base.get? it = none)
    (hQ : ∀ h' tk (acc : Array Value), (∀ b o, base.get? b = some o → h'.get? b = some o) → acc.size = items.size → NewRow base (fun i k v => (∃ t, k = .int i t) ∧ items[i]? = some v) s.heap.objs.size [e, it] h' acc → Q acc.toList { s with heap := h', toks := tk }) :
    wpAny (model prog w) A (collect (.ref e)) Q E s := by
  have hT : ∀ h', h'.get? e = s.heap.get? e → Shared.TypeIs { s with heap := h' } (.ref e) "enumerate" := fun h' z => ⟨_, z.trans he, rfl⟩
  have lt : ∀ {b o}, s.heap.get? b = some o → b ≠ s.heap.objs.size := fun {b o} z => Nat.ne_of_lt (Heap.lt_size z)
  have ne : e ≠ s.heap.objs.size := lt he
  have nit : it ≠ s.heap.objs.size := let ⟨_, z, _⟩ := h1; lt z
  have nl : l ≠ s.heap.objs.size := let ⟨_, z, _⟩ := h2; lt z
  unfold collect
  refine wpAny_bind (wpAny_runValue (codeAny_builtin F.entry_proto_collect ?_))
  rw [Around.under_plainId F.plain_proto_collect _]
  show wpAny _ A.in1 (newList [] >>= fun l => again (.builtin "list.__iadd__" ⟨[l, .ref e], []⟩)) _ _ s
  refine wpAny_bind (wpAny_newObj_type ?_)
  refine wpAny_pure ⟨plainId_quiet F.plain_list_iadd _, codeAny_builtin F.entry_list_iadd ?_⟩
  rw [Around.under_plainId F.plain_list_iadd _]
  have up : ∀ b o, s.heap.get? b = some o → (s.heap.push { cls := .type "list", data := .seq ([] : List Value).toArray }).get? b = some o := fun b o z => Heap.get?_push_of_some _ z
  have hS₁ : (s.heap.push { cls := .type "list", data := .seq ([] : List Value).toArray }).get? s.heap.objs.size = some { cls := .type "list", data := .seq ([] : List Value).toArray } := Heap.get?_push_size _ rfl
  have he1 := up _ _ he
  show wpAny _ A.in1 (Builtin.List.listExtendWith (.ref s.heap.objs.size) (.ref e) (.ref s.heap.objs.size)) _ _ _
  unfold Builtin.List.listExtendWith
  have ht1 : Shared.TypeIs { s with heap := s.heap.push { cls := .type "list", data := .seq ([] : List Value).toArray } } (.ref e) "enumerate" := ⟨_, he1, rfl⟩
  refine wpAny_bind (wpAny_typeOf ht1 ?_)
  have hs : Builtin.List.listSameRef (.ref s.heap.objs.size) (.ref e) = false := by simp [Builtin.List.listSameRef, Ne.symm ne]
  have q2 : (Value.type "enumerate" == Value.type "list") = false := by decide
  have q3 : (Value.type "enumerate" == Value.type "tuple") = false := by decide
  simp only [hs, q2, q3, Bool.or_false, Bool.false_eq_true, if_false]
  refine wpAny_bind (wpAny_pyIter_enum he1 ?_)
  refine wpAny_bind (wpAny_holding ?_)
  unfold Builtin.List.listLengthHint
  refine wpAny_bind (wpAny_specialOf ht1 nolen_en ?_)
  show wpAny _ A.in1 (specialOf (Value.ref e) (Str.ofString "__length_hint__") >>= _) _ _ _
  refine wpAny_bind (wpAny_specialOf ht1 nohint_en ?_)
  refine wpAny_pure ?_
  show wpAny _ A.in1 (rule "list.extend.makes-room" >>= fun _ => Builtin.List.listTouch (.ref s.heap.objs.size) >>= fun _ =>
    again (.builtin "list.extend.loop" ⟨[.ref s.heap.objs.size, .ref e, .ref s.heap.objs.size], []⟩)) _ _ _
  refine wpAny_bind (wpAny_rule ?_)
  refine wpAny_bind ?_
  show wpAny _ A.in1 (updateSeq s.heap.objs.size (·.push .none) >>= fun _ => updateSeq s.heap.objs.size (·.pop)) _ _ _
  refine wpAny_bind (wpAny_updateSeq hS₁ rfl ?_)
  have hS₂ := Heap.get?_update_self (Obj.mapSeq (·.push Value.none)) hS₁ rfl
  refine wpAny_updateSeq hS₂ rfl ?_
  have hS₃ := Heap.get?_update_self (Obj.mapSeq (·.pop)) hS₂ rfl
  have oth : ∀ b o, b ≠ s.heap.objs.size → (s.heap.push { cls := .type "list", data := .seq ([] : List Value).toArray }).get? b = some o →
      (((s.heap.push { cls := .type "list", data := .seq ([] : List Value).toArray }).update s.heap.objs.size (Obj.mapSeq (·.push Value.none))).update s.heap.objs.size (Obj.mapSeq (·.pop))).get? b = some o :=
    fun b o hb z => (Heap.get?_update_other _ _ (fun w => hb w.symm)).trans ((Heap.get?_update_other _ _ (fun w => hb w.symm)).trans z)
  have all : ∀ b o, s.heap.get? b = some o → (((s.heap.push { cls := .type "list", data := .seq ([] : List Value).toArray }).update s.heap.objs.size (Obj.mapSeq (·.push Value.none))).update s.heap.objs.size (Obj.mapSeq (·.pop))).get? b = some o :=
    fun b o z => oth b o (lt z) (up b o z)
  have W := tsrc_enum (prog := prog) (w := w) (A := A.in1) (e := e) (it := it) (l := l) (d := s.heap.objs.size) (items := items) (by exact hh) hei hle hli (Ne.symm ne) (Ne.symm nit) (Ne.symm nl)
  refine wpAny_pure ⟨plainId_quiet F.plain_extend_loop _, loop_src (A := A) W hn base ?_ ?_ _ items.size 0 _ #[] _ (by omega) (Nat.zero_le _) ?_ ?_ ?_ hS₃ rfl (fun j u hj => by simp at hj) ?_ ?_⟩
  · cases z : base.get? s.heap.objs.size with
    | none => rfl
    | some o => exact absurd rfl (lt (kb _ _ z))
  · intro b hb
    rcases List.mem_cons.mp hb with z | z
    · rw [z]; exact b1
    · rw [List.mem_singleton.mp z]; exact b2
  · exact ⟨h1.at fun o z => all _ o z, h2.at fun o z => all _ o z, .inl ⟨old, all _ _ he⟩⟩
  · exact fun b o z => all b o (kb b o z)
  · intro b hb
    rcases List.mem_cons.mp hb with z | z
    · rw [z]; exact ⟨_, all _ _ he⟩
    · rw [List.mem_singleton.mp z]
      obtain ⟨o, z, _⟩ := h1
      exact ⟨o, all _ _ z⟩
  · intro h' tk acc c' kp hd hz hr
    show wpAny _ A (load s.heap.objs.size >>= _) _ _ _
    refine wpAny_bind (wpAny_load hd ?_)
    exact wpAny_pure (hQ h' tk acc kp hz hr)
  · rintro i h ⟨⟨o, x1, _⟩, x2, x3⟩ b hb
    rcases List.mem_cons.mp hb with z | z
    · rw [z]
      rcases x3 with ⟨old, x3⟩ | ⟨old, T, f, oT, x3, _⟩
      · exact ⟨_, x3⟩
      · exact ⟨_, x3⟩
    · rw [List.mem_singleton.mp z]
      exact ⟨o, x1⟩
end
end Mp
set_option Elab.async false
set_option linter.all false
set_option maxRecDepth 100000
set_option maxHeartbeats 4000000
/-! Mp, part S: tuple(enumerate(xs)) as a reading; list(range(..)). -/
namespace Mp
open PySem PySem.Spec PyProof.Rows L2 StX ItX
section
variable {prog : Program} {w : World} {A : Around} {E : Value → Shared → Prop} {s : Shared}
theorem code_tuple_en {e it l : Addr} {items : Array Value} {old : Value} {base : Heap} {Q₁ : Value → Shared → Prop} (hh : A.handled = none) (he : IsEnum s.heap e it 0 old) (h1 : s.heap.IsListIter it l 0) (h2 : s.heap.IsList l items) (hei : e ≠ it) (hle : l ≠ e) (hli : l ≠ it)
    (hn : items.size ≤ sizeLine) (kb : ∀ b o, base.get? b = some o → s.heap.get? b = some o) (b1 : base.get? e = none) (b2 : base.get? it = none)
    (h : ∀ h' tk (acc : Array Value), (∀ b o, base.get? b = some o → h'.get? b = some o) → acc.size = items.size → NewRow base (fun i k v => (∃ t, k = .int i t) ∧ items[i]? = some v) s.heap.objs.size [e, it] h' acc → Q₁ (.ref h'.objs.size) { s with heap := h'.push { cls := .type "tuple", data := .seq acc }, toks := tk }) :
    codeAny (model prog w) A (.call (.builtin "tuple.__new__") ⟨[.type "tuple", .ref e], []⟩) (wants Q₁ E) s := by
  refine codeAny_of_tree ?_
  show wpAny _ A.in1 (do checkBuiltinCall "tuple.__new__" ⟨[.type "tuple", .ref e], []⟩; again (.builtin "tuple.__new__" ⟨[.type "tuple", .ref e], []⟩)) _ _ s
  refine wpAny_bind (wpAny_of_eq (F.newCall_tuple_1 _) (wpAny_pure ⟨plainId_quiet F.plain_tuple_new _, codeAny_builtin F.entry_tuple_new ?_⟩))
  rw [Around.under_plainId F.plain_tuple_new _]
  have hsub := sub_tuple_self
  have hinit := init_tuple_lookup
  have hmh := madeHere_tuple
  have hTI : s.TypeIs (.ref e) "enumerate" := ⟨_, he, rfl⟩
  have hh1 : A.in1.handled = none := hh
  wp_walk using wpAny_typeOf hTI, collect_en (A := A.in1) hh1 he h1 h2 hei hle hli hn kb b1 b2
  intro h' tk acc hk hz hr
  show wpAny _ _ (Builtin.Tuple.tupleExact acc.toList.toArray >>= fun v => ret v) _ _ _
  unfold Builtin.Tuple.tupleExact
  refine wpAny_bind (wpAny_newObj_type ?_ (by show acc.toList.toArray.size ≤ sizeLine; simp only [Array.toArray_toList]; rw [hz]; exact hn))
  refine wpAny_pure ?_
  have e : acc.toList.toArray = acc := by simp
  rw [e]
  exact h h' tk acc hk hz hr
theorem call_tuple_en {e it l : Addr} {items : Array Value} {old : Value} {base : Heap} {Q : Value → Shared → Prop} (hh : A.handled = none) (he : IsEnum s.heap e it 0 old) (h1 : s.heap.IsListIter it l 0) (h2 : s.heap.IsList l items) (hei : e ≠ it) (hle : l ≠ e) (hli : l ≠ it)
    (hn : items.size ≤ sizeLine) (kb : ∀ b o, base.get? b = some o → s.heap.get? b = some o) (b1 : base.get? e = none) (b2 : base.get? it = none)
    (hQ : ∀ h' tk (acc : Array Value), (∀ b o, base.get? b = some o → h'.get? b = some o) → acc.size = items.size → NewRow base (fun i k v => (∃ t, k = .int i t) ∧ items[i]? = some v) s.heap.objs.size [e, it] h' acc → Q (.ref h'.objs.size) { s with heap := h'.push { cls := .type "tuple", data := .seq acc }, toks := tk }) :
    wpAny (model prog w) A (call (.type "tuple") [.ref e]) Q E s := by
  refine callType_codes (Q₁ := fun obj s₁ => s₁.TypeIs obj "tuple" ∧ Q obj s₁) F.called_tuple (F.typeCall_tuple_1 _) F.entry_object_init
    (code_tuple_en (A := A.in1) hh he h1 h2 hei hle hli hn kb b1 b2 fun h' tk acc hk hz hr => ⟨⟨_, Heap.get?_push_size _ rfl, rfl⟩, hQ h' tk acc hk hz hr⟩) fun obj s₁ h₁ => ?_
  exact ⟨h₁.1, F.args_object_init_2 obj _, object_init_meets F.called_tuple.init.lookup F.called_tuple.made (by decide) prog w A.in1 _ s₁ ⟨h₁.1, rfl, h₁.2⟩⟩
end
section
variable {X : Cx} {pins : List (Addr × Obj)} {σ : L2.St} {H H' : Hp} {s : Shared} {h' : Heap}
/-- new things, tracked all at once -/
theorem inv_lay {t' : Nat} (I : Inv X pins σ H s) (k : ∀ b o, s.heap.get? b = some o → h'.get? b = some o) (old : ∀ b o, s.heap.get? b = some o → H' b = H b) (hs : ∀ b o, H b = some o → H' b = some o) (new : ∀ b o, H b = none → H' b = some o → ObjOk X.prog X.w H' h' b o) :
    Inv X pins σ H' { s with heap := h', toks := t' } :=
  I.un (t' := t') ⟨fun b o e _ _ _ => k b o e, fun b o e _ _ _ => ⟨o.slots, k b o e⟩, fun b o e n _ => (old b o e).trans n, fun b o e _ => ⟨o, k b o e⟩, fun b xs e => hs b _ e, fun b o xs e => hs b _ e, fun b ps e => ⟨#[], by rw [hs b _ e]; simp⟩⟩ fun b o e => by
    cases q : H b with
    | none => exact new b o q e
    | some u =>
      have e2 := hs b u q
      rw [e] at e2
      cases e2
      exact (I.hok b _ q).stay (fun c u _ z => k c u z) (fun c z => hs c _ z) fun c xs z => hs c _ z
end
/-- a new tuple of new pairs -/
def PairsH (H H' : Hp) (p : Addr) (us : List (V × V)) : Prop := (∀ b o, H b = some o → H' b = some o) ∧ H p = none ∧ (∃ ts : List Addr, SqAt false H' p (ts.map V.ref) ∧ Paired (fun t u => H t = none ∧ ∃ o, PlT o ∧ H' t = some (.frz o (.tup [u.1, u.2]))) ts us) ∧
  ∀ b o, H b = none → H' b = some o → b = p ∨ ∃ o' x y, o = .frz o' (.tup [x, y])
def enV (xs : List V) : List (V × V) := (List.range xs.length).zipWith (fun i x => (V.int (i : Nat), x)) xs
theorem paired_of {α β : Type} {F : α → β → Prop} : ∀ (as : List α) (bs : List β), as.length = bs.length → (∀ (i : Nat) (a : α) (b : β), as[i]? = some a → bs[i]? = some b → F a b) → Paired F as bs
  | [], [], _, _ => .nil
  | a :: as, b :: bs, hl, h => .cons (h 0 a b rfl rfl) (paired_of as bs (by simpa using hl) fun i x y h1 h2 => h (i + 1) x y (by simpa using h1) (by simpa using h2))
  | [], _ :: _, hl, _ => by cases hl
  | _ :: _, [], hl, _ => by cases hl
theorem enV_at {xs : List V} {i : Nat} {u : V × V} (e : (enV xs)[i]? = some u) : ∃ x, xs[i]? = some x ∧ u = (V.int (i : Nat), x) := by
  have hi : i < xs.length := by
    have := (List.getElem?_eq_some_iff.mp e).1
    simpa [enV] using this
  refine ⟨xs[i], List.getElem?_eq_getElem hi, ?_⟩
  simp [enV, List.getElem?_zipWith, hi] at e
  exact e.symm
section
variable {X : Cx} {e : Expr} {te : TE} {p p2 pos pos2 : Pos}
/-- tuple(enumerate(e)), e a list -/
def tTupEn (te : TE) : TE := fun σ H Q => te σ H fun x H1 => ∃ a xs, x = .ref a ∧ H1 a = some (.lst xs) ∧ ∀ q H', PairsH H1 H' q (enV xs) → Q (.ref q) H'
theorem pe_tupEn (hc : X.calm = true) (hg : Gl X "tuple") (hm : X.mg "tuple" = none) (hg2 : Gl X "enumerate") (hm2 : X.mg "enumerate" = none) (he : PE X e te)
    (na : starEach [e] X.env = (false, eval e X.env) :: starEach [] X.env) (na2 : starEach [.Call (.Name "enumerate" p2) [e] [] pos2] X.env = (false, eval (.Call (.Name "enumerate" p2) [e] [] pos2) X.env) :: starEach [] X.env := by rfl) :
    PE X (.Call (.Name "tuple" p) [.Call (.Name "enumerate" p2) [e] [] pos2] [] pos) (tTupEn te) := by
  refine ⟨fun pins s σ H Q I h => ?_⟩
  refine Call_ (ld_blt I hg hm boot_tuple (PyProof.Rows.callWith_type1 (args_cons ?_ na2) na2))
  refine Call_ (ld_blt I hg2 hm2 boot_enumerate (PyProof.Rows.callWith_type1 (one_arg he I h (fun v s1 x H1 I1 r q => ?_) na) na))
  obtain ⟨a, xs, ex, ha, q⟩ := q
  subst ex
  cases (show v = Value.ref a from r)
  obtain ⟨its, rv, pl, hz⟩ := I1.list (.of ha)
  have hlen := rv.length
  have B : Begins (.ref a) (itO true a) fun h => HasS true h a its.toArray := begins_s (k := true) its.toArray
  refine call_enum1 B pl.isList fun h' hen hit hk => ?_
  have la : a < s1.heap.objs.size := let ⟨_, z, _⟩ := pl.isList; Heap.lt_size z
  refine args_nil ?_
  have none1 : s1.heap.get? (s1.heap.objs.size + 1) = none := by
    cases z : s1.heap.get? (s1.heap.objs.size + 1) with
    | none => rfl
    | some o => exact absurd (Nat.lt_trans (Nat.lt_succ_self _) (Heap.lt_size z)) (Nat.lt_irrefl _)
  have none0 : s1.heap.get? s1.heap.objs.size = none := by
    cases z : s1.heap.get? s1.heap.objs.size with
    | none => rfl
    | some o => exact absurd (Heap.lt_size z) (Nat.lt_irrefl _)
  refine call_tuple_en (s := { s1 with heap := h' }) (base := s1.heap) (I.ok.hd hc) hen (ItS.new (k := true) hit) (pl.isList.at fun o z => hk a o z) (Nat.succ_ne_self _) (Nat.ne_of_lt (Nat.lt_succ_of_lt la)) (Nat.ne_of_lt la) (by rw [List.size_toArray, ← hlen]; exact hz) hk none1 none0 fun h2 tk acc kp hsz hr => ?_
  have key : ∀ j u, acc[j]? = some u → ∃ t tk x v, u = .ref t ∧ its[j]? = some v ∧ xs[j]? = some x ∧ RelV x v ∧ h2.get? t = some { cls := .type "tuple", data := .seq #[.int (j : Nat) tk, v] } ∧ s1.heap.get? t = none := fun j u hj => by
    obtain ⟨t, k, v, e1, ⟨⟨tk, e2⟩, e3⟩, e4, e5, _, _⟩ := hr j u hj
    have e3' : its[j]? = some v := by simpa using e3
    have hj2 : j < xs.length := by rw [hlen]; exact (List.getElem?_eq_some_iff.mp e3').1
    obtain ⟨u2, q1, q2⟩ := rv.get (List.getElem?_eq_getElem hj2)
    rw [e3'] at q1
    cases q1
    exact ⟨t, tk, xs[j], v, e1, e3', List.getElem?_eq_getElem hj2, q2, by rw [← e2]; exact e4, e5⟩
  have hN : H1 h2.objs.size = none := by
    cases z : H1 h2.objs.size with
    | none => rfl
    | some o =>
      obtain ⟨ob, w⟩ := there (I1.hok _ _ z)
      exact absurd (Heap.lt_size (kp _ _ w)) (Nat.lt_irrefl _)
  have fresh : ∀ t, s1.heap.get? t = none → H1 t = none := fun t z => by
    cases w : H1 t with
    | none => rfl
    | some o =>
      obtain ⟨ob, w2⟩ := there (I1.hok _ _ w)
      rw [z] at w2
      cases w2
  obtain ⟨ts, ets⟩ := refs_of acc.toList fun u hu => by
    obtain ⟨j, hj⟩ := List.getElem?_of_mem hu
    obtain ⟨t, _, _, _, e1, _⟩ := key j u (by simpa using hj)
    exact ⟨t, e1⟩
  have tat : ∀ {j : Nat} {t : Addr}, ts[j]? = some t → acc[j]? = some (.ref t) := fun {j t} hj => by
    have z : acc.toList[j]? = some (.ref t) := by rw [ets, List.getElem?_map, hj]; rfl
    simpa using z
  -- what stands at c
  let Good : Addr → HO → Prop := fun c hv => ∃ (j : Nat) (tk : Tok) (x : V) (v : Value), ts[j]? = some c ∧ xs[j]? = some x ∧ RelV x v ∧ h2.get? c = some { cls := .type "tuple", data := .seq #[.int (j : Nat) tk, v] } ∧ hv = .frz { cls := .type "tuple", data := .seq #[.int (j : Nat) tk, v] } (.tup [.int (j : Nat), x])
  have one : ∀ {c : Addr} {a b : HO}, Good c a → Good c b → a = b := fun {c a b} ga gb => by
    obtain ⟨j, tk, x, v, _, _, r1, g1, e1⟩ := ga
    obtain ⟨j2, tk2, x2, v2, _, _, r2, g2, e2⟩ := gb
    rw [g1] at g2
    injection g2 with g2
    injection g2 with _ _ g2
    injection g2 with g2
    injection g2 with g2
    injection g2 with g3 g4
    injection g4 with g4 _
    injection g3 with g5 g6
    have ej : j = j2 := by omega
    subst ej g4 g6
    cases r1.inj r2
    rw [e1, e2]
  have good : ∀ {j : Nat} {t : Addr}, ts[j]? = some t → ∃ hv, Good t hv := fun {j t} hj => by
    obtain ⟨t', tk, x, v, e1, e2, e3, e4, e5, e6⟩ := key j _ (tat hj)
    cases e1
    exact ⟨_, j, tk, x, v, hj, e3, e4, e5, rfl⟩
  have goodN : ∀ {c hv}, Good c hv → s1.heap.get? c = none := fun {c hv} ⟨j, _, _, _, hj, _⟩ => by
    obtain ⟨t', _, _, _, e1, _, _, _, _, e6⟩ := key j _ (tat hj)
    cases e1
    exact e6
  have hacc : h2.get? h2.objs.size = none := by
    cases z : h2.get? h2.objs.size with
    | none => rfl
    | some o => exact absurd (Heap.lt_size z) (Nat.lt_irrefl _)
  have goodP : ∀ {hv}, ¬ Good h2.objs.size hv := fun {hv} ⟨j, _, _, _, _, _, _, g, _⟩ => by
    rw [hacc] at g
    cases g
  classical
  obtain ⟨H', hP, hG, hO⟩ : ∃ H' : Hp, H' h2.objs.size = some (.frz { cls := .type "tuple", data := .seq acc } (.tup (ts.map V.ref))) ∧ (∀ c hv, Good c hv → H' c = some hv) ∧ ∀ c, c ≠ h2.objs.size → (∀ hv, ¬ Good c hv) → H' c = H1 c := by
    refine ⟨fun c => if c = h2.objs.size then some (.frz { cls := .type "tuple", data := .seq acc } (.tup (ts.map V.ref))) else if h : ∃ hv, Good c hv then some (Classical.choose h) else H1 c, if_pos rfl, fun c hv g => ?_, fun c n g => ?_⟩
    · show (if c = h2.objs.size then _ else _) = _
      rw [if_neg (fun z => goodP (z ▸ g)), dif_pos ⟨hv, g⟩]
      exact congrArg some (one (Classical.choose_spec (⟨hv, g⟩ : ∃ hv, Good c hv)) g)
    · show (if c = h2.objs.size then _ else _) = _
      rw [if_neg n, dif_neg fun ⟨hv, z⟩ => g hv z]
  have hs : ∀ b o, H1 b = some o → H' b = some o := fun b o z => by
    rw [hO b (fun w => by rw [w, hN] at z; cases z) fun hv g => by rw [fresh b (goodN g)] at z; cases z]
    exact z
  have up : ∀ b o, h2.get? b = some o → (h2.push { cls := .type "tuple", data := .seq acc }).get? b = some o := fun b o z => Heap.get?_push_of_some _ z
  have nOld : s1.heap.get? h2.objs.size = none := by
    cases z : s1.heap.get? h2.objs.size with
    | none => rfl
    | some o => exact absurd (Heap.lt_size (kp _ _ z)) (Nat.lt_irrefl _)
  have lts : ts.length = xs.length := by
    have z : acc.toList.length = ts.length := by rw [ets, List.length_map]
    rw [← z, Array.length_toList, hsz, List.size_toArray, hlen]
  have dec : ∀ b o, H1 b = none → H' b = some o → (b = h2.objs.size ∧ o = .frz { cls := .type "tuple", data := .seq acc } (.tup (ts.map V.ref))) ∨ Good b o := fun b o n z => by
    by_cases w : b = h2.objs.size
    · rw [w, hP] at z
      cases z
      exact .inl ⟨w, rfl⟩
    · by_cases g : ∃ hv, Good b hv
      · obtain ⟨hv, g⟩ := g
        rw [hG b hv g] at z
        cases z
        exact .inr g
      · rw [hO b w fun hv g' => g ⟨hv, g'⟩, n] at z
        cases z
  refine ⟨.ref h2.objs.size, H', inv_lay (s := s1) (t' := tk) I1 (fun b o z => up b o (kp b o z)) (fun b o z => hO b (fun w => by rw [w, nOld] at z; cases z) fun hv g => by rw [goodN g] at z; cases z) hs fun b o n z => ?_, rfl, q _ _ ⟨hs, hN, ⟨ts, ⟨_, hP, rfl, rfl⟩, ?_⟩, fun b o n z => ?_⟩⟩
  · rcases dec b o n z with ⟨rfl, rfl⟩ | g
    · refine ⟨Heap.get?_push_size _ rfl, by rw [List.length_map, lts]; exact hz, acc.toList, ?_, ?_⟩
      · rw [ets]
        exact vals_of_refs ts
      · rw [Array.toArray_toList]
        exact ⟨_, Heap.get?_push_size _ rfl, rfl, _, rfl⟩
    · obtain ⟨j, tk, x, v, _, _, r, g, rfl⟩ := g
      exact ⟨up _ _ g, show 2 ≤ sizeLine by rw [sizeLine_eq]; decide, [.int (j : Nat) tk, v], .cons ⟨_, rfl⟩ (.cons r .nil), _, up _ _ g, rfl, _, rfl⟩
  · refine paired_of ts (enV xs) (by simp [enV, lts]) fun j t u hj hu => ?_
    obtain ⟨x, hx, rfl⟩ := enV_at hu
    obtain ⟨hv, g⟩ := good hj
    refine ⟨fresh t (goodN g), ?_⟩
    obtain ⟨t', tk, x', v, e1, e2, e3, e4, e5, e6⟩ := key j _ (tat hj)
    cases e1
    rw [hx] at e3
    cases e3
    exact ⟨_, ⟨rfl, rfl⟩, hG t _ ⟨j, tk, x, v, hj, hx, e4, e5, rfl⟩⟩
  · rcases dec b o n z with ⟨w, _⟩ | g
    · exact .inl w
    · obtain ⟨j, tk, x, v, _, _, r, g, rfl⟩ := g
      exact .inr ⟨_, _, _, rfl⟩
where
  refs_of : ∀ l : List Value, (∀ u ∈ l, ∃ t, u = Value.ref t) → ∃ ts : List Addr, l = ts.map Value.ref
    | [], _ => ⟨[], rfl⟩
    | u :: l, h => by
      obtain ⟨t, e⟩ := h u (List.mem_cons_self ..)
      obtain ⟨ts, e2⟩ := refs_of l fun x hx => h x (List.mem_cons_of_mem _ hx)
      exact ⟨t :: ts, by rw [e, e2]; rfl⟩
  vals_of_refs : ∀ ts : List Addr, Vals (ts.map V.ref) (ts.map Value.ref)
    | [] => .nil
    | t :: ts => .cons rfl (vals_of_refs ts)
  there {P : Program} {w : World} {H : Hp} {h : Heap} {a : Addr} {o : HO} (x : ObjOk P w H h a o) : ∃ ob, h.get? a = some ob := by
    induction o with
    | lst xs => obtain ⟨_, _, _, _, e⟩ := x; exact ⟨_, e⟩
    | tup xs => obtain ⟨_, _, _, o, e, _⟩ := x; exact ⟨_, e⟩
    | dK kvs => obtain ⟨_, _, _, _, o, _, _, e, _⟩ := x; exact ⟨_, e⟩
    | dT kvs => obtain ⟨_, _, _, _, o, _, _, e, _⟩ := x; exact ⟨_, e⟩
    | set S n => obtain ⟨o, _, _, _, e, _⟩ := x; exact ⟨_, e⟩
    | ins C dx fs => obtain ⟨_, _, _, e, _⟩ := x; exact ⟨_, e⟩
    | own y => obtain ⟨_, e⟩ := x; exact ⟨_, e⟩
    | xd fs => obtain ⟨_, ⟨_, _, _, e, _⟩, _⟩ := x; exact ⟨_, e⟩
    | rng lo hi => obtain ⟨_, _, _, e⟩ := x; exact ⟨_, e⟩
    | frz ob u ih => obtain ⟨e, _⟩ := x; exact ⟨_, e⟩
    | tbl ps => exact ⟨_, show h.get? a = some _ from x⟩
    | met f y => exact ⟨_, show h.get? a = some _ from x⟩
    | ext φ => obtain ⟨_, e, _⟩ := x; exact e
end
end Mp
set_option Elab.async false
set_option linter.all false
set_option maxRecDepth 100000
set_option maxHeartbeats 1000000
/-! Mp, part T: tuple(enumerate(xs)), list(range(n)) against the evaluator. -/
namespace Mp
open PySem PySem.Spec PyProof.Rows L2 StX ItX
section
variable {K : PySem.W.Frag} {G : Addr → Prop} {nf : Nat → Nat} {m m' : List Addr} {h h' : Hm} {H H' : Hp}
/-- more things -/
theorem Rl.ext (r : Rl K G nf m h H) (kp : ∀ b o, H b = some o → H' b = some o) (sm : ∀ a xs, (H' a = some (.lst xs) ∨ ∃ o, H' a = some (.frz o (.tup xs))) → xs.length ≤ sizeLine) : Stp K G nf m h H m h H' := by
  refine ⟨List.prefix_refl _, fun a o e _ => kp a o e, fun a z => .inl z, ⟨Nat.le_refl _, fun _ _ _ e _ => e⟩, r.chg (fun a o e n => ⟨kp a o e, n⟩) (fun a l => ?_) (fun a g => ?_) r.gm sm⟩
  · obtain ⟨o, e⟩ := r.th a l
    rw [kp a o e, e]
  · obtain ⟨o, e⟩ := r.gd a g
    exact ⟨o, kp a o e⟩
theorem Rl.nofb (r : Rl K G nf m h H) {a : Addr} (e : H a = none) : ¬ Fb G m h a := fun z => by
  rcases z with z | z
  · obtain ⟨o, w⟩ := r.th a z.mem
    rw [e] at w
    cases w
  · obtain ⟨o, w⟩ := r.gd a z
    rw [e] at w
    cases w
theorem enumD_reps {N : Addr → Prop} {H' : Hp} {xs : List PyData} {vs : List V} {ts : List Addr} (rs : Reps N H' xs vs) (hp : Paired (fun t u => ¬ N t ∧ ∃ o, PlT o ∧ H' t = some (.frz o (.tup [u.1, u.2]))) ts (enV vs)) : Reps N H' (enumD xs) (ts.map V.ref) := by
  have gen : ∀ (ys : List PyData) (ws : List V) (n : Nat) (us : List (V × V)) (ts : List Addr), Reps N H' ys ws → us = (List.range ws.length).zipWith (fun i x => (V.int ((n + i : Nat) : Int), x)) ws → Paired (fun t u => ¬ N t ∧ ∃ o, PlT o ∧ H' t = some (.frz o (.tup [u.1, u.2]))) ts us →
      Reps N H' ((List.range ys.length).zipWith (fun i x => PyData.tuple [.int ((n + i : Nat) : Int), x]) ys) (ts.map V.ref) := by
    intro ys
    induction ys with
    | nil =>
      intro ws n us ts r e p
      cases ws with
      | nil => subst e; cases p; exact trivial
      | cons _ _ => exact r.elim
    | cons y ys ih =>
      intro ws n us ts r e p
      cases ws with
      | nil => exact r.elim
      | cons w ws =>
        have e2 : us = (V.int ((n : Nat) : Int), w) :: (List.range ws.length).zipWith (fun i x => (V.int ((n + 1 + i : Nat) : Int), x)) ws := by
          rw [e, List.length_cons, List.range_succ_eq_map, List.zipWith_cons_cons, List.zipWith_map_left]
          simp only [Nat.add_zero, Nat.add_assoc, Nat.add_comm 1]
        rw [e2] at p
        cases p with
        | cons h1 h2 =>
          obtain ⟨no, o, pl, ho⟩ := h1
          have t := ih ws (n + 1) _ _ r.2 rfl h2
          rw [List.length_cons, List.range_succ_eq_map, List.zipWith_cons_cons, List.zipWith_map_left]
          refine ⟨⟨_, o, _, rfl, ho, pl, no, rfl, r.1, trivial⟩, ?_⟩
          simp only [Nat.add_assoc, Nat.add_comm 1] at t ⊢
          exact t
  have z := gen xs vs 0 (enV vs) ts rs (by simp [enV]) hp
  simpa [enumD] using z
end
section
variable {P : Pm} {σ : L2.St} {H : Hp} {Q : VK}
theorem enV_len (vs : List V) : (enV vs).length = vs.length := by simp [enV]
theorem tE_tupEn {e : ME} (q : tE P (.tupEn e) σ H Q) : tTupEn (tE P e) σ H Q := by
  obtain ⟨G, nf, m, h, env, r, h', x, ev, k⟩ := q
  simp only [evE] at ev
  obtain ⟨⟨v1, h1⟩, e1, ev1⟩ := bind_some ev
  obtain ⟨⟨d, h2⟩, e2, ev2⟩ := bind_some ev1
  clear ev ev1
  simp only at ev2
  split at ev2
  · rename_i xs
    cases ev2
    refine ⟨G, nf, m, h, env, v1, h1, x, e1, fun y m1 H1 s1 q1 => ?_⟩
    obtain ⟨s2, a, vs, rfl, ha, no, rs⟩ := s1.rl.toD q1 e2
    refine ⟨a, vs, rfl, ha, fun p H' ph => ?_⟩
    obtain ⟨kp, hp, ⟨ts, ⟨o, ho, pl⟩, pr⟩, only⟩ := ph
    have lts : ts.length = vs.length := by rw [← enV_len, ← Paired.length pr]
    have hz : vs.length ≤ sizeLine := s2.rl.sm a vs (.inl ha)
    have s3 := s2.rl.ext (H' := H') kp fun c zs w => by
      cases hc : H1 c with
      | some u =>
        have := kp c u hc
        rcases w with w | ⟨o', w⟩
        · rw [this] at w; cases w; exact s2.rl.sm c zs (.inl hc)
        · rw [this] at w; cases w; exact s2.rl.sm c zs (.inr ⟨_, hc⟩)
      | none =>
        rcases w with w | ⟨o', w⟩
        · rcases only c _ hc w with z | ⟨_, _, _, z⟩
          · rw [z, ho] at w; cases w
          · cases z
        · rcases only c _ hc w with z | ⟨_, x', y', z⟩
          · rw [z, ho] at w
            cases w
            rw [List.length_map, lts]
            exact hz
          · cases z
            show 2 ≤ sizeLine
            rw [sizeLine_eq]; decide
    refine k _ _ _ (s1.trans (s2.trans s3)) ⟨p, o, _, rfl, ho, pl, s2.rl.nofb hp, ?_⟩
    exact enumD_reps (Reps.keep s3.keeps _ _ rs) (Paired.mapP pr fun t u z => ⟨s2.rl.nofb z.1, z.2⟩)
  · cases ev2
theorem rgV_reps {N : Addr → Prop} (n : Int) : Reps N H (rngD 0 n.toNat) (rgV 0 n) := by
  have e : rgV 0 n = (((List.range n.toNat).map fun i => (0 : Int) + ((i : Nat) : Int)).map V.int) := by simp [rgV]
  have e2 : rngD 0 n.toNat = (((List.range n.toNat).map fun i => (0 : Int) + ((i : Nat) : Int)).map PyData.int) := by simp [rngD]
  rw [e, e2]
  exact reps_ints _
theorem tE_lstRg {mu : Bool} {e : ME} (q : tE P (.lstRg mu e) σ H Q) : tLstRg (tRg1 (tE P e)) σ H Q := by
  obtain ⟨G, nf, m, h, env, r, h', x, ev, k⟩ := q
  simp only [evE] at ev
  obtain ⟨⟨v1, h1⟩, e1, ev1⟩ := bind_some ev
  clear ev
  simp only at ev1
  split at ev1
  · rename_i n
    split at ev1
    · rename_i hn
      have ev2 := Option.some.inj ev1
      refine ⟨G, nf, m, h, env, _, h1, x, e1, fun y m1 H1 s1 q1 => ⟨n, q1, ?_, fun p hp => ?_⟩⟩
      · have hm : n ≤ 16777216 := hn.1
        exact ⟨by omega, by omega, hn.2, by omega, by omega⟩
      · have hm : n ≤ 16777216 := hn.1
        obtain ⟨m2, s2, q2⟩ := s1.rl.newList (sc := P.c.scr) mu (ds := rngD 0 n.toNat) hp (by rw [rgV_length, sizeLine_eq]; omega) (rgV_reps n)
        rw [ev2] at s2 q2
        exact k _ _ _ (s1.trans s2) q2
    · cases ev1
  · cases ev1
end
end Mp
set_option Elab.async false
set_option linter.all false
set_option maxRecDepth 100000
set_option maxHeartbeats 1000000
/-! Mp, part U: the context of a def's body, what is decided of an expression's form. -/
namespace Mp
open PySem PySem.Spec PyProof.Rows L2 StX ItX

/-- what is known of the module: constants, built-in names that stand for themselves, functions, methods, classes, fields -/
structure Lw where
  cons : List (Str × D)
  bi : List Str
  funs : List Str
  meths : List (Str × Str)
  clss : List Str
  flds : List (Str × Str)
/-- a scope: the slots, the names that run here, the names whose cells are one's own, whether it is the def's own -/
structure Sc where
  N : List Str
  sc : Scope
  fn : Str → Bool
  top : Bool
def Sc.blk (Γ : Sc) (scope : Scope) : Sc := ⟨Γ.N, relS scope Γ.sc, fun x => scope.names.lookup x == some .cell, false⟩
/-- no exception leaves -/
def CX0 : CXT := fun _ _ _ _ _ _ => False
/-- a callee that keeps its promise -/
def FnS (X : Cx) (j : Nat) (fa : Addr) (sp : Sp) : Prop := ∃ (fd : FuncData) (ps : List Str), Binds X.K fd ps [] ∧ FnOk X.prog X.w X.K X.mg X.base CX0 j fa fd ps sp
structure Ctx (L : Lw) (Γ : Sc) (P : Pm) (j : Nat) (X : Cx) : Prop where
  N : X.N = Γ.N
  sc : X.env.scope = Γ.sc
  fn : ∀ x, Γ.fn x = true → X.fn x = true
  K : X.K = P.K
  nd : Γ.N.Nodup
  calm : X.calm = true
  xe : X.xe = fun _ _ => False
  room : Room (j + 1) X.A
  con : ∀ x d v, (x, d) ∈ L.cons → cV d = some v → ∃ u, X.mg x = some u ∧ RelV v u
  bi : ∀ x ∈ L.bi, X.mg x = none
  funs : ∀ f ∈ L.funs, ∃ fa, X.mg f = some (.ref fa) ∧ PySem.W.keepIn X.K (.ref fa) = true ∧ FnS X j fa (spC P.K P.c.scr P.c.call f none)
  meths : ∀ c m, (c, m) ∈ L.meths → ∃ fa, Cls X.K (He.ga X.K c) ∧ Meth X.K (He.ga X.K c) m fa ∧ FnS X j fa (spC P.K P.c.scr P.c.call c (some m))
  clss : ∀ c ∈ L.clss, ∃ fa, Cls X.K (He.ga X.K c) ∧ X.mg c = some (.ref (He.ga X.K c)) ∧ Mk X.K (He.ga X.K c) fa ∧ FnS X j fa (spC P.K P.c.scr P.c.call c (some "__init__"))
  flds : ∀ c f, (c, f) ∈ L.flds → NoAttr X.K (He.ga X.K c) f
  top : Γ.top = true → X.s_0.heap.objs.size = P.n0
section
variable {L : Lw} {Γ : Sc} {P : Pm} {j : Nat} {X : Cx}
theorem Ctx.un (c : Ctx L Γ P j X) : X.A.units + 100 < cLine := by
  have := c.room.un
  omega
theorem Ctx.blk (c : Ctx L Γ P j X) (s : Shared) (H : Hp) (scope : Scope) (C : Addr) (cl : List (Str × Addr)) (fp : List Addr) : Ctx L (Γ.blk scope) P j (X.blk s H scope (compEnvC scope cl C X.env) fp) where
  N := c.N
  sc := by
    show relabel scope X.env = relS scope Γ.sc
    rw [← c.sc]
    rfl
  fn := fun x h => h
  K := c.K
  nd := c.nd
  calm := c.calm
  xe := rfl
  room := c.room
  con := c.con
  bi := c.bi
  funs := c.funs
  meths := c.meths
  clss := c.clss
  flds := c.flds
  top := fun h => by cases h
theorem Passes0 {E : XK} : Passes CX0 X E := fun _ _ _ _ _ _ _ h => h.elim

/-! ### names -/
def okV (Γ : Sc) (i : Nat) (x : Str) : Bool := decide (Γ.N[i]? = some x) && (match Γ.sc.names.lookup x with
  | some .local => true
  | some .cell => true
  | some .free => true
  | _ => false) && !(x == "__debug__") && !(x == "__classdict__")
def okG (Γ : Sc) (x : Str) : Bool := match Γ.sc.names.lookup x with
  | some .globalImplicit => true
  | _ => false
theorem okV_pe (c : Ctx L Γ P j X) {i : Nat} {x : Str} {p : Pos} (h : okV Γ i x = true) : PE X (.Name x p) (tVar i) := by
  unfold okV at h
  simp only [Bool.and_eq_true, decide_eq_true_eq, Bool.not_eq_true'] at h
  obtain ⟨⟨⟨h1, h2⟩, h3⟩, h4⟩ := h
  refine pe_var (by rw [c.N]; exact h1) ?_ h3 h4
  show Vis X.env.scope x
  rw [c.sc]
  unfold Vis
  split at h2
  · rename_i e; exact .inl e
  · rename_i e; exact .inr (.inl e)
  · rename_i e; exact .inr (.inr e)
  · cases h2
theorem okG_gl (c : Ctx L Γ P j X) {x : Str} (h : okG Γ x = true) : Gl X x := by
  unfold okG at h
  show X.env.scope.names.lookup x = _
  rw [c.sc]
  split at h
  · assumption
  · cases h
/-! ### forms -/
def notStar : Expr → Bool
  | .Starred .. => false
  | _ => true
theorem star_one {e : Expr} {es : List Expr} {env : Env} (h : notStar e = true) : starEach (e :: es) env = (false, eval e env) :: starEach es env := by
  cases e <;> first | rfl | cases h
theorem stars_any {pos : Pos} {env : Env} : ∀ {es : List Expr}, es.all notStar = true → (backTo pos (starEach es env)).any (·.1) = false
  | [], _ => rfl
  | e :: es, h => by
    rw [List.all_cons, Bool.and_eq_true] at h
    rw [star_one h.1]
    show (false || (backTo pos (starEach es env)).any (·.1)) = false
    rw [stars_any h.2]
    rfl
def notSet : Expr → Bool
  | .Set .. => false
  | _ => true
theorem set_behind {op : CmpOp} {e : Expr} (h : notSet e = true) : behindInMarks op e = false := by
  cases e <;> first | rfl | cases h
theorem set_folded {e : Expr} {env : Env} (h : notSet e = true) : ∀ x, foldedSetIterable e env x = pure x := fun x => by
  cases e <;> first | rfl | cases h
def notSlice : Expr → Bool
  | .Slice .. => false
  | _ => true
theorem slice_plain {e : Expr} (h : notSlice e = true) : PlainIx e := fun o i => by
  cases e <;> first | rfl | cases h
theorem slice_noSl {e : Expr} (h : notSlice e = true) : NoSl e := by
  cases e <;> first | exact ⟨fun _ _ => rfl⟩ | (intro o i; rfl) | cases h
/-- what is tested by its value's truth -/
def plainT : Expr → Bool
  | .UnaryOp .Not _ _ => false
  | .BoolOp .. => false
  | .IfExp .. => false
  | .Compare .. => false
  | _ => true
theorem plainT_is {e : Expr} {env : Env} (h : plainT e = true) : ∀ whole, isTrue e env whole = (do let v ← whole; standAt e.pos; holding [v] (truthy v)) := fun whole => by
  cases e <;> first | rfl | (cases h; done) | skip
  rename_i op _ _
  cases op <;> first | rfl | cases h
theorem _root_.L2.PE.imp {e : Expr} {t t' : TE} (h : PE X e t) (k : ∀ σ H Q, t' σ H Q → t σ H Q) : PE X e t' := ⟨fun pins s σ H Q I q => h.run pins s σ H Q I (k σ H Q q)⟩
theorem _root_.L2.PT.imp {e : Expr} {t t' : TT} (h : PT X e t) (k : ∀ σ H Q, t' σ H Q → t σ H Q) : PT X e t' := ⟨fun pins s σ H Q I q => h.run pins s σ H Q I (k σ H Q q)⟩
theorem _root_.L2.PW.imp {e : Expr} {t t' : TT} (h : PW X e t) (k : ∀ σ H Q, t' σ H Q → t σ H Q) : PW X e t' := ⟨fun wh pins s σ H Q I q => h.run wh pins s σ H Q I (k σ H Q q)⟩
theorem _root_.L2.PA.imp {es : List Expr} {t t' : TA} (h : PA X es t) (k : ∀ σ H Q, t' σ H Q → t σ H Q) : PA X es t' := ⟨fun pos pins s σ H Q I q => h.run pos pins s σ H Q I (k σ H Q q)⟩
theorem _root_.L2.PO.imp {e : Option Expr} {t t' : TO} (h : PO X e t) (k : ∀ σ H Q, t' σ H Q → t σ H Q) : PO X e t' := ⟨fun pins s σ H Q I q => h.run pins s σ H Q I (k σ H Q q)⟩
theorem _root_.L2.PI.imp {tg e : Expr} {t t' : TI} (h : PI X tg e t) (k : ∀ σ H R, t' σ H R → t σ H R) : PI X tg e t' := ⟨fun pins s σ H R I q => h.run pins s σ H R I (k σ H R q)⟩
theorem _root_.L2.PG.imp {tg : Expr} {t t' : TG} (h : PG X tg t) (k : ∀ v σ H Q, t' v σ H Q → t v σ H Q) : PG X tg t' := ⟨fun pins s σ H v u Q I r q => h.run pins s σ H v u Q I r (k v σ H Q q)⟩
theorem _root_.L2.PS.imp {st : Stmt} {t t' : TS} (h : PS X st t) (k : ∀ D σ H, t' D σ H → t D σ H) : PS X st t' := ⟨fun pins s σ H D I q => h.run pins s σ H D I (k D σ H q)⟩
theorem _root_.L2.PSs.imp {st : List Stmt} {t t' : TS} (h : PSs X st t) (k : ∀ D σ H, t' D σ H → t D σ H) : PSs X st t' := ⟨fun pins s σ H D I q => h.run pins s σ H D I (k D σ H q)⟩
end
def isBO : Expr → Bool
  | .BoolOp .. => true
  | _ => false
/-- an expression that reads as the evaluator says -/
structure Good (X : Cx) (P : Pm) (me : ME) (e : Expr) : Prop where
  pe : PE X e (tE P me)
  pt : PT X e (tT P me)
  pw : isBO e = true → PW X e (tT P me)
theorem good_plain {X : Cx} {P : Pm} {me : ME} {e : Expr} (hK : X.K = P.K) (h : plainT e = true) (pe : PE X e (tE P me)) : Good X P me e where
  pe := pe
  pt := (pt_truth pe (plainT_is h)).imp fun σ H Q q => by
    rw [hK]
    exact tT_truth q
  pw := fun b => by cases e <;> first | (cases b; done) | (cases h; done)
/-- f(a), f a built-in name -/
def chkB1 (L : Lw) (Γ : Sc) (nm : Str) (k : Expr → Bool) : Expr → Bool
  | .Call (.Name x _) [a] [] _ => x == nm && okG Γ nm && L.bi.contains nm && notStar a && k a
  | _ => false
theorem chkB1_is {L : Lw} {Γ : Sc} {nm : Str} {k : Expr → Bool} {e : Expr} (h : chkB1 L Γ nm k e = true) : ∃ p a pos, e = .Call (.Name nm p) [a] [] pos ∧ okG Γ nm = true ∧ nm ∈ L.bi ∧ notStar a = true ∧ k a = true := by
  unfold chkB1 at h
  split at h
  · simp only [Bool.and_eq_true, beq_iff_eq, List.contains_iff_mem] at h
    obtain ⟨⟨⟨⟨rfl, h1⟩, h2⟩, h3⟩, h4⟩ := h
    exact ⟨_, _, _, rfl, h1, h2, h3, h4⟩
  · cases h
def chkB2 (L : Lw) (Γ : Sc) (nm : Str) (k1 k2 : Expr → Bool) : Expr → Bool
  | .Call (.Name x _) [a, b] [] _ => x == nm && okG Γ nm && L.bi.contains nm && notStar a && notStar b && k1 a && k2 b
  | _ => false
theorem chkB2_is {L : Lw} {Γ : Sc} {nm : Str} {k1 k2 : Expr → Bool} {e : Expr} (h : chkB2 L Γ nm k1 k2 e = true) : ∃ p a b pos, e = .Call (.Name nm p) [a, b] [] pos ∧ okG Γ nm = true ∧ nm ∈ L.bi ∧ notStar a = true ∧ notStar b = true ∧ k1 a = true ∧ k2 b = true := by
  unfold chkB2 at h
  split at h
  · simp only [Bool.and_eq_true, beq_iff_eq, List.contains_iff_mem] at h
    obtain ⟨⟨⟨⟨⟨⟨rfl, h1⟩, h2⟩, h3⟩, h4⟩, h5⟩, h6⟩ := h
    exact ⟨_, _, _, _, rfl, h1, h2, h3, h4, h5, h6⟩
  · cases h
section
variable {L : Lw} {Γ : Sc} {P : Pm} {j : Nat} {X : Cx}
theorem pa_1 {a : Expr} {ta : TE} (ha : PE X a ta) (n : notStar a = true) : PA X [a] (tCons ta tNil) := pa_cons ha pa_nil (star_one n)
theorem pa_2 {a b : Expr} {ta tb : TE} (ha : PE X a ta) (hb : PE X b tb) (n : notStar a = true) (n2 : notStar b = true) : PA X [a, b] (tCons ta (tCons tb tNil)) := pa_cons ha (pa_1 hb n2) (star_one n)
/-- a built-in function of one argument -/
theorem b1_pe (c : Ctx L Γ P j X) {nm : Str} {id : String} {r : List V → Hp → VK → Prop} {a : Expr} {ta : TE} {p pos : Pos} (hr : CallR X (.builtin id) r) (hv : bootBuiltins nm = some (.builtin id)) (g : okG Γ nm = true) (b : nm ∈ L.bi) (n : notStar a = true) (ha : PE X a ta) (hn : nm ≠ "__name__") (hd : (nm == ("__debug__" : Str)) = false) :
    PE X (.Call (.Name nm p) [a] [] pos) (tCB r (tCons ta tNil)) := pe_callB hr (okG_gl c g) (c.bi _ b) hv (pa_1 ha n) hn hd (star_one n) rfl
theorem t1_pe (c : Ctx L Γ P j X) {nm : Str} {id : String} {r : List V → Hp → VK → Prop} {a : Expr} {ta : TE} {p pos : Pos} (hr : CallR X (.type id) r) (hv : bootBuiltins nm = some (.type id)) (g : okG Γ nm = true) (b : nm ∈ L.bi) (n : notStar a = true) (ha : PE X a ta) (hn : nm ≠ "__name__") (hd : (nm == ("__debug__" : Str)) = false) :
    PE X (.Call (.Name nm p) [a] [] pos) (tCB r (tCons ta tNil)) := pe_callTy hr (okG_gl c g) (c.bi _ b) hv (pa_1 ha n) hn hd (star_one n) rfl
theorem b2_pe (c : Ctx L Γ P j X) {nm : Str} {id : String} {r : List V → Hp → VK → Prop} {a b : Expr} {ta tb : TE} {p pos : Pos} (hr : CallR X (.builtin id) r) (hv : bootBuiltins nm = some (.builtin id)) (g : okG Γ nm = true) (hb : nm ∈ L.bi) (n : notStar a = true) (n2 : notStar b = true) (ha : PE X a ta) (hb2 : PE X b tb) (hn : nm ≠ "__name__") (hd : (nm == ("__debug__" : Str)) = false) :
    PE X (.Call (.Name nm p) [a, b] [] pos) (tCB r (tCons ta (tCons tb tNil))) := pe_callB hr (okG_gl c g) (c.bi _ hb) hv (pa_2 ha hb2 n n2) hn hd (star_one n) (stars_any (by simp [n2]))
theorem t2_pe (c : Ctx L Γ P j X) {nm : Str} {id : String} {r : List V → Hp → VK → Prop} {a b : Expr} {ta tb : TE} {p pos : Pos} (hr : CallR X (.type id) r) (hv : bootBuiltins nm = some (.type id)) (g : okG Γ nm = true) (hb : nm ∈ L.bi) (n : notStar a = true) (n2 : notStar b = true) (ha : PE X a ta) (hb2 : PE X b tb) (hn : nm ≠ "__name__") (hd : (nm == ("__debug__" : Str)) = false) :
    PE X (.Call (.Name nm p) [a, b] [] pos) (tCB r (tCons ta (tCons tb tNil))) := pe_callTy hr (okG_gl c g) (c.bi _ hb) hv (pa_2 ha hb2 n n2) hn hd (star_one n) (stars_any (by simp [n2]))
end
end Mp
set_option Elab.async false
set_option linter.all false
set_option maxRecDepth 100000
set_option maxHeartbeats 1000000
/-! Mp, part V: the checker of expressions. -/
namespace Mp
open PySem PySem.Spec PyProof.Rows L2 StX ItX

/-! ### leaves -/
def okC : D → Const → Bool
  | .none, .none => true
  | .bool a, .bool b => a == b
  | .int a, .int b => a == b
  | .str a, .str b => a == b
  | _, _ => false
def eqC : D → D → Bool
  | .none, .none => true
  | .bool a, .bool b => a == b
  | .int a, .int b => a == b
  | .str a, .str b => a == b
  | _, _ => false
theorem eqC_is {a b : D} (h : eqC a b = true) : a = b ∧ ∃ v, cV a = some v := by
  unfold eqC at h
  split at h
  · exact ⟨rfl, _, rfl⟩
  · rw [beq_iff_eq] at h; subst h; exact ⟨rfl, _, rfl⟩
  · rw [beq_iff_eq] at h; subst h; exact ⟨rfl, _, rfl⟩
  · rw [beq_iff_eq] at h; subst h; exact ⟨rfl, _, rfl⟩
  · cases h
section
variable {L : Lw} {Γ : Sc} {P : Pm} {j : Nat} {X : Cx}
theorem okC_pe {d : D} {k : Const} {n : Nat} {pos : Pos} (h : okC d k = true) : PE X (.Constant k n pos) (tE P (.con d)) := by
  unfold okC at h
  split at h
  · exact pe_non.imp fun σ H Q q => tE_con rfl q
  · rw [beq_iff_eq] at h; subst h; exact pe_bl.imp fun σ H Q q => tE_con rfl q
  · rw [beq_iff_eq] at h; subst h; exact pe_int.imp fun σ H Q q => tE_con rfl q
  · rw [beq_iff_eq] at h; subst h; exact pe_str.imp fun σ H Q q => tE_con rfl q
  · cases h
def okGl (L : Lw) (Γ : Sc) (s : Str) (d : D) : Bool := okG Γ s && !(s == "__debug__") && (L.cons.any fun p => p.1 == s && eqC p.2 d)
theorem okGl_pe (c : Ctx L Γ P j X) {s : Str} {d : D} {pos : Pos} (h : okGl L Γ s d = true) : PE X (.Name s pos) (tE P (.gl s d)) := by
  unfold okGl at h
  simp only [Bool.and_eq_true, Bool.not_eq_true', List.any_eq_true, beq_iff_eq] at h
  obtain ⟨⟨h1, h2⟩, ⟨n, d'⟩, h3, h4, h5⟩ := h
  obtain ⟨e, v, hv⟩ := eqC_is h5
  simp only at h4 e hv
  subst h4 e
  obtain ⟨u, hu, r⟩ := c.con n d' v h3 hv
  exact (pe_glob (okG_gl c h1) hu r h2).imp fun σ H Q q => tE_gl hv q

/-! ### unary -/
def tyOk (L : Lw) (Γ : Sc) (t : String) : Expr → Bool
  | .Name x _ => x == Str.ofString t && okTy t && okG Γ (Str.ofString t) && L.bi.contains (Str.ofString t)
  | _ => false
def tysOk (L : Lw) (Γ : Sc) : List String → List Expr → Bool
  | [], [] => true
  | t :: ts, e :: es => tyOk L Γ t e && tysOk L Γ ts es
  | _, _ => false
def chkTys (L : Lw) (Γ : Sc) (ts : List String) (e : Expr) : Bool := match ts with
  | [t] => tyOk L Γ t e
  | ts => (match e with
    | .Tuple es _ _ => tysOk L Γ ts es
    | _ => false)
def chkUn (L : Lw) (Γ : Sc) (o : UOp) (k : Expr → Bool) (e : Expr) : Bool := match o with
  | .neg => (match e with | .UnaryOp .USub a _ => k a | _ => false)
  | .len => chkB1 L Γ "len" k e
  | .abs => chkB1 L Γ "abs" k e
  | .int => chkB1 L Γ "int" k e
  | .tuple => chkB1 L Γ "tuple" k e
  | .list _ => chkB1 L Γ "list" k e
  | .sset => chkB1 L Γ "sorted" (chkB1 L Γ "set" k) e
  | .sorted => chkB1 L Γ "sorted" k e
  | .all => chkB1 L Γ "all" k e
  | .any => chkB1 L Γ "any" k e
  | .sum => chkB1 L Γ "sum" k e
  | .isi ts => decide (ts.length ≤ 5) && chkB2 L Γ "isinstance" k (chkTys L Γ ts) e
  | .fld f => (match e with | .Attribute (.Name y p) g _ => g == f && k (.Name y p) | _ => false)
theorem boot_ty {t : String} (h : okTy t = true) : bootBuiltins (Str.ofString t) = some (.type t) ∧ Str.ofString t ≠ "__name__" ∧ (Str.ofString t == ("__debug__" : Str)) = false := by
  have m : t ∈ ["int", "bool", "str", "list", "tuple"] := by simpa [okTy] using h
  simp only [List.mem_cons, List.not_mem_nil, or_false] at m
  rcases m with rfl | rfl | rfl | rfl | rfl
  · exact ⟨boot_int, by decide, by decide⟩
  · exact ⟨boot_bool, by decide, by decide⟩
  · exact ⟨boot_str, by decide, by decide⟩
  · exact ⟨boot_list, by decide, by decide⟩
  · exact ⟨boot_tuple, by decide, by decide⟩
theorem tyOk_pe (c : Ctx L Γ P j X) {t : String} {e : Expr} (h : tyOk L Γ t e = true) : PE X e (tC (.ty t)) ∧ notStar e = true := by
  unfold tyOk at h
  split at h
  · simp only [Bool.and_eq_true, beq_iff_eq, List.contains_iff_mem] at h
    obtain ⟨⟨⟨rfl, h1⟩, h2⟩, h3⟩ := h
    obtain ⟨b1, b2, b3⟩ := boot_ty h1
    exact ⟨pe_bltn (okG_gl c h2) (c.bi _ h3) b1 rfl b2 b3, rfl⟩
  · cases h
def tTys : List String → TA
  | [] => tNil
  | t :: r => tCons (tC (.ty t)) (tTys r)
theorem tTys_is (σ : L2.St) (H : Hp) : ∀ (ts : List String) (Q : List V → Hp → Prop), Q (ts.map V.ty) H → tTys ts σ H Q
  | [], _, q => q
  | t :: r, Q, q => tTys_is σ H r (fun xs H2 => Q (.ty t :: xs) H2) q
theorem tysOk_pa (c : Ctx L Γ P j X) : ∀ {ts : List String} {es : List Expr}, tysOk L Γ ts es = true → PA X es (tTys ts)
  | [], [], _ => pa_nil
  | t :: ts, e :: es, h => by
    unfold tysOk at h
    rw [Bool.and_eq_true] at h
    obtain ⟨h1, h2⟩ := tyOk_pe c h.1
    exact pa_cons h1 (tysOk_pa c h.2) (star_one h2)
  | [], _ :: _, h => by cases h
  | _ :: _, [], h => by cases h
theorem chkUn_pe (c : Ctx L Γ P j X) {o : UOp} {a : ME} {k : Expr → Bool} {e : Expr} (h : chkUn L Γ o k e = true) (ih : ∀ x, k x = true → PE X x (tE P a)) : PE X e (tE P (.un o a)) ∧ plainT e = true := by
  have hK := c.K
  unfold chkUn at h
  split at h
  · split at h
    · exact ⟨(pe_un un_neg (ih _ h)).imp fun σ H Q q => tE_un (fun _ _ => us_neg) q, rfl⟩
    · cases h
  · obtain ⟨p, x, pos, rfl, g, b, n, hk⟩ := chkB1_is h
    exact ⟨(b1_pe c (call_len (X := X)) boot_len g b n (ih _ hk) (by decide) (by decide)).imp fun σ H Q q => by rw [hK]; exact tE_un (r := fun x => rcLen P.K [x]) (fun _ _ => us_len) q, rfl⟩
  · obtain ⟨p, x, pos, rfl, g, b, n, hk⟩ := chkB1_is h
    exact ⟨(b1_pe c (call_abs (X := X)) boot_abs g b n (ih _ hk) (by decide) (by decide)).imp fun σ H Q q => tE_un (r := fun x => rcAbs [x]) (fun _ _ => us_abs) q, rfl⟩
  · obtain ⟨p, x, pos, rfl, g, b, n, hk⟩ := chkB1_is h
    exact ⟨(t1_pe c (call_int1 (X := X)) boot_int g b n (ih _ hk) (by decide) (by decide)).imp fun σ H Q q => tE_un (r := fun x => rcInt [x]) (fun _ _ => us_int) q, rfl⟩
  · obtain ⟨p, x, pos, rfl, g, b, n, hk⟩ := chkB1_is h
    exact ⟨(t1_pe c (call_tupF (X := X)) boot_tuple g b n (ih _ hk) (by decide) (by decide)).imp fun σ H Q q => by rw [hK]; exact tE_un (r := fun x => rTupF P.K [x]) (fun _ _ => us_tuple) q, rfl⟩
  · obtain ⟨p, x, pos, rfl, g, b, n, hk⟩ := chkB1_is h
    exact ⟨(t1_pe c (call_list_of (X := X)) boot_list g b n (ih _ hk) (by decide) (by decide)).imp fun σ H Q q => by rw [hK]; exact tE_un (r := fun x => rcList P.K [x]) (fun _ _ => us_list _) q, rfl⟩
  · obtain ⟨p, x, pos, rfl, g, b, n, hk⟩ := chkB1_is h
    obtain ⟨p2, x2, pos2, rfl, g2, b2, n2, hk2⟩ := chkB1_is hk
    have h1 := t1_pe (p := p2) (pos := pos2) c (cr_setSq (X := X) c.calm) boot_set g2 b2 n2 (ih _ hk2) (by decide) (by decide)
    exact ⟨(b1_pe c (cr_sortedSet (X := X) c.calm) boot_sorted g b n h1 (by decide) (by decide)).imp fun σ H Q q => tE_un (r := fun x H Q => rSetSq X.w [x] H fun y H1 => rSortedSet X.w [y] H1 Q) (fun _ _ => us_sset) q, rfl⟩
  · obtain ⟨p, x, pos, rfl, g, b, n, hk⟩ := chkB1_is h
    exact ⟨(b1_pe c (cr_sorted (X := X)) boot_sorted g b n (ih _ hk) (by decide) (by decide)).imp fun σ H Q q => by rw [hK]; exact tE_un (r := fun x => rSorted P.K [x]) (fun _ _ => us_sorted) q, rfl⟩
  · obtain ⟨p, x, pos, rfl, g, b, n, hk⟩ := chkB1_is h
    exact ⟨(b1_pe c (cr_all (X := X) c.calm) boot_all g b n (ih _ hk) (by decide) (by decide)).imp fun σ H Q q => by rw [hK]; exact tE_un (r := fun x => rAll P.K [x]) (fun _ _ => us_all) q, rfl⟩
  · obtain ⟨p, x, pos, rfl, g, b, n, hk⟩ := chkB1_is h
    exact ⟨(b1_pe c (cr_any (X := X) c.calm) boot_any g b n (ih _ hk) (by decide) (by decide)).imp fun σ H Q q => by rw [hK]; exact tE_un (r := fun x => rAny P.K [x]) (fun _ _ => us_any) q, rfl⟩
  · obtain ⟨p, x, pos, rfl, g, b, n, hk⟩ := chkB1_is h
    exact ⟨(b1_pe c (cr_sum (X := X) c.calm) boot_sum g b n (ih _ hk) (by decide) (by decide)).imp fun σ H Q q => by rw [hK]; exact tE_un (r := fun x => rSum P.K [x]) (fun _ _ => us_sum) q, rfl⟩
  · rename_i ts
    rw [Bool.and_eq_true, decide_eq_true_eq] at h
    obtain ⟨hl, h⟩ := h
    have hz : ts.length ≤ sizeLine := by rw [sizeLine_eq]; omega
    obtain ⟨p, x, y, pos, rfl, g, b, n, n2, hk, hk2⟩ := chkB2_is h
    refine ⟨?_, rfl⟩
    have us := fun (G : Addr → Prop) (nf : Nat → Nat) => us_isi (K := P.K) (G := G) (nf := nf) (c := P.c) ts hz
    unfold chkTys at hk2
    split at hk2
    · rename_i t
      exact (b2_pe c (call_isi (X := X)) boot_isinstance g b n n2 (ih _ hk) (tyOk_pe c hk2).1 (by decide) (by decide)).imp fun σ H Q q => by rw [hK]; exact tE_un us q
    · rename_i ne
      split at hk2
      · refine (b2_pe c (call_isiT (X := X)) boot_isinstance g b n n2 (ih _ hk) (pe_tup (tysOk_pa c hk2)) (by decide) (by decide)).imp fun σ H Q q => ?_
        rw [hK]
        have e : rcIsi P.K ts = fun x H Q => ts.length ≤ sizeLine ∧ ∀ p, H p = none → rIsiT P.K [x, .ref p] (upd H p (.tup (ts.map V.ty))) Q := by
          match ts, ne with
          | [], _ => rfl
          | [t], ne => exact absurd rfl (ne t)
          | _ :: _ :: _, _ => rfl
        have q2 : tUn (fun x H Q => ts.length ≤ sizeLine ∧ ∀ p, H p = none → rIsiT P.K [x, .ref p] (upd H p (.tup (ts.map V.ty))) Q) (tE P a) σ H Q := by
          rw [← e]
          exact tE_un us q
        obtain ⟨G, nf, m, h, env, r, h', sx, ev, k2⟩ := q2
        refine ⟨G, nf, m, h, env, r, h', sx, ev, fun z m' H' s r2 => ?_⟩
        obtain ⟨z1, z2⟩ := k2 z m' H' s r2
        exact tTys_is σ H' ts _ ⟨by rw [List.length_map]; exact z1, fun p hp => z2 p hp⟩
      · cases hk2
  · split at h
    · rw [Bool.and_eq_true, beq_iff_eq] at h
      obtain ⟨rfl, hk⟩ := h
      exact ⟨(pe_fld (ih _ hk) rfl).imp fun σ H Q q => by rw [hK]; exact tE_un (r := rFld P.K _) (fun _ _ => us_fld _) q, rfl⟩
    · cases h
end
end Mp
set_option Elab.async false
set_option linter.all false
set_option maxRecDepth 100000
set_option maxHeartbeats 2000000
/-! Mp, part W: the checker of expressions, all of it. -/
namespace Mp
open PySem PySem.Spec PyProof.Rows L2 StX ItX
section
variable {L : Lw} {Γ : Sc} {P : Pm} {j : Nat} {X : Cx}
/-! ### binary -/
def opB : BOp → Operator → Bool
  | .add _, .Add => true
  | .sub, .Sub => true
  | .mul, .Mult => true
  | .fdiv, .FloorDiv => true
  | .mod, .Mod => true
  | .pow, .Pow => true
  | _, _ => false
def opC : BOp → CmpOp → Bool
  | .eq, .Eq => true
  | .ne, .NotEq => true
  | .lt, .Lt => true
  | .le, .LtE => true
  | .gt, .Gt => true
  | .ge, .GtE => true
  | .isin, .In => true
  | .notin, .NotIn => true
  | .isn, .Is => true
  | .isnn, .IsNot => true
  | _, _ => false
theorem opB_r (c : Ctx L Γ P j X) {o : BOp} {p : Operator} (h : opB o p = true) : ∃ r, OpR X (binaryOp p) r ∧ ∀ G nf, BinS P.K G nf P.c o r := by
  have hK := c.K
  unfold opB at h
  split at h
  · exact ⟨_, op_addA, fun _ _ => by rw [hK]; exact bs_add _⟩
  · exact ⟨_, op_sub, fun _ _ => bs_sub⟩
  · exact ⟨_, op_mul, fun _ _ => bs_mul⟩
  · exact ⟨_, op_fdiv, fun _ _ => bs_fdiv⟩
  · exact ⟨_, op_mod, fun _ _ => bs_mod⟩
  · exact ⟨_, op_pow, fun _ _ => bs_pow⟩
  · cases h
theorem opC_r (c : Ctx L Γ P j X) {o : BOp} {p : CmpOp} (h : opC o p = true) : ∃ r, OpR X (compareOp p) r ∧ (∀ G nf, BinS P.K G nf P.c o r) ∧ isCmp o = true := by
  have hK := c.K
  unfold opC at h
  split at h
  · exact ⟨_, op_eqP c.un, fun _ _ => by rw [hK]; exact bs_eq, rfl⟩
  · exact ⟨_, op_neP c.un, fun _ _ => by rw [hK]; exact bs_ne, rfl⟩
  · exact ⟨_, op_lt, fun _ _ => bs_lt, rfl⟩
  · exact ⟨_, op_le, fun _ _ => bs_le, rfl⟩
  · exact ⟨_, op_gt, fun _ _ => bs_gt, rfl⟩
  · exact ⟨_, op_ge, fun _ _ => bs_ge, rfl⟩
  · exact ⟨_, op_inP c.un, fun _ _ => by rw [hK]; exact bs_in, rfl⟩
  · exact ⟨_, op_ninP c.un, fun _ _ => by rw [hK]; exact bs_nin, rfl⟩
  · exact ⟨_, op_isN, fun _ _ => bs_isn, rfl⟩
  · exact ⟨_, op_notN, fun _ _ => bs_isnn, rfl⟩
  · cases h
def notCall : Expr → Bool
  | .Call .. => false
  | _ => true
theorem base_is {e : Expr} {n : Str} {env : Env} {w : Sem Value} (h : notCall e = true) : attributeBase e n env w = w := by
  cases e <;> first | rfl | cases h
def chkLm (nm : Str) (ka kb : Expr → Bool) : Expr → Bool
  | .Call (.Attribute o n ap) [b] [] cp => n == nm && (ap.endLine == cp.line) && notCall o && notStar b && ka o && kb b
  | _ => false
theorem lm_pe (c : Ctx L Γ P j X) {o b : Expr} {nm : Str} {id : String} {ap cp : Pos} {to tb : TE} {r : V → List V → Hp → VK → Prop} (slot : Slot "list" nm id) (hty : typeOf (.builtin id) = pure (.type "method_descriptor")) (hm : MtR X id r) (ho : PE X o to) (hb : PE X b tb) (h1 : (ap.endLine == cp.line) = true) (h2 : notCall o = true) (h3 : notStar b = true) :
    PE X (.Call (.Attribute o nm ap) [b] [] cp) (tBM X.K "list" r to (tCons tb tNil)) :=
  pe_bm PySem.F.plainAttrs_list slot hty hm ho (pa_1 hb h3) (base_is h2) (by rw [star_one h3]; rfl) h1 (star_one h3) rfl
def chkBin (L : Lw) (Γ : Sc) (o : BOp) (ka kb : Expr → Bool) (e : Expr) : Bool := match o with
  | .ix => (match e with | .Subscript a b _ => notSlice b && ka a && kb b | _ => false)
  | .dget => (match e with | .Subscript a b _ => notSlice b && chkB1 L Γ "dict" ka a && kb b | _ => false)
  | .max => chkB2 L Γ "max" ka kb e
  | .min => chkB2 L Γ "min" ka kb e
  | .apnd => chkLm "append" ka kb e
  | .popat => chkLm "pop" ka kb e
  | .index => false
  | o => (match e with
    | .BinOp a p b _ => opB o p && ka a && kb b
    | .Compare a [p] [b] _ => opC o p && notSet b && ka a && kb b
    | _ => false)
theorem chkLm_is {nm : Str} {ka kb : Expr → Bool} {e : Expr} (h : chkLm nm ka kb e = true) : ∃ o b ap cp, e = .Call (.Attribute o nm ap) [b] [] cp ∧ (ap.endLine == cp.line) = true ∧ notCall o = true ∧ notStar b = true ∧ ka o = true ∧ kb b = true := by
  unfold chkLm at h
  split at h
  · simp only [Bool.and_eq_true] at h
    obtain ⟨⟨⟨⟨⟨h0, h1⟩, h2⟩, h3⟩, h4⟩, h5⟩ := h
    rw [beq_iff_eq] at h0
    subst h0
    exact ⟨_, _, _, _, rfl, h1, h2, h3, h4, h5⟩
  · cases h
theorem chkBin_ok (c : Ctx L Γ P j X) {o : BOp} {a b : ME} {ka kb : Expr → Bool} {e : Expr} (h : chkBin L Γ o ka kb e = true) (ia : ∀ x, ka x = true → PE X x (tE P a)) (ib : ∀ x, kb x = true → PE X x (tE P b)) : Good X P (.bin o a b) e := by
  have hK := c.K
  unfold chkBin at h
  split at h
  · split at h
    · simp only [Bool.and_eq_true] at h
      obtain ⟨⟨h1, h2⟩, h3⟩ := h
      exact good_plain hK rfl ((pe_ix ix_seq (ia _ h2) (ib _ h3) (slice_plain h1)).imp fun σ H Q q => by rw [hK]; exact tE_bin (fun _ _ => bs_ix) q)
    · cases h
  · split at h
    · simp only [Bool.and_eq_true] at h
      obtain ⟨⟨h1, h2⟩, h3⟩ := h
      obtain ⟨p, x, pos, rfl, g, hb, n, hk⟩ := chkB1_is h2
      have hd := t1_pe (p := p) (pos := pos) c (cr_dictSq (X := X) c.calm) boot_dict g hb n (ia _ hk) (by decide) (by decide)
      exact good_plain hK rfl ((pe_dget (by have := c.un; omega) hd (ib _ h3) (slice_noSl h1)).imp fun σ H Q q => tE_dget q)
    · cases h
  · obtain ⟨p, x, y, pos, rfl, g, hb, n, n2, hk, hk2⟩ := chkB2_is h
    exact good_plain hK rfl ((b2_pe c (call_max2 (X := X) c.calm) boot_max g hb n n2 (ia _ hk) (ib _ hk2) (by decide) (by decide)).imp fun σ H Q q => tE_bin (r := fun x y => rcMax2 [x, y]) (fun _ _ => bs_max) q)
  · obtain ⟨p, x, y, pos, rfl, g, hb, n, n2, hk, hk2⟩ := chkB2_is h
    exact good_plain hK rfl ((b2_pe c (call_min2 (X := X) c.calm) boot_min g hb n n2 (ia _ hk) (ib _ hk2) (by decide) (by decide)).imp fun σ H Q q => tE_bin (r := fun x y => rcMin2 [x, y]) (fun _ _ => bs_min) q)
  · obtain ⟨x, y, ap, cp, rfl, h1, h2, h3, h4, h5⟩ := chkLm_is h
    exact good_plain hK rfl ((lm_pe c PySem.F.slot_list_append PySem.F.type_list_append mt_append (ia _ h4) (ib _ h5) h1 h2 h3).imp fun σ H Q q => by rw [hK]; exact tE_lm (r := rAppend) (fun _ _ => rfl) (fun _ _ => bs_apnd) q)
  · obtain ⟨x, y, ap, cp, rfl, h1, h2, h3, h4, h5⟩ := chkLm_is h
    exact good_plain hK rfl ((lm_pe c PySem.F.slot_list_pop PySem.F.type_list_pop mt_popAt (ia _ h4) (ib _ h5) h1 h2 h3).imp fun σ H Q q => by rw [hK]; exact tE_lm (r := rPopAt) (fun _ _ => rfl) (fun _ _ => bs_popat) q)
  · cases h
  · split at h
    · simp only [Bool.and_eq_true] at h
      obtain ⟨⟨h1, h2⟩, h3⟩ := h
      obtain ⟨r, hr, hs⟩ := opB_r c h1
      exact good_plain hK rfl ((pe_op hr (ia _ h2) (ib _ h3)).imp fun σ H Q q => tE_bin hs q)
    · simp only [Bool.and_eq_true] at h
      obtain ⟨⟨⟨h1, h2⟩, h3⟩, h4⟩ := h
      obtain ⟨r, hr, hs, hc⟩ := opC_r c h1
      exact ⟨(pe_cmpR hr (ia _ h3) (ib _ h4) (set_behind h2)).imp fun σ H Q q => tE_bin hs q, (pt_cmpR hr (ia _ h3) (ib _ h4) (set_behind h2)).imp fun σ H Q q => tT_cmp hc hs q, fun b => by cases b⟩
    · cases h

/-! ### targets -/
mutual
def chkT (Γ : Sc) : MT → Expr → Bool
  | .nm i, e => (match e with
    | .Name x _ => decide (Γ.N[i]? = some x) && (match Γ.sc.names.lookup x with
      | some .local => true
      | some .cell => Γ.fn x
      | _ => false)
    | _ => false)
  | .tup ts, e => (match e with
    | .Tuple es _ _ => chkTs Γ ts es
    | _ => false)
def chkTs (Γ : Sc) : MTs → List Expr → Bool
  | .nil, es => es.isEmpty
  | .cons t r, es => (match es with
    | e :: es => notStar e && chkT Γ t e && chkTs Γ r es
    | [] => false)
end
theorem chkTs_stars : ∀ {ts : MTs} {es : List Expr}, chkTs Γ ts es = true → es.all notStar = true ∧ es.length = lenT ts
  | .nil, es, h => by
    simp only [chkTs, List.isEmpty_iff] at h
    subst h
    exact ⟨rfl, rfl⟩
  | .cons t r, es, h => by
    simp only [chkTs] at h
    split at h
    · simp only [Bool.and_eq_true] at h
      obtain ⟨⟨h1, h2⟩, h3⟩ := h
      obtain ⟨q1, q2⟩ := chkTs_stars h3
      exact ⟨by rw [List.all_cons, h1, q1]; rfl, congrArg (· + 1) q2⟩
    · cases h
theorem assign_len {env : Env} : ∀ (es : List Expr), (assignEach es env).length = es.length
  | [] => rfl
  | e :: es => by cases e <;> exact congrArg (· + 1) (assign_len es)
theorem assign_star {env : Env} : ∀ {es : List Expr}, es.all notStar = true → (assignEach es env).findIdx? (·.1) = none
  | [], _ => rfl
  | e :: es, h => by
    rw [List.all_cons, Bool.and_eq_true] at h
    have ih := assign_star (env := env) h.2
    cases e <;> first | (cases h.1; done) | (show List.findIdx? _ ((false, _) :: assignEach es env) = none; rw [List.findIdx?_cons]; simp [ih])
theorem assign_cons {e : Expr} {es : List Expr} {env : Env} (h : notStar e = true) : (assignEach (e :: es) env).map (·.2) = assign e env :: (assignEach es env).map (·.2) := by
  cases e <;> first | rfl | cases h
mutual
theorem chkT_pg (c : Ctx L Γ P j X) : ∀ (t : MT) (e : Expr), chkT Γ t e = true → PG X e (gMT P.K t)
  | .nm i, e, h => by
    simp only [chkT] at h
    split at h
    · rename_i x p
      rw [Bool.and_eq_true, decide_eq_true_eq] at h
      obtain ⟨h1, h2⟩ := h
      have hN : X.N.Nodup := by rw [c.N]; exact c.nd
      have hi : X.N[i]? = some x := by rw [c.N]; exact h1
      split at h2
      · rename_i e
        have e' : X.env.scope.names.lookup x = some .local := by rw [c.sc]; exact e
        exact pg_name hN hi (.inl e') (.inr e')
      · rename_i e
        have e' : X.env.scope.names.lookup x = some .cell := by rw [c.sc]; exact e
        exact pg_name hN hi (.inr e') (.inl (c.fn x h2))
      · cases h2
    · cases h
  | .tup ts, e, h => by
    simp only [chkT] at h
    split at h
    · rename_i es _ _
      obtain ⟨q1, q2⟩ := chkTs_stars h
      have z := pg_tup (n := lenT ts) (k := by assumption) (pos := by assumption) c.calm (chkTs_pg c ts es h) (by rw [assign_len]; exact q2) (assign_star q1)
      rw [c.K] at z
      exact z
    · cases h
theorem chkTs_pg (c : Ctx L Γ P j X) : ∀ (ts : MTs) (es : List Expr), chkTs Γ ts es = true → PGs X es (gMTs P.K ts)
  | .nil, es, h => by
    simp only [chkTs, List.isEmpty_iff] at h
    subst h
    exact pgs_nil
  | .cons t r, es, h => by
    simp only [chkTs] at h
    split at h
    · simp only [Bool.and_eq_true] at h
      obtain ⟨⟨h1, h2⟩, h3⟩ := h
      exact pgs_cons (chkT_pg c t _ h2) (chkTs_pg c r _ h3) (assign_cons h1)
    · cases h
end
end
end Mp
set_option Elab.async false
set_option linter.all false
set_option maxRecDepth 100000
set_option maxHeartbeats 4000000
/-! Mt: the length of an instance of the text's own class. -/
namespace Mp
open PySem PySem.Spec PyProof.Rows L2 StX ItX
section
variable {X : Cx}
def rLenI (C : Addr) (sp : Sp) : List V → Hp → VK → Prop := fun xs H Q => ∃ a dx fs, xs = [.ref a] ∧ H a = some (.ins C dx fs) ∧ sp [.ref a] H (fun v H1 => ∃ n : Int, v = .int n ∧ 0 ≤ n ∧ n < 2 ^ 63 ∧ Q (.int n) H1) (fun _ _ _ => False)
theorem callr_len {k : Nat} {C f : Addr} {fd : FuncData} {ps : List Str} {sp : Sp} (hm : Meth X.K C "__len__" f) (F : FnOk X.prog X.w X.K X.mg X.base CX0 k f fd ps sp) (hr : Room (k + 1) X.A) (hb : Binds X.K fd ps []) : CallR X (.builtin "len") (rLenI C sp) := fun pins s σ H xs us Q I r q => by
  obtain ⟨a, dx, fs, rfl, ea, q⟩ := q
  cases r with
  | cons r1 r2 =>
    cases r2
    rename_i u
    obtain rfl : u = Value.ref a := r1
    obtain ⟨mA, O, _, _, _, _⟩ := ins_get I.hok ea
    obtain ⟨od, J, _⟩ := O.look
    obtain ⟨m, fr⟩ := I.fr
    refine PySem.W.len_K fr I.ok.mod.kin J hm.at_ hm.fn ?_
    have rv : Vals [V.ref a] ([Value.ref a] ++ []) := .cons rfl .nil
    have hl : ([Value.ref a] ++ []).length = ps.length := by
      have := F.len _ _ _ _ q
      simpa using this
    refine wpAny_call (codeAny_mono (F.run X.A.in1 X.stack s H ⟨[.ref a], []⟩ ([.ref a] ++ []) [.ref a] _ _ hr.in1 I.env0.in1 (hb s [.ref a] I.kIn hl) rv q) fun r s' hq => ?_)
    cases r with
    | error e => exact hq.elim
    | ok fl =>
      cases fl with
      | ret u =>
        obtain ⟨v, H', I3, rv, n, ev, n0, n1, q3⟩ := I.after hq
        subst ev
        obtain ⟨t, rfl⟩ := rv
        exact ⟨⟨n0, n1⟩, ⟨.int n, H', I3.tok _, ⟨_, rfl⟩, q3⟩⟩
      | next => exact False.elim hq
      | brk => exact False.elim hq
      | cont => exact False.elim hq
end
section
variable {P : Pm} {σ : L2.St} {H : Hp} {Q : VK}
theorem tE_lenm {i : Nat} {k : Str} (q : tE P (.lenm i k) σ H Q) : tCB (rLenI (He.ga P.K k) (spC P.K P.c.scr P.c.call k (some "__len__"))) (tCons (tVar i) tNil) σ H Q := by
  obtain ⟨G, nf, m, h, env, r, h', x, ev, kk⟩ := q
  simp only [evE] at ev
  split at ev
  · rename_i j hj
    split at ev
    · rename_i k' fs hk
      split at ev
      · rename_i hc
        subst hc
        obtain ⟨⟨r1, h1⟩, e1, e2⟩ := bind_some ev
        split at e2
        · rename_i n hn
          split at e2
          · rename_i hb
            cases e2
            obtain ⟨u, u1, a, rfl, ha⟩ := x.es.2 i _ hj
            obtain ⟨dx, vs, p, ks, cl, nas, rsf⟩ := x.rl.ob j a _ ha hk
            refine ⟨.ref a, u1, a, dx, vs, rfl, p, G, nf, m, h, [.ref j], r1, h1, x.rl, ⟨⟨a, rfl, ha⟩, trivial⟩, e1, fun v m' H' s' q' => ?_⟩
            have hn' : r1 = .d (.int n) := hn
            subst hn'
            have e3 : v = .int n := q'
            exact ⟨n, e3, hb.1, hb.2, e3 ▸ kk _ _ _ s' q'⟩
          · cases e2
        · cases e2
      · cases ev
    · cases ev
  · cases ev
end
end Mp
set_option Elab.async false
set_option linter.all false
set_option maxRecDepth 100000
set_option maxHeartbeats 4000000
/-! Mp, part X: the checker of expressions: the whole. -/
namespace Mp
open PySem PySem.Spec PyProof.Rows L2 StX ItX

/-- a and b, a or b; more of them -/
def chkBO (op : PySem.BoolOp) (ka kb : Expr → Bool) : Expr → Bool
  | .BoolOp op' [x, y] _ => op' == op && ka x && kb y
  | .BoolOp op' (x :: y :: z :: r) pos => op' == op && ka x && kb (.BoolOp op' (y :: z :: r) pos)
  | _ => false
def ownL (Γ : Sc) (own : List Nat) : List (Str × Nat) := own.map fun i => ((Γ.N[i]?).getD "", i)
theorem ownL_snd (Γ : Sc) (own : List Nat) : (ownL Γ own).map (·.2) = own := by
  unfold ownL
  rw [List.map_map]
  show own.map (fun i => i) = own
  exact List.map_id' own
def isYes : ME → Bool
  | .con (.bool true) => true
  | _ => false
def isTup : Expr → Bool
  | .Tuple .. => true
  | _ => false
mutual
def chkE (L : Lw) : Sc → ME → Expr → Bool
  | Γ, .var i, e => (match e with | .Name x _ => okV Γ i x | _ => false)
  | Γ, .con d, e => (match e with | .Constant k _ _ => okC d k | _ => false)
  | Γ, .gl s d, e => (match e with | .Name x _ => x == s && okGl L Γ s d | _ => false)
  | Γ, .un o a, e => chkUn L Γ o (chkE L Γ a) e
  | Γ, .bin o a b, e => chkBin L Γ o (chkE L Γ a) (chkE L Γ b) e
  | Γ, .chain o1 o2 a b d, e => (match e with
    | .Compare x [p1, p2] [y, z] _ => opC o1 p1 && opC o2 p2 && notSet z && chkE L Γ a x && chkE L Γ b y && chkE L Γ d z
    | _ => false)
  | Γ, .and a b, e => chkBO .And (chkE L Γ a) (chkE L Γ b) e
  | Γ, .or a b, e => chkBO .Or (chkE L Γ a) (chkE L Γ b) e
  | Γ, .not a, e => (match e with | .UnaryOp .Not x _ => chkE L Γ a x | _ => false)
  | Γ, .ite t a b, e => (match e with | .IfExp x y z _ => chkE L Γ t x && chkE L Γ a y && chkE L Γ b z | _ => false)
  | Γ, .tup es, e => (match e with | .Tuple l _ _ => chkDs L Γ es l | _ => false)
  | Γ, .lst _ es, e => (match e with | .List l _ => chkDs L Γ es l | _ => false)
  | Γ, .sl _ a lo hi, e => (match e with
    | .Subscript x (.Slice l u none _) _ => chkE L Γ a x && (match l with | none => isNo lo | some z => !isNo lo && chkE L Γ lo z) && (match u with | none => isNo hi | some z => !isNo hi && chkE L Γ hi z)
    | _ => false)
  | Γ, .call f es, e => (match e with | .Call (.Name x _) l [] _ => x == f && okG Γ f && !(f == "__debug__") && L.funs.contains f && l.all notStar && chkVs L Γ es l | _ => false)
  | Γ, .meth i k mt es, e => (match e with
    | .Call (.Attribute (.Name y _) n ap) l [] pos => n == mt && okV Γ i y && L.meths.contains (k, mt) && l.all notStar && chkVs L Γ es l && (ap.endLine == pos.line) && decide (l.length < 29)
    | _ => false)
  | Γ, .lenm i k, e => L.meths.contains (k, "__len__") && chkB1 L Γ "len" (fun a => match a with | .Name y _ => okV Γ i y | _ => false) e
  | Γ, .make k es, e => (match e with | .Call (.Name x _) l [] _ => x == k && okG Γ k && !(k == "__debug__") && L.clss.contains k && l.all notStar && chkVs L Γ es l | _ => false)
  | Γ, .zip a b, e => Γ.top && chkB2 L Γ "zip" (chkE L Γ a) (chkE L Γ b) e
  | Γ, .tupEn a, e => (match e with
    | .Call (.Name x _) [.Call (.Name y _) [z] [] _] [] _ => x == "tuple" && y == "enumerate" && okG Γ "tuple" && okG Γ "enumerate" && L.bi.contains "tuple" && L.bi.contains "enumerate" && notStar z && chkE L Γ a z
    | _ => false)
  | Γ, .lstRg _ a, e => (match e with
    | .Call (.Name x _) [.Call (.Name y _) [z] [] _] [] _ => x == "list" && y == "range" && okG Γ "list" && okG Γ "range" && L.bi.contains "list" && L.bi.contains "range" && notStar z && chkE L Γ a z
    | _ => false)
  | _, .nev, _ => false
  | Γ, .lc _ elt t it cond own, e => (match e with
    | .ListComp el [⟨tg, iter, ifs, as⟩] scope _ => as == 0 && blkC Γ.N Γ.sc scope (ownL Γ own) && notSet iter && chkI L Γ it tg iter && chkT (Γ.blk scope) t tg && (slT t).all own.contains && (match ifs with
      | [] => isYes cond
      | [q] => chkE L (Γ.blk scope) cond q
      | _ => false) && chkE L (Γ.blk scope) elt el
    | _ => false)
  | Γ, .lc2 _ elt t it cond t2 it2 cond2 own own2, e => (match e with
    | .ListComp el [⟨tg, iter, ifs, as⟩, ⟨tg2, iter2, ifs2, as2⟩] scope _ => as == 0 && as2 == 0 && blkC Γ.N Γ.sc scope (ownL Γ own) && notSet iter && notSet iter2 && own2.all own.contains && chkI L Γ it tg iter && chkT (Γ.blk scope) t tg && (slT t).all own.contains && (match ifs with
      | [] => isYes cond
      | [q] => chkE L (Γ.blk scope) cond q
      | _ => false) && chkI L (Γ.blk scope) it2 tg2 iter2 && chkT (Γ.blk scope) t2 tg2 && (slT t2).all own2.contains && (match ifs2 with
      | [] => isYes cond2
      | [q] => chkE L (Γ.blk scope) cond2 q
      | _ => false) && chkE L (Γ.blk scope) elt el
    | _ => false)
def chkDs (L : Lw) : Sc → MEs → List Expr → Bool
  | _, .nil, l => l.isEmpty
  | Γ, .cons e r, l => (match l with | x :: xs => notStar x && chkE L Γ e x && chkDs L Γ r xs | [] => false)
  | Γ, .star e r, l => (match l with | .Starred x _ :: xs => chkE L Γ e x && chkDs L Γ r xs | _ => false)
def chkVs (L : Lw) : Sc → MEs → List Expr → Bool
  | _, .nil, l => l.isEmpty
  | Γ, .cons e r, l => (match l with | x :: xs => notStar x && chkE L Γ e x && chkVs L Γ r xs | [] => false)
  | _, .star _ _, _ => false
def chkI (L : Lw) : Sc → MI → Expr → Expr → Bool
  | Γ, .seq e, _, x => chkE L Γ e x
  | Γ, .rng e, _, x => chkB1 L Γ "range" (chkE L Γ e) x
  | Γ, .rng2 a b, _, x => chkB2 L Γ "range" (chkE L Γ a) (chkE L Γ b) x
  | Γ, .enum e, tg, x => isTup tg && chkB1 L Γ "enumerate" (chkE L Γ e) x
  | Γ, .zip a b, tg, x => isTup tg && chkB2 L Γ "zip" (chkE L Γ a) (chkE L Γ b) x
  | Γ, .var i, tg, x => Γ.top && isTup tg && (match x with | .Name y _ => okV Γ i y | _ => false)
end
section
variable {L : Lw} {P : Pm} {j : Nat}
theorem isNo_is {e : ME} (h : isNo e = true) : e = .con .none := by
  unfold isNo at h
  split at h
  · rfl
  · cases h
theorem isYes_is {e : ME} (h : isYes e = true) : e = .con (.bool true) := by
  unfold isYes at h
  split at h
  · rfl
  · cases h
theorem yes_tests {X : Cx} : PTs X [] (tT P (.con (.bool true))) := ⟨fun pins s σ H Q I q => pts_nil.run pins s σ H Q I (by
  obtain ⟨G, nf, m, h, env, r, h', b, x, ev, tr, k⟩ := q
  cases ev
  cases tr
  exact k _ _ (.refl x.rl))⟩
theorem isTup_is {e : Expr} (h : isTup e = true) : ∃ es k pos, e = .Tuple es k pos := by
  cases e <;> first | (cases h; done) | exact ⟨_, _, _, rfl⟩
theorem chkBO_ok {X : Cx} {a b m : ME} {op : PySem.BoolOp} {ka kb : Expr → Bool} {e : Expr} (h : chkBO op ka kb e = true) (ia : ∀ x, ka x = true → Good X P a x) (ib : ∀ x, kb x = true → Good X P b x)
    (pe : ∀ x y r pos, Good X P a x → PE X (.BoolOp op (y :: r) pos) (tE P b) → PE X (.BoolOp op (x :: y :: r) pos) (tE P m))
    (pw : ∀ x y r pos, Good X P a x → PW X (.BoolOp op (y :: r) pos) (tT P b) → PW X (.BoolOp op (x :: y :: r) pos) (tT P m))
    (p1 : ∀ y pos, PT X y (tT P b) → PW X (.BoolOp op [y] pos) (tT P b)) : Good X P m e := by
  unfold chkBO at h
  split at h
  · simp only [Bool.and_eq_true, beq_iff_eq] at h
    obtain ⟨⟨rfl, h1⟩, h2⟩ := h
    have ga := ia _ h1
    have gb := ib _ h2
    have w := pw _ _ [] (by assumption) ga (p1 _ _ gb.pt)
    exact ⟨pe _ _ [] _ ga (pe_one gb.pe), w.pt, fun _ => w⟩
  · simp only [Bool.and_eq_true, beq_iff_eq] at h
    obtain ⟨⟨rfl, h1⟩, h2⟩ := h
    have ga := ia _ h1
    have gb := ib _ h2
    have w := pw _ _ (_ :: _) (by assumption) ga (gb.pw rfl)
    exact ⟨pe _ _ (_ :: _) _ ga gb.pe, w.pt, fun _ => w⟩
  · cases h
theorem pt_ite {X : Cx} {t a b : ME} {x y z : Expr} {pos : Pos} (ht : PT X x (tT P t)) (ha : PT X y (tT P a)) (hb : PT X z (tT P b)) : PT X (.IfExp x y z pos) (tT P (.ite t a b)) := by
  refine ⟨fun pins s σ H Q I q => ?_⟩
  obtain ⟨G, nf, m, h, env, res, h', tb, sx, ev, tr, k⟩ := q
  simp only [evE] at ev
  obtain ⟨⟨v1, h1⟩, e1, ev1⟩ := bind_some ev
  obtain ⟨b1, e2, ev2⟩ := bind_some ev1
  clear ev ev1
  refine isTrue_IfExp (thn (ht.run pins s σ H (fun c H1 => if c = true then tT P a σ H1 Q else tT P b σ H1 Q) I ⟨G, nf, m, h, env, v1, h1, b1, sx, e1, e2, fun m1 H1 s1 => ?_⟩) fun c s1 ⟨H1, I1, q1⟩ => ?_)
  · cases b1 with
    | true => exact ⟨G, nf, m1, h1, env, res, h', tb, sx.go s1, ev2, tr, fun m2 H2 s2 => k m2 H2 (s1.trans s2)⟩
    | false => exact ⟨G, nf, m1, h1, env, res, h', tb, sx.go s1, ev2, tr, fun m2 H2 s2 => k m2 H2 (s1.trans s2)⟩
  · cases c with
    | true => exact ha.run pins s1 σ H1 Q I1 q1
    | false => exact hb.run pins s1 σ H1 Q I1 q1
theorem stars_all {pos : Pos} {env : Env} : ∀ {es : List Expr}, es.all notStar = true → (backTo pos (starEach es env)).all (fun x => !x.1) = true
  | [], _ => rfl
  | e :: es, h => by
    rw [List.all_cons, Bool.and_eq_true] at h
    rw [star_one h.1]
    show (true && (backTo pos (starEach es env)).all (fun x => !x.1)) = true
    rw [stars_all h.2]
    rfl
theorem meth_ht {y n : Str} {p ap pos : Pos} {env : Env} {l : List Expr} (h : l.all notStar = true) (h29 : l.length < 29) (hl : (ap.endLine == pos.line) = true) : eval (.Call (.Attribute (.Name y p) n ap) l [] pos) env = (do
      let ov ← eval (.Name y p) env
      standAt ap.atName
      let (f, first) ← holding [ov] (getMethod ov n (plainOf (.Name y p) env))
      callWith pos f first (backTo pos (starEach l env)) (backToKw pos (keywordEach [] env))) := by
  have hf : methodCallForm (l.length + ([] : List Keyword).length) (backTo pos (starEach l env)) (backToKw pos (keywordEach [] env)) = true := by
    unfold methodCallForm
    rw [stars_all h]
    show (true && true && decide (l.length + 0 + 0 < 30)) = true
    simp only [Bool.true_and, decide_eq_true_eq]
    omega
  show (attributeBase (.Name y p) n env (eval (.Name y p) env) >>= fun ov => standAt ap.atName >>= fun _ => methodCall (.Name y p) n ap pos env ov (l.length + ([] : List Keyword).length) (backTo pos (starEach l env)) (backToKw pos (keywordEach [] env))) = _
  rw [base_is rfl]
  simp only [mcall_line hf hl]
theorem vs_nil {es : MEs} {Γ : Sc} (h : chkVs L Γ es [] = true) : es = .nil := by
  cases es with
  | nil => rfl
  | cons e r => simp only [chkVs] at h; cases h
  | star e r => simp only [chkVs] at h; cases h
mutual
theorem chkE_ok : ∀ (me : ME) (Γ : Sc) (e : Expr) (X : Cx), chkE L Γ me e = true → Ctx L Γ P j X → Good X P me e
  | .var i, Γ, e, X, h, c => by
    simp only [chkE] at h
    split at h
    · exact good_plain c.K rfl ((okV_pe c h).imp fun σ H Q q => tE_var q)
    · cases h
  | .con d, Γ, e, X, h, c => by
    simp only [chkE] at h
    split at h
    · exact good_plain c.K rfl (okC_pe h)
    · cases h
  | .gl s d, Γ, e, X, h, c => by
    simp only [chkE] at h
    split at h
    · rw [Bool.and_eq_true, beq_iff_eq] at h
      obtain ⟨rfl, h⟩ := h
      exact good_plain c.K rfl (okGl_pe c h)
    · cases h
  | .un o a, Γ, e, X, h, c => by
    simp only [chkE] at h
    obtain ⟨h1, h2⟩ := chkUn_pe (P := P) (a := a) c h fun x hx => (chkE_ok a Γ x X hx c).pe
    exact good_plain c.K h2 h1
  | .bin o a b, Γ, e, X, h, c => by
    simp only [chkE] at h
    exact chkBin_ok c h (fun x hx => (chkE_ok a Γ x X hx c).pe) fun x hx => (chkE_ok b Γ x X hx c).pe
  | .chain o1 o2 a b d, Γ, e, X, h, c => by
    simp only [chkE] at h
    split at h
    · simp only [Bool.and_eq_true] at h
      obtain ⟨⟨⟨⟨⟨h1, h2⟩, h3⟩, h4⟩, h5⟩, h6⟩ := h
      obtain ⟨r1, hr1, hs1, hc1⟩ := opC_r c h1
      obtain ⟨r2, hr2, hs2, hc2⟩ := opC_r c h2
      have ga := chkE_ok a Γ _ X h4 c
      have gb := chkE_ok b Γ _ X h5 c
      have gd := chkE_ok d Γ _ X h6 c
      exact ⟨(pe_chain hr1 hr2 ga.pe gb.pe gd.pe (set_behind h3)).imp fun σ H Q q => tE_chain hs1 hs2 q, (pt_chain hr1 hr2 ga.pe gb.pe gd.pe (set_behind h3)).imp fun σ H Q q => tT_chain hc2 hs1 hs2 q, fun b => by cases b⟩
    · cases h
  | .and a b, Γ, e, X, h, c => by
    simp only [chkE] at h
    exact chkBO_ok h (fun x hx => chkE_ok a Γ x X hx c) (fun x hx => chkE_ok b Γ x X hx c) (fun x y r pos ga gb => (pe_andT ga.pe gb).imp fun σ H Q q => by rw [c.K]; exact tE_and q)
      (fun x y r pos ga gb => (pw_and ga.pt gb).imp fun σ H Q q => tT_and q) fun y pos g => pw_and1 g
  | .or a b, Γ, e, X, h, c => by
    simp only [chkE] at h
    exact chkBO_ok h (fun x hx => chkE_ok a Γ x X hx c) (fun x hx => chkE_ok b Γ x X hx c) (fun x y r pos ga gb => (pe_orT ga.pe gb).imp fun σ H Q q => by rw [c.K]; exact tE_or q)
      (fun x y r pos ga gb => (pw_or ga.pt gb).imp fun σ H Q q => tT_or q) fun y pos g => pw_or1 g
  | .not a, Γ, e, X, h, c => by
    simp only [chkE] at h
    split at h
    · have ga := chkE_ok a Γ _ X h c
      exact ⟨(pe_notT ga.pe).imp fun σ H Q q => by rw [c.K]; exact tE_not q, (pt_not ga.pt).imp fun σ H Q q => tT_not q, fun b => by cases b⟩
    · cases h
  | .ite t a b, Γ, e, X, h, c => by
    simp only [chkE] at h
    split at h
    · simp only [Bool.and_eq_true] at h
      obtain ⟨⟨h1, h2⟩, h3⟩ := h
      have gt := chkE_ok t Γ _ X h1 c
      have ga := chkE_ok a Γ _ X h2 c
      have gb := chkE_ok b Γ _ X h3 c
      have z := (pe_ifExp (pos := by assumption) gt.pt ga.pe gb.pe).imp fun σ H Q q => tE_ite (P := P) (t := t) (a := a) (b := b) q
      exact ⟨z, pt_ite gt.pt ga.pt gb.pt, fun b => by cases b⟩
    · cases h
  | .tup es, Γ, e, X, h, c => by
    simp only [chkE] at h
    split at h
    · exact good_plain c.K rfl ((pe_tupF (chkDs_ok es Γ _ X h c)).imp fun σ H Q q => tE_tup q)
    · cases h
  | .lst mu es, Γ, e, X, h, c => by
    simp only [chkE] at h
    split at h
    · exact good_plain c.K rfl ((pe_lst (chkDs_ok es Γ _ X h c)).imp fun σ H Q q => tE_lst q)
    · cases h
  | .sl mu a lo hi, Γ, e, X, h, c => by
    simp only [chkE] at h
    split at h
    · rename_i x l u p2 pos
      rw [Bool.and_eq_true, Bool.and_eq_true] at h
      obtain ⟨⟨h1, h2⟩, h3⟩ := h
      have ga := chkE_ok a Γ _ X h1 c
      have o1 : PO X l (tO P lo) := by
        cases l with
        | none =>
          have e := isNo_is h2
          subst e
          exact po_none.imp fun σ H Q q => tO_none q
        | some z =>
          have h2 : (!isNo lo && chkE L Γ lo z) = true := h2
          rw [Bool.and_eq_true, Bool.not_eq_true'] at h2
          exact (po_some (chkE_ok lo Γ _ X h2.2 c).pe).imp fun σ H Q q => tO_part h2.1 q
      have o2 : PO X u (tO P hi) := by
        cases u with
        | none =>
          have e := isNo_is h3
          subst e
          exact po_none.imp fun σ H Q q => tO_none q
        | some z =>
          have h3 : (!isNo hi && chkE L Γ hi z) = true := h3
          rw [Bool.and_eq_true, Bool.not_eq_true'] at h3
          exact (po_some (chkE_ok hi Γ _ X h3.2 c).pe).imp fun σ H Q q => tO_part h3.1 q
      exact good_plain c.K rfl ((pe_slice sl_any ga.pe o1 o2).imp fun σ H Q q => by rw [c.K]; exact tE_sl q)
    · cases h
  | .call f es, Γ, e, X, h, c => by
    simp only [chkE] at h
    split at h
    · rename_i x p l pos
      simp only [Bool.and_eq_true, Bool.not_eq_true', List.contains_iff_mem] at h
      obtain ⟨⟨⟨⟨⟨h0, h1⟩, h2⟩, h3⟩, h4⟩, h5⟩ := h
      rw [beq_iff_eq] at h0
      subst h0
      obtain ⟨fa, m1, m2, fd, ps, hb, F⟩ := c.funs _ h3
      have hv := chkVs_ok es Γ l X h5 c
      refine good_plain c.K rfl ?_
      cases l with
      | nil =>
        refine (pe_call0 (E := fun _ _ _ => False) F (c.room.mono (Nat.le_succ j)) (okG_gl c h1) m1 m2 hb .nil Passes0 h2).imp fun σ H Q q => ?_
        have e := vs_nil h5
        subst e
        exact tVs_nil (tE_call (E := fun _ _ _ => False) q)
      | cons y ys =>
        rw [List.all_cons, Bool.and_eq_true] at h4
        exact (pe_call (E := fun _ _ _ => False) F (c.room.mono (Nat.le_succ j)) (okG_gl c h1) m1 m2 hb .nil Passes0 hv h2 (star_one h4.1) (stars_any h4.2)).imp fun σ H Q q => tE_call q
    · cases h
  | .meth i k mt es, Γ, e, X, h, c => by
    simp only [chkE] at h
    split at h
    · rename_i y p n ap l pos
      simp only [Bool.and_eq_true, List.contains_iff_mem] at h
      obtain ⟨⟨⟨⟨⟨⟨h0, h1⟩, h2⟩, h3⟩, h4⟩, hl⟩, h29⟩ := h
      rw [decide_eq_true_eq] at h29
      rw [beq_iff_eq] at h0
      subst h0
      obtain ⟨fa, cl, hm, fd, ps, hb, F⟩ := c.meths _ _ h2
      have hv := chkVs_ok es Γ l X h4 c
      have ho : PE X (.Name y p) (tVar i) := okV_pe c h1
      have hm' : Meth P.K (He.ga P.K k) _ fa := c.K ▸ hm
      have ht := meth_ht (y := y) (p := p) (n := n) (ap := ap) (pos := pos) (env := X.env) h3 h29 hl
      refine good_plain c.K rfl ?_
      cases l with
      | nil =>
        refine (pe_meth0 (E := fun _ _ _ => False) ho cl hm F (c.room.mono (Nat.le_succ j)) hb .nil Passes0 ht).imp fun σ H Q q => ?_
        have e := vs_nil h4
        subst e
        rw [c.K]
        obtain ⟨v, u1, a, dx, fs, u2, u3, u4, q2⟩ := tE_meth (E := fun _ _ _ => False) hm' q
        exact ⟨v, u1, a, dx, fs, u2, u3, u4, tVs_nil q2⟩
      | cons y ys =>
        rw [List.all_cons, Bool.and_eq_true] at h3
        refine (pe_meth (E := fun _ _ _ => False) ho cl hm F (c.room.mono (Nat.le_succ j)) hb .nil Passes0 hv (star_one h3.1) (stars_any h3.2) ht).imp fun σ H Q q => ?_
        rw [c.K]
        exact tE_meth hm' q
    · cases h
  | .lenm i k, Γ, e, X, h, c => by
    simp only [chkE, Bool.and_eq_true, List.contains_iff_mem] at h
    obtain ⟨h1, h2⟩ := h
    obtain ⟨p, a, pos, rfl, g, hb, n, hk⟩ := chkB1_is h2
    obtain ⟨fa, cl, hm, fd, ps, hbb, F⟩ := c.meths _ _ h1
    split at hk
    · refine good_plain c.K rfl ((b1_pe c (callr_len hm F c.room hbb) rfl g hb n (okV_pe c hk) (by decide) (by decide)).imp fun σ H Q q => ?_)
      rw [c.K]
      exact tE_lenm q
    · cases hk
  | .make k es, Γ, e, X, h, c => by
    simp only [chkE] at h
    split at h
    · rename_i x p l pos
      simp only [Bool.and_eq_true, Bool.not_eq_true', List.contains_iff_mem] at h
      obtain ⟨⟨⟨⟨⟨h0, h1⟩, h2⟩, h3⟩, h4⟩, h5⟩ := h
      rw [beq_iff_eq] at h0
      subst h0
      obtain ⟨fa, cl, m1, mk, fd, ps, hb, F⟩ := c.clss _ h3
      have hv := chkVs_ok es Γ l X h5 c
      have cl' : Cls P.K (He.ga P.K _) := c.K ▸ cl
      refine good_plain c.K rfl ?_
      cases l with
      | nil =>
        refine (pe_make0 (E := fun _ _ _ => False) mk F c.room (okG_gl c h1) m1 hb .nil Passes0 h2).imp fun σ H Q q => ?_
        have e := vs_nil h5
        subst e
        rw [c.K]
        exact tVs_nil (tE_make (E := fun _ _ _ => False) cl' q)
      | cons y ys =>
        rw [List.all_cons, Bool.and_eq_true] at h4
        refine (pe_make (E := fun _ _ _ => False) mk F c.room (okG_gl c h1) m1 hb .nil Passes0 hv h2 (star_one h4.1) (stars_any h4.2)).imp fun σ H Q q => ?_
        rw [c.K]
        exact tE_make cl' q
    · cases h
  | .zip a b, Γ, e, X, h, c => by
    simp only [chkE] at h
    rw [Bool.and_eq_true] at h
    obtain ⟨p, x, y, pos, rfl, g, hb, n, n2, hk, hk2⟩ := chkB2_is h.2
    exact good_plain c.K rfl ((t2_pe c (call_zip5 (X := X)) boot_zip g hb n n2 (chkE_ok a Γ x X hk c).pe (chkE_ok b Γ y X hk2 c).pe (by decide) (by decide)).imp fun σ H Q q => by rw [c.top h.1]; exact tE_zip q)
  | .tupEn a, Γ, e, X, h, c => by
    simp only [chkE] at h
    split at h
    · simp only [Bool.and_eq_true, beq_iff_eq, List.contains_iff_mem] at h
      obtain ⟨⟨⟨⟨⟨⟨⟨rfl, rfl⟩, h3⟩, h4⟩, h5⟩, h6⟩, h7⟩, h8⟩ := h
      exact good_plain c.K rfl ((pe_tupEn c.calm (okG_gl c h3) (c.bi _ h5) (okG_gl c h4) (c.bi _ h6) (chkE_ok a Γ _ X h8 c).pe (star_one h7)).imp fun σ H Q q => tE_tupEn q)
    · cases h
  | .lstRg mu a, Γ, e, X, h, c => by
    simp only [chkE] at h
    split at h
    · simp only [Bool.and_eq_true, beq_iff_eq, List.contains_iff_mem] at h
      obtain ⟨⟨⟨⟨⟨⟨⟨rfl, rfl⟩, h3⟩, h4⟩, h5⟩, h6⟩, h7⟩, h8⟩ := h
      exact good_plain c.K rfl ((pe_listRg c.calm (okG_gl c h3) (c.bi _ h5) (prg_1 (okG_gl c h4) (c.bi _ h6) (chkE_ok a Γ _ X h8 c).pe (star_one h7))).imp fun σ H Q q => tE_lstRg q)
    · cases h
  | .nev, Γ, e, X, h, c => by
    simp only [chkE] at h
    cases h
  | .lc mu elt t it cond own, Γ, e, X, h, c => by
    simp only [chkE] at h
    split at h
    · rename_i el tg iter ifs as scope pos
      simp only [Bool.and_eq_true, beq_iff_eq, List.all_eq_true, List.contains_iff_mem] at h
      obtain ⟨⟨⟨⟨⟨⟨⟨rfl, h1⟩, h2⟩, h3⟩, h4⟩, h5⟩, h6⟩, h7⟩ := h
      have ok : BlkOk X.N X.env.scope scope (ownL Γ own) := by
        rw [c.N, c.sc]
        exact blkOk_by h1
      have hN : X.N.Nodup := by rw [c.N]; exact c.nd
      have tests : ∀ Y, Ctx L (Γ.blk scope) P j Y → PTs Y ifs (tT P cond) := fun Y cy => by
        match ifs, h6 with
        | [], h6 =>
          have e := isYes_is h6
          subst e
          exact yes_tests
        | [q], h6 => exact pts_one (chkE_ok cond _ q Y h6 cy).pt
        | _ :: _ :: _, h6 => cases h6
      refine good_plain c.K rfl ((pe_lc c.calm hN (chkI_ok it Γ tg iter X h3 c) ok (fun s H C cl fp => chkT_pg (c.blk s H scope C cl fp) t tg h4) (fun s H C cl fp => tests _ (c.blk s H scope C cl fp)) (fun s H C cl fp => (chkE_ok elt _ el _ h7 (c.blk s H scope C cl fp)).pe) (set_folded h2)).imp fun σ H Q q => ?_)
      rw [ownL_snd]
      exact tE_lc h5 q
    · cases h
  | .lc2 mu elt t it cond t2 it2 cond2 own own2, Γ, e, X, h, c => by
    simp only [chkE] at h
    split at h
    · rename_i el tg iter ifs as tg2 iter2 ifs2 as2 scope pos
      simp only [Bool.and_eq_true, beq_iff_eq, List.all_eq_true, List.contains_iff_mem] at h
      obtain ⟨⟨⟨⟨⟨⟨⟨⟨⟨⟨⟨⟨⟨⟨rfl, rfl⟩, h1⟩, h2⟩, h2b⟩, ho⟩, h3⟩, h4⟩, h5⟩, h6⟩, h7⟩, h8⟩, h9⟩, h10⟩, h11⟩ := h
      have ok : BlkOk X.N X.env.scope scope (ownL Γ own) := by
        rw [c.N, c.sc]
        exact blkOk_by h1
      have hN : X.N.Nodup := by rw [c.N]; exact c.nd
      have tests : ∀ Y, Ctx L (Γ.blk scope) P j Y → PTs Y ifs (tT P cond) := fun Y cy => by
        match ifs, h6 with
        | [], h6 =>
          have e := isYes_is h6
          subst e
          exact yes_tests
        | [q], h6 => exact pts_one (chkE_ok cond _ q Y h6 cy).pt
        | _ :: _ :: _, h6 => cases h6
      have tests2 : ∀ Y, Ctx L (Γ.blk scope) P j Y → PTs Y ifs2 (tT P cond2) := fun Y cy => by
        match ifs2, h10 with
        | [], h10 =>
          have e := isYes_is h10
          subst e
          exact yes_tests
        | [q], h10 => exact pts_one (chkE_ok cond2 _ q Y h10 cy).pt
        | _ :: _ :: _, h10 => cases h10
      refine good_plain c.K rfl ((pe_lc2 (vs1 := own2) c.calm hN (chkI_ok it Γ tg iter X h3 c) ok (fun i hi => by rw [ownL_snd]; exact ho i hi) (fun s H C cl fp => chkT_pg (c.blk s H scope C cl fp) t tg h4) (fun s H C cl fp => tests _ (c.blk s H scope C cl fp)) (fun s H C cl fp => chkI_ok it2 _ tg2 iter2 _ h7 (c.blk s H scope C cl fp)) (fun s H C cl fp => chkT_pg (c.blk s H scope C cl fp) t2 tg2 h8) (fun s H C cl fp => tests2 _ (c.blk s H scope C cl fp)) (fun s H C cl fp => (chkE_ok elt _ el _ h11 (c.blk s H scope C cl fp)).pe) (set_folded h2) (fun env => set_folded h2b)).imp fun σ H Q q => ?_)
      rw [ownL_snd]
      exact tE_lc2 h5 h9 q
    · cases h
theorem chkDs_ok : ∀ (es : MEs) (Γ : Sc) (l : List Expr) (X : Cx), chkDs L Γ es l = true → Ctx L Γ P j X → PA X l (tDs P es)
  | .nil, Γ, l, X, h, c => by
    simp only [chkDs, List.isEmpty_iff] at h
    subst h
    exact pa_nil.imp fun σ H Q q => tDs_nil q
  | .cons e r, Γ, l, X, h, c => by
    simp only [chkDs] at h
    split at h
    · simp only [Bool.and_eq_true] at h
      obtain ⟨⟨h1, h2⟩, h3⟩ := h
      exact (pa_cons (chkE_ok e Γ _ X h2 c).pe (chkDs_ok r Γ _ X h3 c) (star_one h1)).imp fun σ H Q q => tDs_cons q
    · cases h
  | .star e r, Γ, l, X, h, c => by
    simp only [chkDs] at h
    split at h
    · simp only [Bool.and_eq_true] at h
      obtain ⟨h1, h2⟩ := h
      exact (pa_star (chkE_ok e Γ _ X h1 c).pe (chkDs_ok r Γ _ X h2 c) rfl).imp fun σ H Q q => by rw [c.K]; exact tDs_star q
    · cases h
theorem chkVs_ok : ∀ (es : MEs) (Γ : Sc) (l : List Expr) (X : Cx), chkVs L Γ es l = true → Ctx L Γ P j X → PA X l (tVs P es)
  | .nil, Γ, l, X, h, c => by
    simp only [chkVs, List.isEmpty_iff] at h
    subst h
    exact pa_nil.imp fun σ H Q q => tVs_nil q
  | .cons e r, Γ, l, X, h, c => by
    simp only [chkVs] at h
    split at h
    · simp only [Bool.and_eq_true] at h
      obtain ⟨⟨h1, h2⟩, h3⟩ := h
      exact (pa_cons (chkE_ok e Γ _ X h2 c).pe (chkVs_ok r Γ _ X h3 c) (star_one h1)).imp fun σ H Q q => tVs_cons q
    · cases h
  | .star e r, Γ, l, X, h, c => by
    simp only [chkVs] at h
    cases h
theorem chkI_ok : ∀ (it : MI) (Γ : Sc) (tg e : Expr) (X : Cx), chkI L Γ it tg e = true → Ctx L Γ P j X → PI X tg e (tI P it)
  | .seq a, Γ, tg, e, X, h, c => by
    simp only [chkI] at h
    exact (pi_sq (chkE_ok a Γ e X h c).pe).imp fun σ H R q => by rw [c.K]; exact tI_seq q
  | .rng a, Γ, tg, e, X, h, c => by
    simp only [chkI] at h
    obtain ⟨p, x, pos, rfl, g, hb, n, hk⟩ := chkB1_is h
    exact (pi_range1 (okG_gl c g) (c.bi _ hb) (pa_1 (chkE_ok a Γ x X hk c).pe n) (star_one n)).imp fun σ H R q => tI_rng q
  | .rng2 a b, Γ, tg, e, X, h, c => by
    simp only [chkI] at h
    obtain ⟨p, x, y, pos, rfl, g, hb, n, n2, hk, hk2⟩ := chkB2_is h
    exact (pi_range2 (okG_gl c g) (c.bi _ hb) (pa_2 (chkE_ok a Γ x X hk c).pe (chkE_ok b Γ y X hk2 c).pe n n2) (by rw [star_one n, star_one n2]; rfl) (star_one n2)).imp fun σ H R q => tI_rng2 q
  | .enum a, Γ, tg, e, X, h, c => by
    simp only [chkI] at h
    rw [Bool.and_eq_true] at h
    obtain ⟨es, kk, tp, rfl⟩ := isTup_is h.1
    obtain ⟨p, x, pos, rfl, g, hb, n, hk⟩ := chkB1_is h.2
    exact (pi_n (okG_gl c g) (c.bi _ hb) (pa_1 (chkE_ok a Γ x X hk c).pe n) (star_one n)).imp fun σ H R q => tI_enum q
  | .zip a b, Γ, tg, e, X, h, c => by
    simp only [chkI] at h
    rw [Bool.and_eq_true] at h
    obtain ⟨es, kk, tp, rfl⟩ := isTup_is h.1
    obtain ⟨p, x, y, pos, rfl, g, hb, n, n2, hk, hk2⟩ := chkB2_is h.2
    exact (pi_z (okG_gl c g) (c.bi _ hb) (pa_2 (chkE_ok a Γ x X hk c).pe (chkE_ok b Γ y X hk2 c).pe n n2) (star_one n) (stars_any (by simp [n2]))).imp fun σ H R q => tI_zip q
  | .var i, Γ, tg, e, X, h, c => by
    simp only [chkI] at h
    simp only [Bool.and_eq_true] at h
    obtain ⟨⟨h1, h2⟩, h3⟩ := h
    obtain ⟨es, kk, tp, rfl⟩ := isTup_is h2
    split at h3
    · exact (pi_var (okV_pe c h3)).imp fun σ H R q => by rw [c.top h1]; exact tI_var q
    · cases h3
end
end
end Mp
set_option Elab.async false
set_option linter.all false
set_option maxRecDepth 100000
set_option maxHeartbeats 4000000
/-! Mp, part Y: the checker of statements. -/
namespace Mp
open PySem PySem.Spec PyProof.Rows L2 StX ItX

/-! ### which stores are exchanged -/
def noComp : Expr → Bool
  | .ListComp .. => false
  | .SetComp .. => false
  | .DictComp .. => false
  | _ => true
theorem noComp_sw {e : Expr} {tg : Option Expr} {l : Nat} {env : Env} (h : noComp e = true) : swapsWith e tg l env = pure false := by
  cases e <;> first | rfl | cases h
/-- the list comprehension's variables are let go behind the store -/
def swapB (Γ : Sc) (scope : Scope) (vp : Pos) : Expr → Bool
  | .Name y py => (match Γ.sc.names.lookup y with | some .local => true | _ => false) && (py.line == vp.line) && !(scope.names.any fun (n, k) => n == y && (k == .local || k == .cell))
  | _ => false
section
variable {L : Lw} {Γ : Sc} {P : Pm} {j : Nat} {X : Cx}
theorem swap_no {el : Expr} {gs : List Comprehension} {scope : Scope} {vp : Pos} {tg : Expr} {l : Nat} {env : Env} (hs : env.scope = Γ.sc) (h : swapB Γ scope vp tg = false) : swapsWith (.ListComp el gs scope vp) (some tg) l env = pure false := by
  unfold swapsWith
  cases tg with
  | Name y py =>
    have hk : env.kindOf y = Γ.sc.names.lookup y := by unfold Env.kindOf; rw [hs]
    simp only [swapB] at h
    show (pure (env.blockKind == .function && env.kindOf y == some .local && py.line == (Expr.ListComp el gs scope vp).pos.line && !(scope.names.any fun (n, k) => n == y && (k == .local || k == .cell))) : Sem Bool) = pure false
    refine congrArg pure ?_
    rw [hk]
    cases q : Γ.sc.names.lookup y with
    | none => simp
    | some kd =>
      rw [q] at h
      cases kd with
      | «local» =>
        simp only [Bool.true_and] at h
        have e : (Expr.ListComp el gs scope vp).pos = vp := rfl
        rw [e, Bool.and_assoc, h, Bool.and_false]
      | _ => simp
  | _ => rfl
theorem swap_yes {el : Expr} {gs : List Comprehension} {scope : Scope} {vp py : Pos} {y : Str} {l : Nat} {env : Env} (hf : env.scope.kind = .function) (hs : env.scope = Γ.sc) (h : swapB Γ scope vp (.Name y py) = true) : env.scope.names.lookup y = some .local ∧ swapsWith (.ListComp el gs scope vp) (some (.Name y py)) l env = pure true := by
  simp only [swapB, Bool.and_eq_true, Bool.not_eq_true'] at h
  obtain ⟨⟨h1, h2⟩, h3⟩ := h
  have e : env.scope.names.lookup y = some .local := by
    rw [hs]
    split at h1
    · assumption
    · cases h1
  exact ⟨e, sw_true hf e h2 h3⟩
def notTupL : Expr → Bool
  | .Tuple .. => false
  | .List .. => false
  | _ => true
theorem stores_1 {tg e : Expr} {env : Env} (h : notTupL tg = true ∨ notTupL e = true) : swappedStores [tg] e env = pure none := by
  unfold swappedStores
  rcases h with h | h
  · cases tg <;> first | (cases h; done) | rfl
  · cases e <;> first | (cases h; done) | (cases tg <;> rfl)
/-- plain names on the first one's line -/
def plainNames (Γ : Sc) (ts : List Expr) : List Str := ts.filterMap fun
  | .Name id pos => if (match Γ.sc.names.lookup id with | some .local => true | _ => false) && pos.line == (ts.head?.map (·.pos.line)).getD 0 then some id else none
  | _ => none
theorem stores_none {ts vs : List Expr} {k1 k2 : Nat} {p1 p2 : Pos} {env : Env} (hs : env.scope = Γ.sc) (h : ((plainNames Γ ts).length != ts.length || vs.all (foldedForSure 8)) = true) : swappedStores [.Tuple ts k1 p1] (.Tuple vs k2 p2) env = pure none := by
  have e : (ts.filterMap fun
      | .Name id pos => if env.kindOf id == some .local && pos.line == (ts.head?.map (·.pos.line)).getD 0 then some id else none
      | _ => none) = plainNames Γ ts := by
    unfold plainNames
    congr 1
    funext x
    cases x <;> first | rfl | skip
    rename_i id pos
    have hk : env.kindOf id = Γ.sc.names.lookup id := by unfold Env.kindOf; rw [hs]
    simp only [hk]
    cases Γ.sc.names.lookup id with
    | none => rfl
    | some kd => cases kd <;> rfl
  unfold swappedStores
  simp only []
  split
  · rfl
  split
  · rfl
  split
  · rfl
  rename_i h3
  split
  · rfl
  rename_i h4
  rw [Bool.or_eq_true] at h
  rcases h with h | h
  · rw [← e] at h
    exact absurd (by rw [Bool.or_eq_true]; exact .inl h) h3
  · exact absurd h h4
theorem block_fn {env : Env} (hf : env.scope.kind = .function) : env.blockKind = .function := by
  unfold Env.blockKind
  rw [hf]
  rfl
theorem stores_2 {x y : Str} {px py p1 p2 : Pos} {a b : Expr} {k1 k2 : Nat} {env : Env} (hf : env.scope.kind = .function) (hx : env.scope.names.lookup x = some .local) (hy : env.scope.names.lookup y = some .local) (hl : (py.line == px.line) = true) (hxy : x ≠ y)
    (hs : [a, b].all notStar = true) (h1 : [a, b].all (foldedForSure 8) = false) (h2 : [a, b].all (constantsAlone 8) = false) : swappedStores [.Tuple [.Name x px, .Name y py] k1 p1] (.Tuple [a, b] k2 p2) env = pure (some [x, y]) := by
  have hb := block_fn hf
  have kx : env.kindOf x = some .local := hx
  have ky : env.kindOf y = some .local := hy
  have st : ([a, b].any fun | .Starred .. => true | _ => false) = false := by
    simp only [List.all_cons, List.all_nil, Bool.and_true, Bool.and_eq_true] at hs
    obtain ⟨s1, s2⟩ := hs
    have one : ∀ e, notStar e = true → (match e with | .Starred .. => true | _ => false) = false := fun e h => by cases e <;> first | rfl | cases h
    simp only [List.any_cons, List.any_nil, one a s1, one b s2, Bool.or_false]
  have nd : ([x, y] : List Str).eraseDups.length = 2 := by
    simp [List.eraseDups_cons, hxy, Ne.symm hxy]
  unfold swappedStores
  simp only []
  rw [if_neg (by simp [hb])]
  refine (if_neg (fun z => Bool.noConfusion (st.symm.trans z))).trans ?_
  have e : ([Expr.Name x px, Expr.Name y py].filterMap fun
      | .Name id pos => if env.kindOf id == some .local && pos.line == ((List.head? [Expr.Name x px, Expr.Name y py]).map (·.pos.line)).getD 0 then some id else none
      | _ => none) = [x, y] := by
    have e0 : (Expr.Name x px).pos.line = px.line := rfl
    have l2 : py.line = px.line := by simpa using hl
    simp [kx, ky, e0, l2]
  refine (if_neg ?_).trans ((if_neg (by rw [h1]; decide)).trans ((if_neg (by rw [h2]; decide)).trans ?_))
  · intro z
    have z2 : (([x, y] : List Str).length != 2 || ([x, y] : List Str).eraseDups.length != ([x, y] : List Str).length) = true := by
      rw [← e]
      exact z
    rw [nd] at z2
    cases z2
  · exact congrArg (fun l => (pure (some l) : Sem (Option (List Str)))) e
theorem stores_3 {x y w : Str} {px py pw p1 p2 : Pos} {a b d : Expr} {k1 k2 : Nat} {env : Env} (hf : env.scope.kind = .function) (hx : env.scope.names.lookup x = some .local) (hy : env.scope.names.lookup y = some .local) (hw : env.scope.names.lookup w = some .local) (hl : (py.line == px.line) = true) (hl2 : (pw.line == px.line) = true) (hxy : x ≠ y) (hxw : x ≠ w) (hyw : y ≠ w)
    (hs : [a, b, d].all notStar = true) (h1 : [a, b, d].all (foldedForSure 8) = false) (h2 : [a, b, d].all (constantsAlone 8) = false) : swappedStores [.Tuple [.Name x px, .Name y py, .Name w pw] k1 p1] (.Tuple [a, b, d] k2 p2) env = pure (some [x, y, w]) := by
  have hb := block_fn hf
  have kx : env.kindOf x = some .local := hx
  have ky : env.kindOf y = some .local := hy
  have kw : env.kindOf w = some .local := hw
  have st : ([a, b, d].any fun | .Starred .. => true | _ => false) = false := by
    simp only [List.all_cons, List.all_nil, Bool.and_true, Bool.and_eq_true] at hs
    obtain ⟨s1, s2, s3⟩ := hs
    have one : ∀ e, notStar e = true → (match e with | .Starred .. => true | _ => false) = false := fun e h => by cases e <;> first | rfl | cases h
    simp only [List.any_cons, List.any_nil, one a s1, one b s2, one d s3, Bool.or_false]
  have nd : ([x, y, w] : List Str).eraseDups.length = 3 := by
    simp [List.eraseDups_cons, hxy, Ne.symm hxy, hxw, Ne.symm hxw, hyw, Ne.symm hyw]
  unfold swappedStores
  simp only []
  rw [if_neg (by simp [hb])]
  refine (if_neg (fun z => Bool.noConfusion (st.symm.trans z))).trans ?_
  have e : ([Expr.Name x px, Expr.Name y py, Expr.Name w pw].filterMap fun
      | .Name id pos => if env.kindOf id == some .local && pos.line == ((List.head? [Expr.Name x px, Expr.Name y py, Expr.Name w pw]).map (·.pos.line)).getD 0 then some id else none
      | _ => none) = [x, y, w] := by
    have e0 : (Expr.Name x px).pos.line = px.line := rfl
    have l2 : py.line = px.line := by simpa using hl
    have l3 : pw.line = px.line := by simpa using hl2
    simp [kx, ky, kw, e0, l2, l3]
  refine (if_neg ?_).trans ((if_neg (by rw [h1]; decide)).trans ((if_neg (by rw [h2]; decide)).trans ?_))
  · intro z
    have z2 : (([x, y, w] : List Str).length != 3 || ([x, y, w] : List Str).eraseDups.length != ([x, y, w] : List Str).length) = true := by
      rw [← e]
      exact z
    rw [nd] at z2
    cases z2
  · exact congrArg (fun l => (pure (some l) : Sem (Option (List Str)))) e
end
end Mp
set_option Elab.async false
set_option linter.all false
set_option maxRecDepth 100000
set_option maxHeartbeats 4000000
/-! Mp, part Z: the checker of statements, all of it. -/
namespace Mp
open PySem PySem.Spec PyProof.Rows L2 StX ItX
def chkMA (L : Lw) (Γ : Sc) : MA → Expr → Bool
  | .pt t, e => chkT Γ t e
  | .fld i k f, e => (match e with | .Attribute (.Name y _) g _ => g == f && okV Γ i y && L.flds.contains (k, f) | _ => false)
  | .sub o ix, e => (match e with | .Subscript a b _ => notSlice b && chkE L Γ o a && chkE L Γ ix b | _ => false)
def chkMAs (L : Lw) (Γ : Sc) : MAs → List Expr → Bool
  | .nil, es => es.isEmpty
  | .cons t r, es => (match es with | e :: es => notStar e && chkMA L Γ t e && chkMAs L Γ r es | [] => false)
def lenA : MAs → Nat
  | .nil => 0
  | .cons _ r => lenA r + 1
def lenE : MEs → Nat
  | .nil => 0
  | .cons _ r => lenE r + 1
  | .star _ r => lenE r + 1
section
variable {L : Lw} {Γ : Sc} {P : Pm} {j : Nat} {X : Cx}
theorem sub_asg {o i : Expr} {pos : Pos} {env : Env} (h : notSlice i = true) : ∀ v, assign (.Subscript o i pos) env v = (do
      let ov ← holding [v] (eval o env)
      let iv ← holding [v, ov] (eval i env)
      standAt pos
      holding [v, ov, iv] (setItem ov iv v)
      release [v, ov, iv] []) := fun v => by
  cases i <;> first | rfl | cases h
theorem chkMA_pg (c : Ctx L Γ P j X) : ∀ (t : MA) (e : Expr), chkMA L Γ t e = true → PG X e (gMA P t) ∧ naA P.K t
  | .pt t, e, h => ⟨chkT_pg c t e h, trivial⟩
  | .fld i k f, e, h => by
    simp only [chkMA] at h
    split at h
    · rename_i y p g pos
      simp only [Bool.and_eq_true, beq_iff_eq, List.contains_iff_mem] at h
      obtain ⟨⟨rfl, h1⟩, h2⟩ := h
      refine ⟨?_, c.K ▸ c.flds _ _ h2⟩
      have z := pg_fld (f := g) (pos := pos) (okV_pe (p := p) c h1)
      rw [c.K] at z
      exact z
    · cases h
  | .sub o ix, e, h => by
    simp only [chkMA] at h
    split at h
    · simp only [Bool.and_eq_true] at h
      obtain ⟨⟨h1, h2⟩, h3⟩ := h
      exact ⟨pg_sub (chkE_ok o Γ _ X h2 c).pe (chkE_ok ix Γ _ X h3 c).pe set_list (sub_asg h1), trivial⟩
    · cases h
theorem chkMAs_pg (c : Ctx L Γ P j X) : ∀ (ts : MAs) (es : List Expr), chkMAs L Γ ts es = true → PGs X es (gMAs P ts) ∧ naAs P.K ts ∧ es.all notStar = true ∧ es.length = lenA ts
  | .nil, es, h => by
    simp only [chkMAs, List.isEmpty_iff] at h
    subst h
    exact ⟨pgs_nil, trivial, rfl, rfl⟩
  | .cons t r, es, h => by
    simp only [chkMAs] at h
    split at h
    · simp only [Bool.and_eq_true] at h
      obtain ⟨⟨h1, h2⟩, h3⟩ := h
      obtain ⟨q1, q2, q3, q4⟩ := chkMAs_pg c r _ h3
      obtain ⟨q5, q6⟩ := chkMA_pg c t _ h2
      exact ⟨pgs_cons q5 q1 (assign_cons h1), ⟨q6, q2⟩, by rw [List.all_cons, h1, q3]; rfl, congrArg (· + 1) q4⟩
    · cases h
theorem chkVs_len : ∀ {es : MEs} {l : List Expr}, chkVs L Γ es l = true → l.length = lenE es
  | .nil, l, h => by
    simp only [chkVs, List.isEmpty_iff] at h
    subst h
    rfl
  | .cons e r, l, h => by
    simp only [chkVs] at h
    split at h
    · simp only [Bool.and_eq_true] at h
      exact congrArg (· + 1) (chkVs_len h.2)
    · cases h
  | .star e r, l, h => by
    simp only [chkVs] at h
    cases h
theorem evVs_len {cl : Cl} : ∀ {es : MEs} {vs : List EV} {env : Ev} {h r : Hm}, evVs cl es env h = some (vs, r) → vs.length = lenE es
  | .nil, vs, env, h, r, e => by
    simp only [evVs] at e
    cases e
    rfl
  | .cons e es, vs, env, h, r, q => by
    simp only [evVs] at q
    obtain ⟨⟨v1, h1⟩, e1, q1⟩ := bind_some q
    obtain ⟨⟨ds, h2⟩, e2, q2⟩ := bind_some q1
    cases q2
    exact congrArg (· + 1) (evVs_len e2)
  | .star e es, vs, env, h, r, q => by
    simp only [evVs] at q
    cases q
/-! ### one store -/
/-- the parts of a comprehension -/
theorem lc_parts (c : Ctx L Γ P j X) {mu : Bool} {elt cond : ME} {t : MT} {it : MI} {own : List Nat} {el tg iter : Expr} {ifs : List Expr} {as : Int} {scope : Scope} {pos : Pos} (h : chkE L Γ (.lc mu elt t it cond own) (.ListComp el [⟨tg, iter, ifs, as⟩] scope pos) = true) :
    as = 0 ∧ PI X tg iter (tI P it) ∧ BlkOk X.N X.env.scope scope (ownL Γ own) ∧ (∀ (s : Shared) (H : Hp) (C : Addr) (cl : List (Str × Addr)) (fp : List Addr), PG (X.blk s H scope (compEnvC scope cl C X.env) fp) tg (gMT P.K t)) ∧
      (∀ (s : Shared) (H : Hp) (C : Addr) (cl : List (Str × Addr)) (fp : List Addr), PTs (X.blk s H scope (compEnvC scope cl C X.env) fp) ifs (tT P cond)) ∧
      (∀ (s : Shared) (H : Hp) (C : Addr) (cl : List (Str × Addr)) (fp : List Addr), PE (X.blk s H scope (compEnvC scope cl C X.env) fp) el (tE P elt)) ∧ (∀ x, foldedSetIterable iter X.env x = pure x) ∧ ∀ i ∈ slT t, i ∈ own := by
  simp only [chkE] at h
  simp only [Bool.and_eq_true, beq_iff_eq, List.all_eq_true, List.contains_iff_mem] at h
  obtain ⟨⟨⟨⟨⟨⟨⟨rfl, h1⟩, h2⟩, h3⟩, h4⟩, h5⟩, h6⟩, h7⟩ := h
  have ok : BlkOk X.N X.env.scope scope (ownL Γ own) := by
    rw [c.N, c.sc]
    exact blkOk_by h1
  have tests : ∀ Y, Ctx L (Γ.blk scope) P j Y → PTs Y ifs (tT P cond) := fun Y cy => by
    match ifs, h6 with
    | [], h6 =>
      have e := isYes_is h6
      subst e
      exact yes_tests
    | [q], h6 => exact pts_one (chkE_ok cond _ q Y h6 cy).pt
    | _ :: _ :: _, h6 => cases h6
  exact ⟨rfl, chkI_ok it Γ tg iter X h3 c, ok, fun s H C cl fp => chkT_pg (c.blk s H scope C cl fp) t tg h4, fun s H C cl fp => tests _ (c.blk s H scope C cl fp), fun s H C cl fp => (chkE_ok elt _ el _ h7 (c.blk s H scope C cl fp)).pe, set_folded h2, h5⟩
theorem lc2_parts (c : Ctx L Γ P j X) {mu : Bool} {elt cond cond2 : ME} {t t2 : MT} {it it2 : MI} {own own2 : List Nat} {el tg iter tg2 iter2 : Expr} {ifs ifs2 : List Expr} {as as2 : Int} {scope : Scope} {pos : Pos} (h : chkE L Γ (.lc2 mu elt t it cond t2 it2 cond2 own own2) (.ListComp el [⟨tg, iter, ifs, as⟩, ⟨tg2, iter2, ifs2, as2⟩] scope pos) = true) :
    as = 0 ∧ as2 = 0 ∧ PI X tg iter (tI P it) ∧ BlkOk X.N X.env.scope scope (ownL Γ own) ∧ (∀ i ∈ own2, i ∈ (ownL Γ own).map (·.2)) ∧ (∀ (s : Shared) (H : Hp) (C : Addr) (cl : List (Str × Addr)) (fp : List Addr), PG (X.blk s H scope (compEnvC scope cl C X.env) fp) tg (gMT P.K t)) ∧
      (∀ (s : Shared) (H : Hp) (C : Addr) (cl : List (Str × Addr)) (fp : List Addr), PTs (X.blk s H scope (compEnvC scope cl C X.env) fp) ifs (tT P cond)) ∧
      (∀ (s : Shared) (H : Hp) (C : Addr) (cl : List (Str × Addr)) (fp : List Addr), PI (X.blk s H scope (compEnvC scope cl C X.env) fp) tg2 iter2 (tI P it2)) ∧
      (∀ (s : Shared) (H : Hp) (C : Addr) (cl : List (Str × Addr)) (fp : List Addr), PG (X.blk s H scope (compEnvC scope cl C X.env) fp) tg2 (gMT P.K t2)) ∧
      (∀ (s : Shared) (H : Hp) (C : Addr) (cl : List (Str × Addr)) (fp : List Addr), PTs (X.blk s H scope (compEnvC scope cl C X.env) fp) ifs2 (tT P cond2)) ∧
      (∀ (s : Shared) (H : Hp) (C : Addr) (cl : List (Str × Addr)) (fp : List Addr), PE (X.blk s H scope (compEnvC scope cl C X.env) fp) el (tE P elt)) ∧ (∀ x, foldedSetIterable iter X.env x = pure x) ∧ (∀ env x, foldedSetIterable iter2 env x = pure x) ∧ (∀ i ∈ slT t, i ∈ own) ∧ ∀ i ∈ slT t2, i ∈ own2 := by
  simp only [chkE] at h
  simp only [Bool.and_eq_true, beq_iff_eq, List.all_eq_true, List.contains_iff_mem] at h
  obtain ⟨⟨⟨⟨⟨⟨⟨⟨⟨⟨⟨⟨⟨⟨rfl, rfl⟩, h1⟩, h2⟩, h2b⟩, ho⟩, h3⟩, h4⟩, h5⟩, h6⟩, h7⟩, h8⟩, h9⟩, h10⟩, h11⟩ := h
  have ok : BlkOk X.N X.env.scope scope (ownL Γ own) := by
    rw [c.N, c.sc]
    exact blkOk_by h1
  have tests : ∀ Y, Ctx L (Γ.blk scope) P j Y → PTs Y ifs (tT P cond) := fun Y cy => by
    match ifs, h6 with
    | [], h6 =>
      have e := isYes_is h6
      subst e
      exact yes_tests
    | [q], h6 => exact pts_one (chkE_ok cond _ q Y h6 cy).pt
    | _ :: _ :: _, h6 => cases h6
  have tests2 : ∀ Y, Ctx L (Γ.blk scope) P j Y → PTs Y ifs2 (tT P cond2) := fun Y cy => by
    match ifs2, h10 with
    | [], h10 =>
      have e := isYes_is h10
      subst e
      exact yes_tests
    | [q], h10 => exact pts_one (chkE_ok cond2 _ q Y h10 cy).pt
    | _ :: _ :: _, h10 => cases h10
  exact ⟨rfl, rfl, chkI_ok it Γ tg iter X h3 c, ok, fun i hi => by rw [ownL_snd]; exact ho i hi, fun s H C cl fp => chkT_pg (c.blk s H scope C cl fp) t tg h4, fun s H C cl fp => tests _ (c.blk s H scope C cl fp), fun s H C cl fp => chkI_ok it2 _ tg2 iter2 _ h7 (c.blk s H scope C cl fp), fun s H C cl fp => chkT_pg (c.blk s H scope C cl fp) t2 tg2 h8, fun s H C cl fp => tests2 _ (c.blk s H scope C cl fp), fun s H C cl fp => (chkE_ok elt _ el _ h11 (c.blk s H scope C cl fp)).pe, set_folded h2, fun env => set_folded h2b, h5, h9⟩
def chkAsg (L : Lw) (Γ : Sc) (t : MA) (v : ME) (tg e : Expr) : Bool := chkE L Γ v e && chkMA L Γ t tg && notStar tg && (notTupL tg || notTupL e) && (match e with
  | .ListComp _ gs scope vp => !swapB Γ scope vp tg || (match v, t, tg with
    | .lc .., .pt (.nm _), .Name .. => gs.length == 1
    | .lc2 .., .pt (.nm _), .Name .. => gs.length == 2
    | _, _, _ => false)
  | e => noComp e)
theorem chkAsg_ps (c : Ctx L Γ P j X) (hf : Γ.sc.kind = .function) {t : MA} {v : ME} {tg e : Expr} {pos : Pos} (h : chkAsg L Γ t v tg e = true) : PS X (.Assign [tg] e pos) (tSt P (.asg t v)) := by
  unfold chkAsg at h
  simp only [Bool.and_eq_true, Bool.or_eq_true] at h
  obtain ⟨⟨⟨⟨h1, h2⟩, h3⟩, h4⟩, h5⟩ := h
  have ge := chkE_ok v Γ e X h1 c
  obtain ⟨gt, na⟩ := chkMA_pg c t tg h2
  have hN : X.N.Nodup := by rw [c.N]; exact c.nd
  have hfX : X.env.scope.kind = .function := by rw [c.sc]; exact hf
  have plain : swapsWithSole [tg] e pos.line X.env = pure false → PS X (.Assign [tg] e pos) (tSt P (.asg t v)) := fun hs =>
    (ps_asg ge.pe gt hs (stores_1 h4) (assign_cons h3)).imp fun D σ H q => tSt_asg na q
  split at h5
  · rename_i el gs scope vp
    by_cases hsw0 : swapB Γ scope vp tg = false
    · exact plain (swap_no c.sc hsw0)
    · have hsw : swapB Γ scope vp tg = true := by simpa using hsw0
      clear hsw0
      rw [hsw] at h5
      simp only [Bool.not_true, Bool.false_or] at h5
      split at h5
      · rename_i mu elt tt it cond own i y py
        obtain ⟨yl, sw⟩ := swap_yes (el := el) (gs := gs) (l := pos.line) hfX c.sc hsw
        have hi : X.N[i]? = some y := by
          have z : (decide (Γ.N[i]? = some y) && _) = true := h2
          rw [Bool.and_eq_true, decide_eq_true_eq] at z
          rw [c.N]
          exact z.1
        match gs, h5, h1, sw with
        | [⟨tg2, iter, ifs, as⟩], _, h1, sw =>
          obtain ⟨rfl, p1, p2, p3, p4, p5, p6, p7⟩ := lc_parts c h1
          refine (ps_setLc c.calm hN hi yl sw p1 p2 p3 p4 p5 p6).imp fun D σ H q => ?_
          have z := tSt_asg (t := .pt (.nm i)) trivial q
          rw [ownL_snd]
          exact tE_lc p7 z
        | [], h5, _, _ => cases h5
        | _ :: _ :: _, h5, _, _ => simp at h5
      · rename_i mu elt tt it cond tt2 it2 cond2 own own2 i y py
        obtain ⟨yl, sw⟩ := swap_yes (el := el) (gs := gs) (l := pos.line) hfX c.sc hsw
        have hi : X.N[i]? = some y := by
          have z : (decide (Γ.N[i]? = some y) && _) = true := h2
          rw [Bool.and_eq_true, decide_eq_true_eq] at z
          rw [c.N]
          exact z.1
        match gs, h5, h1, sw with
        | [⟨tg2, iter, ifs, as⟩, ⟨tg3, iter3, ifs3, as3⟩], _, h1, sw =>
          obtain ⟨rfl, rfl, p1, p2, p3, p4, p5, p6, p7, p8, p9, p10, p11, p12, p13⟩ := lc2_parts c h1
          refine (ps_setLc2 c.calm hN hi yl sw p1 p2 p3 p4 p5 p6 p7 p8 p9 p10 p11).imp fun D σ H q => ?_
          have z := tSt_asg (t := .pt (.nm i)) trivial q
          rw [ownL_snd]
          exact tE_lc2 p12 p13 z
        | [], h5, _, _ => cases h5
        | [_], h5, _, _ => simp at h5
        | _ :: _ :: _ :: _, h5, _, _ => simp at h5
      · cases h5
  · exact plain (noComp_sw h5)
end
end Mp
set_option Elab.async false
set_option linter.all false
set_option maxRecDepth 100000
set_option maxHeartbeats 4000000
/-! Mq: the checker of statements: the whole. -/
namespace Mp
open PySem PySem.Spec PyProof.Rows L2 StX ItX
def isLoc (Γ : Sc) (i : Nat) (x : Str) : Bool := decide (Γ.N[i]? = some x) && (match Γ.sc.names.lookup x with | some .local => true | _ => false)
def par23 (Γ : Sc) : MAs → List Expr → List Expr → Bool
  | .cons (.pt (.nm i)) (.cons (.pt (.nm j)) .nil), [.Name x px, .Name y py], [a, b] => isLoc Γ i x && isLoc Γ j y && (py.line == px.line) && !(x == y) && !(i == j) && !([a, b].all (foldedForSure 8)) && !([a, b].all (constantsAlone 8))
  | .cons (.pt (.nm i)) (.cons (.pt (.nm j)) (.cons (.pt (.nm l)) .nil)), [.Name x px, .Name y py, .Name z pz], [a, b, d] => isLoc Γ i x && isLoc Γ j y && isLoc Γ l z && (py.line == px.line) && (pz.line == px.line) && !(x == y) && !(x == z) && !(y == z) && !(i == j) && !(i == l) && !(j == l) && !([a, b, d].all (foldedForSure 8)) && !([a, b, d].all (constantsAlone 8))
  | _, _, _ => false
def chkPar (L : Lw) (Γ : Sc) (ts : MAs) (es : MEs) (tgs vs : List Expr) : Bool := vs.all notStar && chkVs L Γ es vs && decide (vs.length ≤ 100) &&
  ((chkMAs L Γ ts tgs && (lenA ts == lenE es) && ((plainNames Γ tgs).length != tgs.length || vs.all (foldedForSure 8))) || par23 Γ ts tgs vs)
section
variable {L : Lw} {Γ : Sc} {P : Pm} {j : Nat} {X : Cx}
theorem isLoc_is (c : Ctx L Γ P j X) {i : Nat} {x : Str} (h : isLoc Γ i x = true) : X.N[i]? = some x ∧ X.env.scope.names.lookup x = some .local := by
  unfold isLoc at h
  rw [Bool.and_eq_true, decide_eq_true_eq] at h
  refine ⟨by rw [c.N]; exact h.1, ?_⟩
  rw [c.sc]
  have h2 := h.2
  split at h2
  · assumption
  · cases h2
theorem chkPar_ps (c : Ctx L Γ P j X) (hf : Γ.sc.kind = .function) {ts : MAs} {es : MEs} {tgs vs : List Expr} {k1 k2 : Nat} {p1 p2 pos : Pos} (h : chkPar L Γ ts es tgs vs = true) : PS X (.Assign [.Tuple tgs k1 p1] (.Tuple vs k2 p2) pos) (tSt P (.par ts es)) := by
  unfold chkPar at h
  simp only [Bool.and_eq_true, Bool.or_eq_true, decide_eq_true_eq] at h
  obtain ⟨⟨⟨h1, h2⟩, h3⟩, h4⟩ := h
  have hv := chkVs_ok (P := P) (j := j) es Γ vs X h2 c
  have hN : X.N.Nodup := by rw [c.N]; exact c.nd
  have hfX : X.env.scope.kind = .function := by rw [c.sc]; exact hf
  rcases h4 with ⟨⟨h4, h5⟩, h6⟩ | h4
  · obtain ⟨q1, q2, q3, q4⟩ := chkMAs_pg c ts tgs h4
    rw [beq_iff_eq] at h5
    have hw : swappedStores [.Tuple tgs k1 p1] (.Tuple vs k2 p2) X.env = pure none := stores_none c.sc (by rw [Bool.or_eq_true]; exact h6)
    have gt : PG X (.Tuple tgs k1 p1) (gTup X.K (lenE es) (gMAs P ts)) := pg_tup c.calm q1 (by rw [assign_len, q4, h5]) (assign_star q3)
    refine (ps_asg (pe_tup hv) gt rfl hw (assign_cons rfl)).imp fun D σ H q => ?_
    rw [c.K]
    exact tSt_par q2 (fun vs env h r e => evVs_len e) (by rw [← chkVs_len h2, sizeLine_eq]; omega) q
  · unfold par23 at h4
    split at h4
    · simp only [Bool.and_eq_true, Bool.not_eq_true', beq_eq_false_iff_ne] at h4
      obtain ⟨⟨⟨⟨⟨⟨g1, g2⟩, g3⟩, g4⟩, g5⟩, g6⟩, g7⟩ := h4
      obtain ⟨a1, a2⟩ := isLoc_is c g1
      obtain ⟨b1, b2⟩ := isLoc_is c g2
      exact (ps_par c.calm hN a1 b1 g5 a2 b2 hv (stores_2 hfX a2 b2 g3 g4 h1 g6 g7) rfl).imp fun D σ H q => tSt_par2 q
    · simp only [Bool.and_eq_true, Bool.not_eq_true', beq_eq_false_iff_ne] at h4
      obtain ⟨⟨⟨⟨⟨⟨⟨⟨⟨⟨⟨⟨g1, g2⟩, g3⟩, g4⟩, g5⟩, g6⟩, g7⟩, g8⟩, g9⟩, g10⟩, g11⟩, g12⟩, g13⟩ := h4
      obtain ⟨a1, a2⟩ := isLoc_is c g1
      obtain ⟨b1, b2⟩ := isLoc_is c g2
      obtain ⟨d1, d2⟩ := isLoc_is c g3
      exact (ps_par3 c.calm hN a1 b1 d1 g9 g10 g11 a2 b2 d2 hv (stores_3 hfX a2 b2 d2 g4 g5 g6 g7 g8 h1 g12 g13) rfl).imp fun D σ H q => tSt_par3 q
    · cases h4
end
/-! statements -/
mutual
def chkS (L : Lw) (Γ : Sc) : MS → Stmt → Bool
  | .asg t e, st => (match st with | .Assign [tg] v _ => chkAsg L Γ t e tg v | _ => false)
  | .par ts es, st => (match st with | .Assign [.Tuple tgs _ _] (.Tuple vs _ _) _ => chkPar L Γ ts es tgs vs | _ => false)
  | .expr e, st => (match st with | .Expr v _ => noComp v && chkE L Γ e v | _ => false)
  | .ret e, st => (match st with | .Return (some v) _ => chkE L Γ e v | _ => false)
  | .retN, st => (match st with | .Return none _ => true | _ => false)
  | .ifs t a b, st => (match st with | .If c x y _ => chkE L Γ t c && chkSs L Γ a x && chkSs L Γ b y | _ => false)
  | .for_ t it body, st => (match st with | .For tg iter b [] _ => notSet iter && chkI L Γ it tg iter && chkT Γ t tg && chkSs L Γ body b | _ => false)
  | .while_ t body, st => (match st with | .While c b [] _ => chkE L Γ t c && chkSs L Γ body b | _ => false)
  | .brk, st => (match st with | .Break _ => true | _ => false)
  | .cont, st => (match st with | .Continue _ => true | _ => false)
  | .pass, st => (match st with | .Pass _ => true | _ => false)
  | .never, _ => true
def chkSs (L : Lw) (Γ : Sc) : MSs → List Stmt → Bool
  | .nil, sts => sts.isEmpty
  | .cons s r, sts => (match sts with | st :: sts => (match s with | .never => true | _ => chkS L Γ s st && chkSs L Γ r sts) | [] => false)
end
section
variable {L : Lw} {Γ : Sc} {P : Pm} {j : Nat} {X : Cx}
mutual
theorem chkS_ok (c : Ctx L Γ P j X) (hf : Γ.sc.kind = .function) : ∀ (s : MS) (st : Stmt), chkS L Γ s st = true → PS X st (tSt P s)
  | .asg t e, st, h => by
    simp only [chkS] at h
    split at h
    · exact chkAsg_ps c hf h
    · cases h
  | .par ts es, st, h => by
    simp only [chkS] at h
    split at h
    · exact chkPar_ps c hf h
    · cases h
  | .expr e, st, h => by
    simp only [chkS] at h
    split at h
    · rw [Bool.and_eq_true] at h
      exact (ps_expr (chkE_ok e Γ _ X h.2 c).pe (noComp_sw h.1)).imp fun D σ H q => tSt_expr q
    · cases h
  | .ret e, st, h => by
    simp only [chkS] at h
    split at h
    · exact (ps_ret (chkE_ok e Γ _ X h c).pe).imp fun D σ H q => tSt_ret q
    · cases h
  | .retN, st, h => by
    simp only [chkS] at h
    split at h
    · exact ps_retN.imp fun D σ H q => tSt_retN q
    · cases h
  | .ifs t a b, st, h => by
    simp only [chkS] at h
    split at h
    · simp only [Bool.and_eq_true] at h
      obtain ⟨⟨h1, h2⟩, h3⟩ := h
      exact (ps_if (chkE_ok t Γ _ X h1 c).pt (chkSs_ok c hf a _ h2) (chkSs_ok c hf b _ h3)).imp fun D σ H q => tSt_ifs q
    · cases h
  | .for_ t it body, st, h => by
    simp only [chkS] at h
    split at h
    · simp only [Bool.and_eq_true] at h
      obtain ⟨⟨⟨h1, h2⟩, h3⟩, h4⟩ := h
      exact (ps_for (by rw [c.xe]; exact .never) c.calm (chkI_ok it Γ _ _ X h2 c) (chkT_pg c t _ h3) (chkSs_ok c hf body _ h4) (set_folded h1)).imp fun D σ H q => tSt_for q
    · cases h
  | .while_ t body, st, h => by
    simp only [chkS] at h
    split at h
    · simp only [Bool.and_eq_true] at h
      obtain ⟨h1, h2⟩ := h
      exact (ps_while (by rw [c.xe]; exact .never) (chkE_ok t Γ _ X h1 c).pt (chkSs_ok c hf body _ h2)).imp fun D σ H q => tSt_while q
    · cases h
  | .brk, st, h => by
    simp only [chkS] at h
    split at h
    · exact ps_break.imp fun D σ H q => tSt_brk q
    · cases h
  | .cont, st, h => by
    simp only [chkS] at h
    split at h
    · exact ps_continue.imp fun D σ H q => tSt_cont q
    · cases h
  | .pass, st, h => by
    simp only [chkS] at h
    split at h
    · exact ps_pass.imp fun D σ H q => tSt_pass q
    · cases h
  | .never, st, h => ps_never.imp fun D σ H q => tSt_never q
theorem chkSs_ok (c : Ctx L Γ P j X) (hf : Γ.sc.kind = .function) : ∀ (s : MSs) (sts : List Stmt), chkSs L Γ s sts = true → PSs X sts (tSs P s)
  | .nil, sts, h => by
    simp only [chkSs, List.isEmpty_iff] at h
    subst h
    exact pss_nil.imp fun D σ H q => tSs_nil q
  | .cons s r, sts, h => by
    simp only [chkSs] at h
    split at h
    · rename_i st sts
      split at h
      · exact pss_never.imp fun D σ H q => by
          have z := tSs_cons q
          obtain ⟨G, nf, m, h, env, out, env', h', x, ev, f⟩ := z
          cases ev
      · rw [Bool.and_eq_true] at h
        exact (pss_cons (chkS_ok c hf s _ h.1) (chkSs_ok c hf r _ h.2)).imp fun D σ H q => tSs_cons q
    · cases h
end
end
end Mp
set_option Elab.async false
set_option linter.all false
set_option maxRecDepth 100000
set_option maxHeartbeats 4000000
/-! Mr: every def of the table keeps the promise that it gives what the evaluator gives. -/
namespace Mp
open PySem PySem.Spec PyProof.Rows L2 StX ItX
section
variable {K : PySem.W.Frag} {G : Addr → Prop} {nf nf' : Nat → Nat} {sc : List Int} {m m' : List Addr} {h h2 : Hm} {H H' : Hp}
theorem Rl.nfc (r : Rl K G nf m h H) (e : ∀ k, k < h.length → nf' k = nf k) : Rl K G nf' m h H :=
  ⟨r.len, r.nd, r.ob, r.th, fun k xs ys q => by
    obtain ⟨hj, z, TI, TO, i1, i2, a0, a1, a2, a3, a4, x⟩ := r.zp k xs ys q
    exact ⟨hj, z, TI, TO, i1, i2, a0, a1, a2, a3, a4, x.hz, x.hTI, x.hTO, x.sq, by rw [e k (List.getElem?_eq_some_iff.mp q).1]; exact x.young⟩, r.gd, r.gm, r.sm⟩
/-- a def's own things are gone behind its end; x: what it keeps of them (nothing, or one) -/
theorem Rl.fin (r0 : Rl K G nf m h H) (s : Stp K G nf' m h H m' h2 H') (e : ∀ k, k < h.length → nf' k = nf k) : Stp K G nf m h H m (h2.take h.length) H' := by
  obtain ⟨t, hm⟩ := s.pre
  have hl : m.length = h.length := r0.len
  have len2 : (h2.take h.length).length = h.length := by rw [List.length_take]; exact Nat.min_eq_left s.zpo.1
  have tk : ∀ {k : Nat} {o : MO}, (h2.take h.length)[k]? = some o → k < h.length ∧ h2[k]? = some o := fun {k o} q => by
    have hk : k < h.length := by rw [← len2]; exact (List.getElem?_eq_some_iff.mp q).1
    rw [List.getElem?_take_of_lt hk] at q
    exact ⟨hk, q⟩
  have up : ∀ {k : Nat} {a : Addr}, m[k]? = some a → m'[k]? = some a := fun {k a} q => s.at_ q
  have sub : ∀ a, Mx m (h2.take h.length) a → Mx m' h2 a := fun a ⟨k, o, e1, e2, e3⟩ => ⟨k, o, up e1, (tk e2).2, e3⟩
  have lv : ∀ a, Live m (h2.take h.length) a → Live m' h2 a := fun a ⟨k, o, e1, e2, e3⟩ => ⟨k, o, up e1, (tk e2).2, e3⟩
  have kp : Keeps (Fb G m' h2) (Fb G m (h2.take h.length)) H' H' := fun a o q n => ⟨q, fun z => n (z.imp (sub a) id)⟩
  refine ⟨List.prefix_refl _, s.keep, fun a z => s.new a (sub a z), ⟨by rw [len2]; exact Nat.le_refl _, fun k xs ys q hk => s.zpo.2 k xs ys (tk q).2 hk⟩, ?_⟩
  refine ⟨by rw [len2]; exact hl, fun i j a o u e1 e2 e3 e4 n1 n2 => s.rl.nd i j a o u (up e1) (up e2) (tk e3).2 (tk e4).2 n1 n2, fun k a o e1 e2 => (s.rl.ob k a o (up e1) (tk e2).2).move kp rfl, fun a l => s.rl.th a (lv a l), fun k xs ys q => ?_, s.rl.gd, fun a l => s.rl.gm a (lv a l), s.rl.sm⟩
  obtain ⟨hk, q2⟩ := tk q
  obtain ⟨hj, z, TI, TO, i1, i2, a0, a1, a2, a3, a4, x⟩ := s.rl.zp k xs ys q2
  -- the five lay ahead of the def's entry
  obtain ⟨hj0, _⟩ := r0.zp k xs ys (s.zpo.2 k xs ys q2 hk)
  have b4 : k + 4 < h.length := (List.getElem?_eq_some_iff.mp (hj0 (k + 4) (by omega) (by omega))).1
  have dn : ∀ {j : Nat} {a : Addr}, j ≤ k + 4 → m'[j]? = some a → m[j]? = some a := fun {j a} hjk w => by
    rw [← hm, List.getElem?_append_left (by rw [hl]; omega)] at w
    exact w
  exact ⟨fun j h1 h2' => by rw [List.getElem?_take_of_lt (by omega)]; exact hj j h1 h2', z, TI, TO, i1, i2, dn (by omega) a0, dn (by omega) a1, dn (by omega) a2, dn (by omega) a3, dn (by omega) a4, (x.move kp fun _ _ => rfl).hz, x.hTI, x.hTO, (x.move kp fun _ _ => rfl).sq, by rw [← e k hk]; exact x.young⟩
/-- one thing of one's own is kept -/
theorem Rl.finKeep (r0 : Rl K G nf m h H) (s : Stp K G nf' m h H m' h2 H') (e : ∀ k, k < h.length → nf' k = nf k) {k : Nat} {o : MO} {a : Addr} (hk : h.length ≤ k) (ha : m'[k]? = some a) (ho : h2[k]? = some o) (n1 : o ≠ .gone) (n2 : ∀ xs ys, o ≠ .zp xs ys) : Stp K G nf m h H (m ++ [a]) (h2.take h.length ++ [o]) H' := by
  have s1 := r0.fin s e
  obtain ⟨t, hm⟩ := s.pre
  have hl : m.length = h.length := r0.len
  have len2 : (h2.take h.length).length = h.length := by rw [List.length_take]; exact Nat.min_eq_left s.zpo.1
  have tk : ∀ {k : Nat} {o : MO}, (h2.take h.length)[k]? = some o → k < h.length ∧ h2[k]? = some o := fun {k o} q => by
    have hk : k < h.length := by rw [← len2]; exact (List.getElem?_eq_some_iff.mp q).1
    rw [List.getElem?_take_of_lt hk] at q
    exact ⟨hk, q⟩
  have cut : ∀ {i : Nat} {b : Addr} {u : MO}, m[i]? = some b → (h2.take h.length ++ [o])[i]? = some u → (h2.take h.length)[i]? = some u := fun {i b u} q e2 => by
    have hi : i < (h2.take h.length).length := by rw [len2, ← hl]; exact (List.getElem?_eq_some_iff.mp q).1
    rw [List.getElem?_append_left hi] at e2
    exact e2
  have last : ∀ {i : Nat} {u : MO}, i = m.length → (h2.take h.length ++ [o])[i]? = some u → u = o := fun {i u} hi q => by
    rw [List.getElem?_append_right (by rw [len2]; omega), show i - (h2.take h.length).length = 0 by rw [len2]; omega] at q
    exact (Option.some.inj q).symm
  have up : ∀ {k : Nat} {a : Addr}, m[k]? = some a → m'[k]? = some a := fun {k a} q => s.at_ q
  have sub : ∀ b, Mx (m ++ [a]) (h2.take h.length ++ [o]) b → Mx m' h2 b := fun b ⟨i, u, e1, e2, e3⟩ => by
    rcases get_snoc e1 with q | ⟨q, z⟩
    · exact ⟨i, u, up q, (tk (cut q e2)).2, e3⟩
    · rw [last q e2] at e3
      exact ⟨k, o, z ▸ ha, ho, e3⟩
  have lv : ∀ b, Live (m ++ [a]) (h2.take h.length ++ [o]) b → Live m' h2 b := fun b ⟨i, u, e1, e2, e3⟩ => by
    rcases get_snoc e1 with q | ⟨q, z⟩
    · exact ⟨i, u, up q, (tk (cut q e2)).2, e3⟩
    · exact ⟨k, o, z ▸ ha, ho, n1⟩
  have kp : Keeps (Fb G m' h2) (Fb G (m ++ [a]) (h2.take h.length ++ [o])) H' H' := fun b u q n => ⟨q, fun z => n (z.imp (sub b) id)⟩
  refine ⟨List.prefix_append _ _, s.keep, fun b z => s.new b (sub b z), ⟨by rw [List.length_append, len2]; omega, fun i xs ys q hi => ?_⟩, ?_⟩
  · rw [List.getElem?_append_left (by rw [len2]; exact hi)] at q
    exact s.zpo.2 i xs ys (tk q).2 hi
  refine ⟨by rw [List.length_append, List.length_append, len2, hl]; rfl, fun i j b u v e1 e2 e3 e4 m1 m2 => ?_, fun i b u e1 e2 => ?_, fun b l => s.rl.th b (lv b l), fun i xs ys q => ?_, s.rl.gd, fun b l => s.rl.gm b (lv b l), s.rl.sm⟩
  · rcases get_snoc e1 with q1 | ⟨q1, z1⟩ <;> rcases get_snoc e2 with q2 | ⟨q2, z2⟩
    · exact s.rl.nd i j b u v (up q1) (up q2) (tk (cut q1 e3)).2 (tk (cut q2 e4)).2 m1 m2
    · have hi := (tk (cut q1 e3)).1
      have := s.rl.nd i k b u o (up q1) (z2 ▸ ha) (tk (cut q1 e3)).2 ho m1 n1
      omega
    · have hj := (tk (cut q2 e4)).1
      have := s.rl.nd j k b v o (up q2) (z1 ▸ ha) (tk (cut q2 e4)).2 ho m2 n1
      omega
    · rw [q1, q2]
  · rcases get_snoc e1 with q | ⟨q, z⟩
    · exact (s.rl.ob i b u (up q) (tk (cut q e2)).2).move kp rfl
    · rw [last q e2, z]
      exact (s.rl.ob k a o ha ho).move kp rfl
  · rcases get_snoc q with q | ⟨_, z⟩
    · obtain ⟨hi, q2⟩ := tk q
      obtain ⟨hj, z, TI, TO, i1, i2, a0, a1, a2, a3, a4, x⟩ := s.rl.zp i xs ys q2
      obtain ⟨hj0, _⟩ := r0.zp i xs ys (s.zpo.2 i xs ys q2 hi)
      have b4 : i + 4 < h.length := (List.getElem?_eq_some_iff.mp (hj0 (i + 4) (by omega) (by omega))).1
      have dn : ∀ {j : Nat} {b : Addr}, j ≤ i + 4 → m'[j]? = some b → (m ++ [a])[j]? = some b := fun {j b} hjk w => by
        rw [← hm, List.getElem?_append_left (by rw [hl]; omega)] at w
        rw [List.getElem?_append_left (by rw [hl]; omega)]
        exact w
      have y := x.move kp fun _ _ => rfl
      exact ⟨fun j h1 h2' => by rw [List.getElem?_append_left (by rw [len2]; omega), List.getElem?_take_of_lt (by omega)]; exact hj j h1 h2', z, TI, TO, i1, i2, dn (by omega) a0, dn (by omega) a1, dn (by omega) a2, dn (by omega) a3, dn (by omega) a4, y.hz, y.hTI, y.hTO, y.sq, by rw [← e i hi]; exact y.young⟩
    · exact absurd z.symm (n2 xs ys)
/-- what a def hands back -/
theorem fin_ok (r0 : Rl K G nf m h H) (s : Stp K G nf' m h H m' h2 H') (e : ∀ k, k < h.length → nf' k = nf k) {fresh : Bool} {r res : EV} {h3 : Hm} {v : V} (q : RE K G sc m' h2 H' v r) (hf : Mp.fin fresh h.length r h2 = some (res, h3)) : ∃ m3, Stp K G nf m h H m3 h3 H' ∧ RE K G sc m3 h3 H' v res := by
  have s1 := r0.fin s e
  have hl : m.length = h.length := r0.len
  have subF : ∀ a, Fb G m (h2.take h.length) a → Fb G m' h2 a := fun a z => z.imp (fun ⟨k, o, e1, e2, e3⟩ => by
    have hk : k < h.length := by rw [← hl]; exact (List.getElem?_eq_some_iff.mp e1).1
    rw [List.getElem?_take_of_lt hk] at e2
    exact ⟨k, o, s.at_ e1, e2, e3⟩) id
  have kp : Keeps (Fb G m' h2) (Fb G m (h2.take h.length)) H' H' := fun a o q n => ⟨q, fun z => n (subF a z)⟩
  have len2 : (h2.take h.length).length = h.length := by rw [List.length_take]; exact Nat.min_eq_left s.zpo.1
  cases r with
  | d x =>
    cases hf
    exact ⟨m, s1, Rep.keep kp _ _ q⟩
  | scr => cases hf
  | ref k =>
    obtain ⟨a, rfl, ha⟩ := q
    simp only [Mp.fin] at hf
    split at hf
    · rename_i hk
      cases hf
      obtain ⟨t, hm⟩ := s.pre
      rw [← hm, List.getElem?_append_left (by rw [hl]; exact hk)] at ha
      exact ⟨m, s1, a, rfl, ha⟩
    · rename_i hk
      have hk : h.length ≤ k := by omega
      have kept : ∀ (o : MO), h2[k]? = some o → o ≠ .gone → (∀ xs ys, o ≠ .zp xs ys) → ∃ m3, Stp K G nf m h H m3 (h2.take h.length ++ [o]) H' ∧ RE K G sc m3 (h2.take h.length ++ [o]) H' (.ref a) (.ref h.length) := fun o ho n1 n2 =>
        ⟨m ++ [a], r0.finKeep s e hk ha ho n1 n2, a, rfl, by rw [List.getElem?_append_right (by omega), hl, Nat.sub_self]; rfl⟩
      have data : ∀ ds, ((h2[k]? = some (.lst ds)) ∨ h2[k]? = some (.ice ds)) → Rep (Fb G m (h2.take h.length)) H' (.list ds) (.ref a) := fun ds ho => by
        have z : ∃ xs, H' a = some (.lst xs) ∧ Reps (Fb G m' h2) H' ds xs := by
          rcases ho with ho | ho
          · exact s.rl.ob k a _ ha ho
          · exact s.rl.ob k a _ ha ho
        obtain ⟨xs, p, rs⟩ := z
        have n1 : ∃ o, h2[k]? = some o ∧ o ≠ .gone := by
          rcases ho with ho | ho
          · exact ⟨_, ho, nofun⟩
          · exact ⟨_, ho, nofun⟩
        obtain ⟨o, ho', n1⟩ := n1
        refine ⟨a, xs, rfl, p, fun w => ?_, Reps.keep kp _ _ rs⟩
        rcases w with ⟨i, u, e1, e2, e3⟩ | w
        · have hi : i < h.length := by rw [← hl]; exact (List.getElem?_eq_some_iff.mp e1).1
          rw [List.getElem?_take_of_lt hi] at e2
          have := s.rl.nd i k a u o (s.at_ e1) ha e2 ho' (fun z => by rw [z] at e3; cases e3) n1
          omega
        · exact s.rl.gm a (live_of ha ho' n1) w
      split at hf
      · rename_i xs ho
        split at hf
        · cases hf
          exact kept _ ho nofun nofun
        · cases hf
          exact ⟨m, s1, data xs (.inl ho)⟩
      · rename_i xs ho
        cases hf
        exact ⟨m, s1, data xs (.inr ho)⟩
      · rename_i c fs ho
        cases hf
        exact kept _ ho nofun nofun
      · cases hf
end
end Mp
set_option Elab.async false
set_option linter.all false
set_option maxRecDepth 100000
set_option maxHeartbeats 4000000
/-! Ms: every def of the table gives what the evaluator gives. -/
namespace Mp
open PySem PySem.Spec PyProof.Rows L2 StX ItX
def Df.key (d : Df) : Str × Option Str := match d.cls with
  | none => (d.name, none)
  | some c => (c, some d.name)
def adr (K : PySem.W.Frag) (f : Str) : Option Str → Addr
  | none => He.ga K f
  | some m => He.ma K (He.ga K f) m
theorem find_is {T : List Df} {f : Str} {mt : Option Str} {d : Df} (h : find T f mt = some d) : d ∈ T ∧ d.key = (f, mt) := by
  unfold find at h
  cases mt with
  | none =>
    have a := List.find?_some h
    simp only [Bool.and_eq_true, beq_iff_eq] at a
    refine ⟨List.mem_of_find?_eq_some h, ?_⟩
    unfold Df.key
    rw [a.1, a.2]
  | some m =>
    have a := List.find?_some h
    simp only [Bool.and_eq_true, beq_iff_eq] at a
    refine ⟨List.mem_of_find?_eq_some h, ?_⟩
    unfold Df.key
    rw [a.1, a.2]
/-- what stands in the written part -/
structure LawF (K : PySem.W.Frag) (mg : Str → Option Value) (L : Lw) (T : List Df) : Prop where
  defs : ∀ d ∈ T, ∃ (x qual : Str) (params : Arguments) (body : List Stmt) (scope : Scope) (fd : FuncData), FunD K x qual params body scope [] [] (adr K d.key.1 d.key.2) fd ∧ FnScope d.N d.ps scope ∧ chkSs L ⟨d.N, scope, fun _ => true, true⟩ d.body body = true ∧ Binds K fd d.ps []
  con : ∀ x d v, (x, d) ∈ L.cons → cV d = some v → ∃ u, mg x = some u ∧ RelV v u
  bi : ∀ x ∈ L.bi, mg x = none
  funs : ∀ f ∈ L.funs, (find T f none).isSome = true ∧ mg f = some (.ref (He.ga K f))
  meths : ∀ c m, (c, m) ∈ L.meths → (find T c (some m)).isSome = true ∧ Cls K (He.ga K c) ∧ Meth K (He.ga K c) m (He.ma K (He.ga K c) m)
  clss : ∀ c ∈ L.clss, (find T c (some "__init__")).isSome = true ∧ Cls K (He.ga K c) ∧ mg c = some (.ref (He.ga K c)) ∧ Mk K (He.ga K c) (He.ma K (He.ga K c) "__init__")
  flds : ∀ c f, (c, f) ∈ L.flds → NoAttr K (He.ga K c) f
section
variable {P : Program} {w : World} {K : PySem.W.Frag} {mg : Str → Option Value} {base : Heap} {L : Lw} {T : List Df} {scr : List Int}
theorem FnOk.void {k : Nat} {f : Addr} {fd : FuncData} {ps : List Str} {sp : Sp} (h : ∀ vs H Q E, ¬ sp vs H Q E) : FnOk P w K mg base CX0 k f fd ps sp :=
  ⟨fun vs H Q E q => absurd q (h vs H Q E), fun A outer s H args us vs Q E hr he hb hv hs => absurd hs (h vs H Q E)⟩
theorem REv.length {G : Addr → Prop} {m : List Addr} {h : Hm} {H : Hp} : ∀ {vs : List V} {es : List EV}, REv K G scr m h H vs es → vs.length = es.length
  | [], [], _ => rfl
  | _ :: _, _ :: _, r => congrArg Nat.succ (REv.length r.2)
  | [], _ :: _, r => r.elim
  | _ :: _, [], r => r.elim
theorem REv.get {G : Addr → Prop} {m : List Addr} {h : Hm} {H : Hp} : ∀ {vs : List V} {es : List EV} (_ : REv K G scr m h H vs es) {i : Nat} {e : EV}, es[i]? = some e → ∃ v, vs[i]? = some v ∧ RE K G scr m h H v e
  | [], [], _, i, e, q => by simp at q
  | v :: vs, e0 :: es, r, 0, e, q => by
    simp only [List.getElem?_cons_zero, Option.some.injEq] at q
    exact ⟨v, rfl, q ▸ r.1⟩
  | _ :: vs, _ :: es, r, i + 1, e, q => by
    simp only [List.getElem?_cons_succ] at q ⊢
    exact REv.get r.2 q
  | [], _ :: _, r, _, _, _ => r.elim
  | _ :: _, [], r, _, _, _ => r.elim
theorem start_ok {G : Addr → Prop} {m : List Addr} {h : Hm} {H : Hp} {N : List Str} {vs : List V} {es : List EV} (r : REv K G scr m h H vs es) : REs K G scr m h H (L2.start N vs) (Mp.start N es) := by
  unfold L2.start Mp.start
  have hl := r.length
  refine ⟨by simp [hl], fun i e q => ?_⟩
  by_cases hi : i < es.length
  · rw [List.getElem?_append_left (by simpa using hi), List.getElem?_map] at q
    obtain ⟨e', q1, q2⟩ := Option.map_eq_some_iff.mp q
    cases q2
    obtain ⟨v, a, b⟩ := r.get q1
    exact ⟨v, by rw [List.getElem?_append_left (by simp; omega), List.getElem?_map, a]; rfl, b⟩
  · rw [List.getElem?_append_right (by simp; omega), List.getElem?_replicate] at q
    split at q <;> cases q
theorem defs_ok (F : LawF K mg L T) : ∀ (n : Nat) (d : Df), d ∈ T → find T d.key.1 d.key.2 = some d → ∀ fd, Binds K fd d.ps [] → (∃ oc od osl, K.lookup (adr K d.key.1 d.key.2) = some ⟨oc, od, .func fd, osl⟩) →
    FnOk P w K mg base CX0 (2 * n) (adr K d.key.1 d.key.2) fd d.ps (spC K scr (callN T scr n) d.key.1 d.key.2)
  | 0, d, _, _, fd, _, _ => FnOk.void fun vs H Q E ⟨G, nf, m, h, es, res, h', r, ev, q, k⟩ => by cases q
  | n + 1, d, hd, hf, fd, hb, ⟨oc, od, osl, lk⟩ => by
    obtain ⟨x, qual, params, body, scope, fd', FD, S, ck, hb'⟩ := F.defs d hd
    have efd : fd' = fd := by
      obtain ⟨oc', od', _, _, _, _, _, _, _, osl', _, lk', _⟩ := FD.ex
      rw [lk] at lk'
      cases lk'
      rfl
    subst efd
    have callee : ∀ f mt, (find T f mt).isSome = true → ∃ (fd : FuncData) (ps : List Str), Binds K fd ps [] ∧ PySem.W.keepIn K (.ref (adr K f mt)) = true ∧ FnOk P w K mg base CX0 (2 * n) (adr K f mt) fd ps (spC K scr (callN T scr n) f mt) := fun f mt h => by
      obtain ⟨d2, e2⟩ := Option.isSome_iff_exists.mp h
      obtain ⟨m2, k2⟩ := find_is e2
      obtain ⟨_, _, _, _, _, fd2, FD2, _, _, b2⟩ := F.defs d2 m2
      have k21 : d2.key.1 = f := by rw [k2]
      have k22 : d2.key.2 = mt := by rw [k2]
      have lk2 : ∃ oc od osl, K.lookup (adr K d2.key.1 d2.key.2) = some ⟨oc, od, .func fd2, osl⟩ := by
        obtain ⟨oc', od', _, _, _, _, _, _, _, osl', _, lk', _⟩ := FD2.ex
        exact ⟨_, _, _, lk'⟩
      have g := defs_ok F n d2 m2 (by rw [k21, k22]; exact e2) fd2 b2 lk2
      have kp := FD2.kp
      rw [k21, k22] at g kp
      exact ⟨fd2, d2.ps, b2, kp, g⟩
    refine FunD.ok FD S (fun vs H Q E q => ?_) fun cdv A outer s H vs Q E hr hsp => ?_
    · obtain ⟨G, nf, m, h, es, res, h', r, ev, q, k⟩ := q
      simp only [callN, hf] at q
      split at q
      · rename_i hl
        rw [ev.length, hl]
      · cases q
    · obtain ⟨G, nf, m, h, es, res, h', r, ev, q, k⟩ := hsp
      simp only [callN, hf] at q
      split at q
      · obtain ⟨⟨out, env', h2⟩, q1, q2⟩ := bind_some q
        let PP : Pm := ⟨K, ⟨callN T scr n, scr, h.length⟩, s.heap.objs.size⟩
        let nf' : Nat → Nat := fun k => if k < h.length then nf k else s.heap.objs.size
        have ee : ∀ k, k < h.length → nf' k = nf k := fun k hk => if_pos hk
        have c : Ctx L ⟨d.N, scope, fun _ => true, true⟩ PP (2 * n) (cxOf CX0 P w K mg base d.N qual scope (adr K d.key.1 d.key.2) cdv A outer s H E).nox :=
          { N := rfl, sc := rfl, fn := fun _ _ => rfl, K := rfl, nd := S.nd, calm := rfl, xe := rfl, room := hr, con := F.con, bi := F.bi
            funs := fun f hf => by
              obtain ⟨a, b⟩ := F.funs f hf
              obtain ⟨fd, ps, b1, b2, b3⟩ := callee f none a
              exact ⟨_, b, b2, fd, ps, b1, b3⟩
            meths := fun c m hm => by
              obtain ⟨a, b, e⟩ := F.meths c m hm
              obtain ⟨fd, ps, b1, b2, b3⟩ := callee c (some m) a
              exact ⟨_, b, e, fd, ps, b1, b3⟩
            clss := fun c hc => by
              obtain ⟨a, b, e, f⟩ := F.clss c hc
              obtain ⟨fd, ps, b1, b2, b3⟩ := callee c (some "__init__") a
              exact ⟨_, b, e, f, fd, ps, b1, b3⟩
            flds := F.flds
            top := fun _ => rfl }
        refine ⟨tSs PP d.body, (chkSs_ok c S.kind d.body body ck).nox, G, nf', m, h, _, out, env', h2, ⟨r.nfc ee, start_ok ev, Nat.le_refl _, fun k hk => if_neg (Nat.not_lt.mpr hk)⟩, q1, fun σ' m' H' s' => ?_⟩
        cases out with
        | next =>
          intro es'
          obtain ⟨m3, s3, r3⟩ := fin_ok (sc := scr) r s' ee (v := V.non) (r := .d .none) rfl q2
          exact k _ _ _ s3 r3
        | ret e =>
          intro v rv
          obtain ⟨m3, s3, r3⟩ := fin_ok (sc := scr) r s' ee rv q2
          exact k _ _ _ s3 r3
        | brk => cases q2
        | cont => cases q2
      · cases q
end
end Mp
set_option Elab.async false
set_option linter.all false
set_option maxRecDepth 100000
set_option maxHeartbeats 4000000
/-! Mu: what the head tells gives what stands in the written part. -/
namespace Mp
open PySem PySem.Spec PyProof.Rows L2 StX ItX
/-- plain parameters -/
def plainPs (p : Arguments) (ps : List Str) : Bool := p.posonlyargs.isEmpty && decide (p.args.map (·.arg) = ps) && p.vararg.isNone && p.kwonlyargs.isEmpty && p.kwarg.isNone && decide ps.Nodup
theorem lookup_zip {β : Type} : ∀ {ps : List Str} {us : List β}, ps.Nodup → us.length = ps.length → (ps.filterMap fun n => ((ps.zip us).lookup n).map fun x => (n, x)) = ps.zip us := by
  intro ps us nd hl
  have key : ∀ (qs : List Str) (vs : List β) (pre : List (Str × β)), (∀ x ∈ qs, pre.lookup x = none) → qs.Nodup → vs.length = qs.length → (qs.filterMap fun n => ((pre ++ qs.zip vs).lookup n).map (n, ·)) = qs.zip vs := by
    intro qs
    induction qs with
    | nil => intro vs pre _ _ _; rfl
    | cons q qs ih =>
      intro vs pre hp hn hl
      cases vs with
      | nil => cases hl
      | cons v vs =>
        have e1 : (pre ++ (q :: qs).zip (v :: vs)).lookup q = some v := by
          rw [List.lookup_append, hp q (List.mem_cons_self ..)]
          simp
        rw [List.filterMap_cons, e1]
        show (q, v) :: _ = (q, v) :: qs.zip vs
        congr 1
        have e2 : pre ++ (q :: qs).zip (v :: vs) = (pre ++ [(q, v)]) ++ qs.zip vs := by simp
        rw [e2]
        refine ih vs (pre ++ [(q, v)]) (fun x hx => ?_) (List.nodup_cons.mp hn).2 (Nat.succ.inj hl)
        rw [List.lookup_append, hp x (List.mem_cons_of_mem _ hx)]
        have : x ≠ q := fun z => (List.nodup_cons.mp hn).1 (z ▸ hx)
        rw [List.lookup_cons, show (x == q) = false from beq_false_of_ne this]
        rfl
  have := key ps us [] (fun _ _ => rfl) nd hl
  simpa using this
theorem lookup_in {β : Type} : ∀ {ps : List Str} {us : List β}, us.length = ps.length → ∀ n ∈ ps, ((ps.zip us).lookup n).isNone = false
  | [], _, _, n, hn => by cases hn
  | p :: ps, [], hl, n, hn => by cases hl
  | p :: ps, u :: us, hl, n, hn => by
    rw [List.zip_cons_cons, List.lookup_cons]
    by_cases e : (n == p) = true
    · rw [e]
      rfl
    · rw [Bool.not_eq_true] at e
      rw [e]
      have : n ≠ p := by
        intro z
        rw [z, beq_self_eq_true] at e
        cases e
      exact lookup_in (Nat.succ.inj hl) n (List.mem_of_ne_of_mem this hn)
theorem bind_plain {x qual : Str} {params : Arguments} {body : List Stmt} {scope : Scope} {ps : List Str} (hp : plainPs params ps = true) (kV doc pm : Value) (an : Option Addr) (cdv ct : Value) (us : List Value) (hl : us.length = ps.length) :
    bindArgs (PySem.W.fnOf x qual params body scope .none kV doc pm an cdv ct) ⟨us, []⟩ = pure (ps.zip us) := by
  unfold plainPs at hp
  simp only [Bool.and_eq_true, List.isEmpty_iff, decide_eq_true_eq, Option.isNone_iff_eq_none] at hp
  obtain ⟨⟨⟨⟨⟨h1, h2⟩, h3⟩, h4⟩, h5⟩, h6⟩ := hp
  obtain ⟨a, b, v, k, kd, kw, df⟩ := params
  simp only at h1 h2 h3 h4 h5
  subst h1 h3 h4 h5
  have lz : ps.filter (fun n => ((ps.zip us).lookup n).isNone) = [] := by
    rw [List.filter_eq_nil_iff]
    intro n hn
    rw [lookup_in hl n hn]
    decide
  have hg : decide (us.length > ps.length) = false := decide_eq_false (by omega)
  unfold bindArgs PySem.W.fnOf
  simp only [h2, List.map_nil, List.nil_append, List.forIn_nil, pure_bind, show seqItems? Value.none = pure none from rfl, hg, Bool.false_and, Option.getD_none, List.drop_nil, List.length_nil, Nat.sub_zero, List.take_length, lz, List.isEmpty_nil, Bool.not_true, List.drop_length, List.zip_nil_left, List.append_nil, lookup_zip h6 hl, Bool.false_eq_true, if_false]
theorem FunD.bindsP {K : PySem.W.Frag} {x qual : Str} {params : Arguments} {body : List Stmt} {scope : Scope} {f : Addr} {fd : FuncData} {ps : List Str} (F : FunD K x qual params body scope [] [] f fd) (hp : plainPs params ps = true) : Binds K fd ps [] :=
  FunD.bindsN F fun kV doc pm an cdv ct us hl => bind_plain hp kV doc pm an cdv ct us hl
theorem FunD.bindsPA {K : PySem.W.Frag} {x qual : Str} {params : Arguments} {body : List Stmt} {scope : Scope} {f : Addr} {fd : FuncData} {ps : List Str} (F : FunD K x qual params body scope [] [] f fd) (hp : plainPs params ps = true) (s : Shared) (us : List Value) (hl : us.length = ps.length) : BindsTo s fd ⟨us, []⟩ (ps.zip us) :=
  FunD.bindsA F (fun kV doc pm an cdv ct us hl => bind_plain hp kV doc pm an cdv ct us hl) s us hl

/-! ### the facts of a law's written part -/
def conFa : Str × D → List He.Fa
  | (x, .int i) => [.int x i]
  | (x, .str z) => [.str x z]
  | _ => []
def conOk : D → Bool
  | .int _ => true
  | .str _ => true
  | _ => false
def faOf (L : Lw) : List He.Fa := L.cons.flatMap conFa ++ L.bi.map .free ++ L.funs.map .glo ++ L.meths.flatMap (fun p => [.cls p.1, .meth p.1 p.2]) ++ L.clss.flatMap (fun c => [.cls c, .glo c, .mkr c]) ++ L.flds.map (fun p => .noat p.1 p.2)
def scB (N P : List Str) (sc : Scope) : Bool := (match sc.kind with | .function => true | _ => false) && !sc.isCoroutine && !sc.isGenerator && decide N.Nodup && decide (N.take P.length = P) && P.all (fun x => match sc.names.lookup x with
  | some .local => true
  | some .cell => true
  | _ => false) && sc.names.all fun y => match y.2 with
  | .free => false
  | _ => true
theorem scB_ok {N P : List Str} {sc : Scope} (h : scB N P sc = true) : FnScope N P sc := by
  unfold scB at h
  simp only [Bool.and_eq_true, Bool.not_eq_true', decide_eq_true_eq, List.all_eq_true] at h
  obtain ⟨⟨⟨⟨⟨⟨h1, h2⟩, h3⟩, h4⟩, h5⟩, h6⟩, h7⟩ := h
  refine ⟨?_, h2, h3, h4, h5, fun x hx => ?_, fun y hy e => ?_⟩
  · split at h1
    · assumption
    · cases h1
  · have := h6 x hx
    split at this
    · exact .inl (by assumption)
    · exact .inr (by assumption)
    · cases this
  · have := h7 y hy
    rw [e] at this
    cases this
/-- a def of the table and its datum -/
def okDf (L : Lw) (d : Df) (e : He.DefD) : Bool := decide (e.at_ = d.key) && e.dfl.isEmpty && e.kwd.isEmpty && scB d.N d.ps e.scope && chkSs L ⟨d.N, e.scope, fun _ => true, true⟩ d.body e.body && plainPs e.params d.ps
def okDfs (L : Lw) : List Df → List He.DefD → Bool
  | [], [] => true
  | d :: T, e :: E => okDf L d e && okDfs L T E
  | _, _ => false
theorem okDfs_at {L : Lw} : ∀ {T : List Df} {E : List He.DefD}, okDfs L T E = true → ∀ d ∈ T, ∃ (i : Nat) (e : He.DefD), E[i]? = some e ∧ okDf L d e = true
  | [], [], _, d, hd => by cases hd
  | [], _ :: _, h, _, _ => by cases h
  | _ :: _, [], h, _, _ => by cases h
  | d0 :: T, e :: E, h, d, hd => by
    obtain ⟨h1, h2⟩ := Bool.and_eq_true_iff.mp (show (okDf L d0 e && okDfs L T E) = true from h)
    rcases List.mem_cons.mp hd with rfl | hd
    · exact ⟨0, e, rfl, h1⟩
    · obtain ⟨i, e', q1, q2⟩ := okDfs_at h2 d hd
      exact ⟨i + 1, e', q1, q2⟩
def lwOk (L : Lw) (T : List Df) : Bool := L.cons.all (fun p => conOk p.2) && L.funs.all (fun f => (find T f none).isSome) && L.meths.all (fun p => (find T p.1 (some p.2)).isSome) && L.clss.all fun c => (find T c (some "__init__")).isSome
section
variable {K : PySem.W.Frag} {mg : Str → Option Value} {h : Heap} {L : Lw} {T : List Df} {E : List He.DefD}
theorem fact_of {fa : List He.Fa} {fn : List He.DefD} (c : He.SaysD fa fn K) {f : He.Fa} (hf : f ∈ fa) : f.ok K = true := by
  obtain ⟨i, hi⟩ := List.mem_iff_getElem?.mp hf
  exact c.fact i hi
theorem lawF_of (X : K.In h) (G : h.Ns mainGlobals mg) (c : He.SaysD (faOf L) E K) (hL : lwOk L T = true) (hT : okDfs L T E = true) : LawF K mg L T := by
  unfold lwOk at hL
  simp only [Bool.and_eq_true, List.all_eq_true] at hL
  obtain ⟨⟨⟨l1, l2⟩, l3⟩, l4⟩ := hL
  have fa : ∀ {f : He.Fa}, f ∈ faOf L → f.ok K = true := fun hf => fact_of c hf
  refine ⟨fun d hd => ?_, fun x d v hm hv => ?_, fun x hx => ?_, fun f hf => ?_, fun cl m hm => ?_, fun cl hc => ?_, fun cl f hf => ?_⟩
  · obtain ⟨i, e, q1, q2⟩ := okDfs_at hT d hd
    unfold okDf at q2
    simp only [Bool.and_eq_true, decide_eq_true_eq, List.isEmpty_iff] at q2
    obtain ⟨⟨⟨⟨⟨r1, r2⟩, r3⟩, r4⟩, r5⟩, r6⟩ := q2
    obtain ⟨fd, F⟩ := c.def_ i q1
    have F' : FunD K e.name e.qual e.params e.body e.scope [] [] (adr K d.key.1 d.key.2) fd := by
      have e1 : e.dvs K = [] := by unfold He.DefD.dvs; rw [r2]; rfl
      have e2 : e.kws K = [] := by unfold He.DefD.kws; rw [r3]; rfl
      have e3 : He.fAd K e.at_ = adr K d.key.1 d.key.2 := by rw [r1]; rfl
      rw [e1, e2, e3] at F
      exact F
    exact ⟨_, _, _, _, _, fd, F', scB_ok r4, r5, FunD.bindsP F' r6⟩
  · have ok := l1 _ hm
    have mem : ∀ f ∈ conFa (x, d), f ∈ faOf L := fun f hf => by
      unfold faOf
      simp only [List.mem_append, List.mem_flatMap]
      exact .inl (.inl (.inl (.inl (.inl ⟨_, hm, hf⟩))))
    cases d with
    | int i =>
      obtain ⟨t, ht⟩ := He.int_ok X G (fa (mem (.int x i) (List.mem_singleton.mpr rfl)))
      cases hv
      exact ⟨_, ht, t, rfl⟩
    | str z =>
      obtain ⟨t, ht⟩ := He.str_ok X G (fa (mem (.str x z) (List.mem_singleton.mpr rfl)))
      cases hv
      exact ⟨_, ht, t, rfl⟩
    | _ => cases ok
  · exact He.free_ok X G (fa (by unfold faOf; simp only [List.mem_append, List.mem_map]; exact .inl (.inl (.inl (.inl (.inr ⟨x, hx, rfl⟩))))))
  · exact ⟨l2 f hf, He.glo_ok X G (fa (by unfold faOf; simp only [List.mem_append, List.mem_map]; exact .inl (.inl (.inl (.inr ⟨f, hf, rfl⟩)))))⟩
  · have mem : ∀ f ∈ [He.Fa.cls cl, .meth cl m], f ∈ faOf L := fun f hf => by
      unfold faOf
      simp only [List.mem_append, List.mem_flatMap]
      exact .inl (.inl (.inr ⟨_, hm, hf⟩))
    exact ⟨l3 _ hm, He.cls_ok (fa (mem _ (List.mem_cons_self ..))), He.meth_ok (fa (mem _ (List.mem_cons_of_mem _ (List.mem_cons_self ..))))⟩
  · have mem : ∀ f ∈ [He.Fa.cls cl, .glo cl, .mkr cl], f ∈ faOf L := fun f hf => by
      unfold faOf
      simp only [List.mem_append, List.mem_flatMap]
      exact .inl (.inr ⟨_, hc, hf⟩)
    exact ⟨l4 _ hc, He.cls_ok (fa (mem _ (List.mem_cons_self ..))), He.glo_ok X G (fa (mem _ (List.mem_cons_of_mem _ (List.mem_cons_self ..)))), He.mkr_ok (fa (mem _ (List.mem_cons_of_mem _ (List.mem_cons_of_mem _ (List.mem_cons_self ..)))))⟩
  · exact He.noat_ok (fa (by unfold faOf; simp only [List.mem_append, List.mem_map]; exact .inr ⟨_, hf, rfl⟩))
end
end Mp
set_option Elab.async false
set_option linter.all false
set_option maxRecDepth 100000
set_option maxHeartbeats 4000000
/-! Mv: the law's end: what the evaluator says of "law" is the promise that the head asks. -/
namespace Mp
open PySem PySem.Spec PyProof.Rows L2 StX ItX
theorem rl_nil {K : PySem.W.Frag} {H : Hp} (hO : Only H) : Rl K (fun _ => False) (fun _ => 0) [] [] H where
  len := rfl
  nd := fun i j a o u e1 => by simp at e1
  ob := fun k a o e1 => by simp at e1
  th := fun a ⟨k, o, e1, _⟩ => by simp at e1
  zp := fun k xs ys e => by simp at e
  gd := fun a h => h.elim
  gm := fun a ⟨k, o, e1, _⟩ => by simp at e1
  sm := fun a xs h => by
    rcases hO a with q | ⟨o, ys, q⟩
    · rcases h with h | ⟨o, h⟩ <;> rw [q] at h <;> cases h
    · rcases h with h | ⟨o, h⟩ <;> rw [q] at h <;> cases h
theorem scr_of {K : PySem.W.Frag} {H : Hp} {N : Addr → Prop} {a : Addr} {ns : List Int} (hO : Only H) (hl : ns.length ≤ sizeLine) (hN : ∀ a, ¬ N a) (hS : SqL K H a (ns.map V.int)) : ScrOk K N H ns a := by
  refine ⟨hl, ?_⟩
  rcases hS with (h | ⟨o, h⟩) | h
  · rcases hO a with q | ⟨o, ys, q⟩ <;> rw [q] at h <;> cases h
  · exact .inl ⟨o, h, hN a⟩
  · exact .inr h
section
variable {P : Program} {w : World} {K : PySem.W.Frag} {mg : Str → Option Value} {h : Heap} {L : Lw} {T : List Df} {E : List He.DefD} {f : Addr} {d : Df} {x : Str} {n : Nat}
theorem law_facts (X : K.In h) (G : h.Ns mainGlobals mg) (hfa : mg ("law" : Str) = some (.ref f)) (c : He.SaysD (faOf L) E K) (hL : lwOk L T = true) (hT : okDfs L T E = true) (hf : ("law" : Str) ∈ L.funs) (hd : find T "law" none = some d) (hp : d.ps = [x])
    (hev : ∀ ns : List Int, ns.length ≤ 63 → ∃ h', callN T ns n "law" none [.scr] [] = some (.d (.bool true), h')) :
    ∃ (fd : FuncData) (sp : Sp), (∀ (s : Shared) (u : Value), BindsTo s fd ⟨[u], []⟩ [(x, u)]) ∧ (∀ (H : Hp) (a : Addr) (ns : List Int), ns.length ≤ 63 → Only H → SqL K H a (ns.map V.int) → sp [.ref a] H (fun v _ => v = .bl true) fun _ _ _ => False) ∧
      ∀ base : Heap, K.In base → base.Ns mainGlobals mg → FnOk P w K mg base CX0 (2 * n) f fd [x] sp := by
  have F := lawF_of X G c hL hT
  obtain ⟨m1, k1⟩ := find_is hd
  obtain ⟨_, g⟩ := F.funs _ hf
  have ef : f = adr K d.key.1 d.key.2 := by
    rw [hfa] at g
    cases g
    rw [k1]
    rfl
  obtain ⟨i, e, q1, q2⟩ := okDfs_at hT d m1
  unfold okDf at q2
  simp only [Bool.and_eq_true, decide_eq_true_eq, List.isEmpty_iff] at q2
  obtain ⟨⟨⟨⟨⟨r1, r2⟩, r3⟩, r4⟩, r5⟩, r6⟩ := q2
  obtain ⟨fd, Fd⟩ := c.def_ i q1
  have e1 : e.dvs K = [] := by unfold He.DefD.dvs; rw [r2]; rfl
  have e2 : e.kws K = [] := by unfold He.DefD.kws; rw [r3]; rfl
  have e3 : He.fAd K e.at_ = adr K d.key.1 d.key.2 := by rw [r1]; rfl
  rw [e1, e2, e3] at Fd
  have bd := FunD.bindsP Fd r6
  have lk : ∃ oc od osl, K.lookup (adr K d.key.1 d.key.2) = some ⟨oc, od, .func fd, osl⟩ := by
    obtain ⟨oc', od', _, _, _, _, _, _, _, osl', _, lk', _⟩ := Fd.ex
    exact ⟨_, _, _, lk'⟩
  have ok : ∀ (ns : List Int) (base : Heap), FnOk P w K mg base CX0 (2 * n) f fd [x] (spC K ns (callN T ns n) "law" none) := fun ns base => by
    have z := defs_ok (P := P) (w := w) (base := base) (scr := ns) F n d m1 (by rw [k1]; exact hd) fd bd lk
    rw [← ef, hp, k1] at z
    exact z
  refine ⟨fd, fun vs H Q E => ∃ ns : List Int, spC K ns (callN T ns n) "law" none vs H Q E, fun s u => ?_, fun H a ns hl hO hS => ⟨ns, ?_⟩, fun base hb hn => ⟨fun vs H Q E ⟨ns, q⟩ => (ok ns base).len vs H Q E q, fun A outer s H args us vs Q E hr he hb hv ⟨ns, q⟩ => (ok ns base).run A outer s H args us vs Q E hr he hb hv q⟩⟩
  · have := FunD.bindsPA Fd r6 s [u] (by rw [hp]; rfl)
    rw [hp] at this
    exact this
  · obtain ⟨h', hq⟩ := hev ns hl
    refine ⟨fun _ => False, fun _ => 0, [], [], [.scr], .d (.bool true), h', rl_nil hO, ⟨⟨a, rfl, scr_of hO (Nat.le_trans hl (by rw [sizeLine_eq]; omega)) (fun a z => ?_) hS⟩, trivial⟩, hq, fun v m' H' s r => r⟩
    rcases z with ⟨k, o, e1, _⟩ | z
    · simp at e1
    · exact z
end
end Mp
set_option Elab.async false
set_option linter.all false
set_option maxRecDepth 100000
/-! Pa: how the evaluator is walked: results, calls, places, walks. Plain Lean. -/
namespace Mp
open PySem

/-- some result, and it is so -/
def Sat {α : Type} (o : Option α) (Q : α → Prop) : Prop := ∃ a, o = some a ∧ Q a
section
variable {α β : Type} {o : Option α} {f : α → Option β} {P Q : α → Prop} {R : β → Prop}
theorem Sat.bind (h : Sat o P) (k : ∀ a, P a → Sat (f a) R) : Sat (o.bind f) R := by
  obtain ⟨a, e, p⟩ := h
  rw [e]
  exact k a p
theorem Sat.mono (h : Sat o P) (k : ∀ a, P a → Q a) : Sat o Q := by
  obtain ⟨a, e, p⟩ := h
  exact ⟨a, e, k a p⟩
theorem Sat.some {a : α} (h : Q a) : Sat (some a) Q := ⟨a, rfl, h⟩
theorem Sat.of_eq {a : α} (e : o = Option.some a) (h : Q a) : Sat o Q := ⟨a, e, h⟩
end

/-- a def's end -/
def endOf (fresh : Bool) (base : Nat) (r : Out × Ev × Hm) : R1 := match r.1 with
  | .ret v => fin fresh base v r.2.2
  | .next => fin fresh base (.d .none) r.2.2
  | _ => none
theorem callN_eq {T : List Df} {scr : List Int} {n : Nat} {f : Str} {m : Option Str} {vs : List EV} {h : Hm} {d : Df} (hf : find T f m = some d) (hl : vs.length = d.ps.length) :
    callN T scr (n + 1) f m vs h = (evSs ⟨callN T scr n, scr, h.length⟩ d.body (start d.N vs) h).bind (endOf d.fresh h.length) := by
  show (match find T f m with
    | none => none
    | some d => if vs.length = d.ps.length then
        (evSs ⟨callN T scr n, scr, h.length⟩ d.body (start d.N vs) h).bind fun r => match r.1 with
          | .ret v => fin d.fresh h.length v r.2.2
          | .next => fin d.fresh h.length (.d .none) r.2.2
          | _ => none
      else none) = _
  rw [hf]
  simp only [hl, if_true]
  rfl

/-! ### places -/
theorem atI_nat {α : Type} (xs : List α) (j : Nat) : atI xs (j : Int) = xs[j]? := by
  unfold atI ixN
  rw [if_pos (Int.natCast_nonneg j)]
  split
  · simp
  · rename_i h
    have : xs.length ≤ j := by omega
    rw [List.getElem?_eq_none this]
    rfl
theorem atI_0 {α : Type} (xs : List α) : atI xs 0 = xs[0]? := atI_nat xs 0
theorem atI_1 {α : Type} (xs : List α) : atI xs 1 = xs[1]? := atI_nat xs 1
theorem atI_2 {α : Type} (xs : List α) : atI xs 2 = xs[2]? := atI_nat xs 2
theorem ixN_nat {n j : Nat} (h : j < n) : ixN n (j : Int) = some j := by
  unfold ixN
  rw [if_pos (Int.natCast_nonneg j), if_pos (by omega)]
  rfl
theorem atI_neg {α : Type} (xs : List α) (k : Nat) (hk : 1 ≤ k) (h : k ≤ xs.length) : atI xs (-(k : Int)) = xs[xs.length - k]? := by
  unfold atI ixN
  rw [if_neg (by omega), if_pos (by omega)]
  show xs[(-(k : Int) + xs.length).toNat]? = _
  congr 1
  omega
theorem atI_last {α : Type} (xs : List α) (a : α) : atI (xs ++ [a]) (-1) = some a := by
  have := atI_neg (xs ++ [a]) 1 (Nat.le_refl _) (by simp)
  rw [show (-1 : Int) = -((1 : Nat) : Int) from rfl, this]
  simp

/-! ### walks -/
/-- a comprehension that leaves the heap alone -/
theorem compL_flat {step : D → List D → Hm → Option (List D × Hm)} {g : D → List D} {h : Hm} : ∀ (xs acc : List D), (∀ x ∈ xs, ∀ acc, step x acc h = some (acc ++ g x, h)) → compL step xs acc h = some (acc ++ xs.flatMap g, h)
  | [], acc, _ => by simp [compL]
  | x :: xs, acc, hs => by
    unfold compL
    rw [hs x (List.mem_cons_self ..) acc]
    show compL step xs (acc ++ g x) h = _
    rw [compL_flat xs _ fun y hy => hs y (List.mem_cons_of_mem _ hy)]
    simp
/-- .. over the images of a list -/
theorem compL_map {α : Type} {step : D → List D → Hm → Option (List D × Hm)} {i : α → D} {g : α → D} {h : Hm} : ∀ (xs : List α) (acc : List D), (∀ x ∈ xs, ∀ acc, step (i x) acc h = some (acc ++ [g x], h)) → compL step (xs.map i) acc h = some (acc ++ xs.map g, h)
  | [], acc, _ => by simp [compL]
  | x :: xs, acc, hs => by
    rw [List.map_cons]
    unfold compL
    rw [hs x (List.mem_cons_self ..) acc]
    show compL step (xs.map i) (acc ++ [g x]) h = _
    rw [compL_map xs _ fun y hy => hs y (List.mem_cons_of_mem _ hy)]
    simp
theorem compL_filter {α : Type} {step : D → List D → Hm → Option (List D × Hm)} {i : α → D} {p : α → Bool} {g : α → D} {h : Hm} : ∀ (xs : List α) (acc : List D), (∀ x ∈ xs, ∀ acc, step (i x) acc h = some (if p x then acc ++ [g x] else acc, h)) → compL step (xs.map i) acc h = some (acc ++ (xs.filter p).map g, h)
  | [], acc, _ => by simp [compL]
  | x :: xs, acc, hs => by
    rw [List.map_cons]
    unfold compL
    rw [hs x (List.mem_cons_self ..) acc]
    show compL step (xs.map i) (if p x then acc ++ [g x] else acc) h = _
    rw [compL_filter xs _ fun y hy => hs y (List.mem_cons_of_mem _ hy)]
    cases q : p x <;> simp [q]
theorem compL_bind {α β : Type} {step : D → List D → Hm → Option (List D × Hm)} {i : α → D} {g : α → List β} {k : β → D} {h : Hm} : ∀ (xs : List α) (acc : List D), (∀ x ∈ xs, ∀ acc, step (i x) acc h = some (acc ++ (g x).map k, h)) → compL step (xs.map i) acc h = some (acc ++ (xs.flatMap g).map k, h)
  | [], acc, _ => by simp [compL]
  | x :: xs, acc, hs => by
    rw [List.map_cons]
    unfold compL
    rw [hs x (List.mem_cons_self ..) acc]
    show compL step (xs.map i) (acc ++ (g x).map k) h = _
    rw [compL_bind xs _ fun y hy => hs y (List.mem_cons_of_mem _ hy)]
    simp
/-- .. with what stands between two turns: turns done, result, heap -/
theorem compL_inv {step : D → List D → Hm → Option (List D × Hm)} (I : Nat → List D → Hm → Prop) : ∀ (xs : List D) (k : Nat) (acc : List D) (h : Hm), I k acc h → (∀ (i : Nat) (x : D), xs[i]? = some x → ∀ acc h, I (k + i) acc h → Sat (step x acc h) fun r => I (k + i + 1) r.1 r.2) →
    Sat (compL step xs acc h) fun r => I (k + xs.length) r.1 r.2
  | [], k, acc, h, hi, _ => ⟨_, rfl, hi⟩
  | x :: xs, k, acc, h, hi, hs => by
    unfold compL
    refine Sat.bind (hs 0 x rfl acc h hi) fun r hr => ?_
    have := compL_inv I xs (k + 1) r.1 r.2 hr fun i y hy acc h q => by
      have z := hs (i + 1) y hy acc h (by rw [show k + (i + 1) = k + 1 + i by omega]; exact q)
      rw [show k + (i + 1) + 1 = k + 1 + i + 1 by omega] at z
      exact z
    refine this.mono fun r q => ?_
    rw [show k + (x :: xs).length = k + 1 + xs.length by simp; omega]
    exact q
/-- a for loop whose turns neither break nor return -/
theorem forL_inv {step : D → Ev → Hm → Option (Out × Ev × Hm)} (I : Nat → Ev → Hm → Prop) : ∀ (xs : List D) (k : Nat) (env : Ev) (h : Hm), I k env h → (∀ (i : Nat) (x : D), xs[i]? = some x → ∀ env h, I (k + i) env h → Sat (step x env h) fun r => r.1 = .next ∧ I (k + i + 1) r.2.1 r.2.2) →
    Sat (forL step xs env h) fun r => r.1 = .next ∧ I (k + xs.length) r.2.1 r.2.2
  | [], k, env, h, hi, _ => ⟨_, rfl, rfl, hi⟩
  | x :: xs, k, env, h, hi, hs => by
    unfold forL
    refine Sat.bind (hs 0 x rfl env h hi) fun r hr => ?_
    rw [hr.1]
    have := forL_inv I xs (k + 1) r.2.1 r.2.2 hr.2 fun i y hy env h q => by
      have z := hs (i + 1) y hy env h (by rw [show k + (i + 1) = k + 1 + i by omega]; exact q)
      rw [show k + (i + 1) + 1 = k + 1 + i + 1 by omega] at z
      exact z
    refine this.mono fun r q => ⟨q.1, ?_⟩
    rw [show k + (x :: xs).length = k + 1 + xs.length by simp; omega]
    exact q.2
/-- a for loop that may return -/
theorem forL_inv_ret {step : D → Ev → Hm → Option (Out × Ev × Hm)} (I : Nat → Ev → Hm → Prop) (B : EV → Hm → Prop) : ∀ (xs : List D) (k : Nat) (env : Ev) (h : Hm), I k env h → (∀ (i : Nat) (x : D), xs[i]? = some x → ∀ env h, I (k + i) env h → Sat (step x env h) fun r => (r.1 = .next ∧ I (k + i + 1) r.2.1 r.2.2) ∨ ∃ v, r.1 = .ret v ∧ B v r.2.2) →
    Sat (forL step xs env h) fun r => (r.1 = .next ∧ I (k + xs.length) r.2.1 r.2.2) ∨ ∃ v, r.1 = .ret v ∧ B v r.2.2
  | [], k, env, h, hi, _ => ⟨_, rfl, .inl ⟨rfl, hi⟩⟩
  | x :: xs, k, env, h, hi, hs => by
    unfold forL
    refine Sat.bind (hs 0 x rfl env h hi) fun r hr => ?_
    rcases hr with ⟨e, hr⟩ | ⟨v, e, hr⟩
    · rw [e]
      have := forL_inv_ret I B xs (k + 1) r.2.1 r.2.2 hr fun i y hy env h q => by
        have z := hs (i + 1) y hy env h (by rw [show k + (i + 1) = k + 1 + i by omega]; exact q)
        rw [show k + (i + 1) + 1 = k + 1 + i + 1 by omega] at z
        exact z
      refine this.mono fun r q => ?_
      rw [show k + (x :: xs).length = k + 1 + xs.length by simp; omega]
      exact q
    · rw [e]
      exact ⟨_, rfl, .inr ⟨v, rfl, hr⟩⟩
/-- a while loop with a measure -/
theorem whileL_inv {test : Ev → Hm → Option (Bool × Hm)} {body : Ev → Hm → Option (Out × Ev × Hm)} (I : Nat → Ev → Hm → Prop) (E : Ev → Hm → Prop)
    (hs : ∀ k env h, I k env h → Sat (test env h) fun t => (t.1 = false ∧ E env t.2) ∨ (t.1 = true ∧ Sat (body env t.2) fun r => r.1 = .next ∧ ∃ k', k' < k ∧ I k' r.2.1 r.2.2)) :
    ∀ (n k : Nat) (env : Ev) (h : Hm), I k env h → k < n → Sat (whileL test body n env h) fun r => r.1 = .next ∧ E r.2.1 r.2.2
  | 0, k, env, h, hi, hk => absurd hk (Nat.not_lt_zero _)
  | n + 1, k, env, h, hi, hk => by
    unfold whileL
    refine Sat.bind (hs k env h hi) fun t ht => ?_
    rcases ht with ⟨e, ht⟩ | ⟨e, ht⟩
    · rw [e]
      exact ⟨_, rfl, rfl, ht⟩
    · rw [e]
      refine Sat.bind ht fun r hr => ?_
      obtain ⟨e2, k', l, hr⟩ := hr
      rw [e2]
      exact whileL_inv I E hs n k' r.2.1 r.2.2 hr (by omega)
end Mp
set_option Elab.async false
set_option linter.all false
set_option maxRecDepth 100000
/-! Pv: the evaluator's equations without lambdas: what is left to do is a term that waits for a value. -/
namespace Mp
open PySem
abbrev RI := Option (List D × Hm)
abbrev RS := Option (Out × Ev × Hm)
def kVar (o : Option (Option EV)) (h : Hm) : R1 := match o with | some (some v) => some (v, h) | _ => none
def kUn (c : Cl) (o : UOp) (x : R1) : R1 := x.bind fun r => unOp c o r.1 r.2
def kBin2 (c : Cl) (o : BOp) (v : EV) (x : R1) : R1 := x.bind fun s => binOp c o v s.1 s.2
def kBin (c : Cl) (o : BOp) (b : ME) (env : Ev) (x : R1) : R1 := x.bind fun r => if pre o r.1 r.2 = true then (evE c b env r.2).bind fun s => binOp c o r.1 s.1 s.2 else none
def kCh3 (c : Cl) (o2 : BOp) (w : EV) (d : ME) (env : Ev) (x : R1) : R1 := x.bind fun t => match t.1 with
    | .d (.bool true) => (evE c d env t.2).bind fun u => binOp c o2 w u.1 u.2
    | .d (.bool false) => pu (.bool false) t.2
    | _ => none
def kCh2 (c : Cl) (o1 o2 : BOp) (v : EV) (d : ME) (env : Ev) (x : R1) : R1 := x.bind fun s => kCh3 c o2 s.1 d env (binOp c o1 v s.1 s.2)
def kCh1 (c : Cl) (o1 o2 : BOp) (b d : ME) (env : Ev) (x : R1) : R1 := x.bind fun r => kCh2 c o1 o2 r.1 d env (evE c b env r.2)
def kAnd1 (c : Cl) (b : ME) (env : Ev) (v : EV) (h : Hm) (k : Option Bool) : R1 := k.bind fun k => match k with | true => evE c b env h | false => some (v, h)
def kOr1 (c : Cl) (b : ME) (env : Ev) (v : EV) (h : Hm) (k : Option Bool) : R1 := k.bind fun k => match k with | true => some (v, h) | false => evE c b env h
def kNot1 (h : Hm) (k : Option Bool) : R1 := k.bind fun k => pu (.bool (!k)) h
def kIte1 (c : Cl) (a b : ME) (env : Ev) (h : Hm) (k : Option Bool) : R1 := k.bind fun k => match k with | true => evE c a env h | false => evE c b env h
def kAnd (c : Cl) (b : ME) (env : Ev) (x : R1) : R1 := x.bind fun r => kAnd1 c b env r.1 r.2 (tru c r.1 r.2)
def kOr (c : Cl) (b : ME) (env : Ev) (x : R1) : R1 := x.bind fun r => kOr1 c b env r.1 r.2 (tru c r.1 r.2)
def kNot (c : Cl) (x : R1) : R1 := x.bind fun r => kNot1 r.2 (tru c r.1 r.2)
def kIte (c : Cl) (a b : ME) (env : Ev) (x : R1) : R1 := x.bind fun r => kIte1 c a b env r.2 (tru c r.1 r.2)
def kTup (x : RI) : R1 := x.bind fun r => if r.1.length ≤ most then pu (.tuple r.1) r.2 else none
def kLst (m : Bool) (x : RI) : R1 := x.bind fun r => if r.1.length ≤ most then some (mkL m r.1 r.2) else none
def kSl4 (c : Cl) (m : Bool) (v : EV) (l : Option Int) (h : Hm) (u : Option (Option Int)) : R1 := u.bind fun u => slOp c m v l u h
def kSl3 (c : Cl) (m : Bool) (v : EV) (l : Option Int) (hi : ME) (x : R1) : R1 := x.bind fun t => kSl4 c m v l t.2 (partD hi t.1)
def kSl2 (c : Cl) (m : Bool) (v : EV) (hi : ME) (env : Ev) (h : Hm) (l : Option (Option Int)) : R1 := l.bind fun l => kSl3 c m v l hi (evE c hi env h)
def kSl1 (c : Cl) (m : Bool) (v : EV) (lo hi : ME) (env : Ev) (x : R1) : R1 := x.bind fun s => kSl2 c m v hi env s.2 (partD lo s.1)
def kSl (c : Cl) (m : Bool) (lo hi : ME) (env : Ev) (x : R1) : R1 := x.bind fun r => kSl1 c m r.1 lo hi env (evE c lo env r.2)
abbrev RV := Option (List EV × Hm)
def kCall (c : Cl) (f : Str) (x : RV) : R1 := x.bind fun r => c.call f none r.1 r.2
def kMeth2 (c : Cl) (k m : Str) (j : Nat) (x : RV) : R1 := x.bind fun r => c.call k (some m) (.ref j :: r.1) r.2
def kMeth1 (c : Cl) (k m : Str) (es : MEs) (env : Ev) (h : Hm) (j : Nat) (o : Option MO) : R1 := match o with
  | some (.ins k' _) => if k' = k then kMeth2 c k m j (evVs c es env h) else none
  | _ => none
def kMeth (c : Cl) (k m : Str) (es : MEs) (env : Ev) (h : Hm) (o : Option (Option EV)) : R1 := match o with
  | some (some (.ref j)) => kMeth1 c k m es env h j (h[j]?)
  | _ => none
def kLenm2 (x : R1) : R1 := x.bind fun r => match r.1 with
  | .d (.int n) => if 0 ≤ n ∧ n < 2 ^ 63 then some (.d (.int n), r.2) else none
  | _ => none
def kLenm1 (c : Cl) (k : Str) (h : Hm) (j : Nat) (o : Option MO) : R1 := match o with
  | some (.ins k' _) => if k' = k then kLenm2 (c.call k (some "__len__") [.ref j] h) else none
  | _ => none
def kLenm (c : Cl) (k : Str) (h : Hm) (o : Option (Option EV)) : R1 := match o with
  | some (some (.ref j)) => kLenm1 c k h j (h[j]?)
  | _ => none
def kMake2 (n : Nat) (x : R1) : R1 := x.bind fun s => match s.1 with
  | .d .none => some (.ref n, s.2)
  | _ => none
def kMake (c : Cl) (k : Str) (x : RV) : R1 := x.bind fun r => kMake2 r.2.length (c.call k (some "__init__") (.ref r.2.length :: r.1) (r.2 ++ [.ins k []]))
def kZip4 (xs : List D) (x : RI) : R1 := x.bind fun y => some (.ref y.2.length, y.2 ++ [.zp xs y.1, .aux, .aux, .aux, .aux])
def kZip3 (w : EV) (x : RI) : R1 := x.bind fun x => kZip4 x.1 (frz w x.2)
def kZip2 (v : EV) (x : R1) : R1 := x.bind fun s => kZip3 s.1 (frz v s.2)
def kZip (c : Cl) (b : ME) (env : Ev) (x : R1) : R1 := x.bind fun r => kZip2 r.1 (evE c b env r.2)
def kTupEn2 (x : Option (D × Hm)) : R1 := x.bind fun x => match x.1 with
  | .list xs => pu (.tuple (enumD xs)) x.2
  | _ => none
def kTupEn (x : R1) : R1 := x.bind fun r => kTupEn2 (toD r.1 r.2)
def kLstRg (m : Bool) (x : R1) : R1 := x.bind fun r => match r.1 with
  | .d (.int n) => if n ≤ most ∧ -(2 ^ 62) ≤ n then some (mkL m (rngD 0 n.toNat) r.2) else none
  | _ => none
/-- a comprehension's turn -/
def kTurn4 (acc : List D) (x : Option (D × Hm)) : RI := x.bind fun z => some (acc ++ [z.1], z.2)
def kTurn3 (acc : List D) (x : R1) : RI := x.bind fun y => kTurn4 acc (toD y.1 y.2)
def kTurn2 (c : Cl) (elt : ME) (env : Ev) (acc : List D) (h : Hm) (k : Option Bool) : RI := k.bind fun b => match b with
  | true => kTurn3 acc (evE c elt env h)
  | false => some (acc, h)
def kTurn1 (c : Cl) (elt : ME) (env : Ev) (acc : List D) (x : R1) : RI := x.bind fun k => kTurn2 c elt env acc k.2 (tru c k.1 k.2)
def kTurn (c : Cl) (elt cond : ME) (acc : List D) (h : Hm) (e : Option Ev) : RI := e.bind fun env1 => kTurn1 c elt env1 acc (evE c cond env1 h)
def turn (c : Cl) (elt : ME) (t : MT) (cond : ME) (own : List Nat) (env : Ev) (x : D) (acc : List D) (h : Hm) : RI := kTurn c elt cond acc h (sto t (.d x) (wipeE env own))
def kLc2 (m : Bool) (x : RI) : R1 := x.bind fun s => if s.1.length ≤ most then some (mkL m s.1 s.2) else none
def kLc (c : Cl) (m : Bool) (elt : ME) (t : MT) (cond : ME) (own : List Nat) (env : Ev) (x : RI) : R1 := x.bind fun r => kLc2 m (compL (turn c elt t cond own env) r.1 [] r.2)
/-- .. of two clauses -/
def kOut3 (c : Cl) (elt : ME) (t2 : MT) (cond2 : ME) (own2 : List Nat) (env1 : Ev) (acc : List D) (x : RI) : RI := x.bind fun r2 => compL (turn c elt t2 cond2 own2 env1) r2.1 acc r2.2
def kOut2 (c : Cl) (elt : ME) (t2 : MT) (it2 : MI) (cond2 : ME) (own2 : List Nat) (env1 : Ev) (acc : List D) (h : Hm) (k : Option Bool) : RI := k.bind fun b => match b with
  | true => kOut3 c elt t2 cond2 own2 env1 acc (evI c it2 env1 h)
  | false => some (acc, h)
def kOut1 (c : Cl) (elt : ME) (t2 : MT) (it2 : MI) (cond2 : ME) (own2 : List Nat) (env1 : Ev) (acc : List D) (x : R1) : RI := x.bind fun k => kOut2 c elt t2 it2 cond2 own2 env1 acc k.2 (tru c k.1 k.2)
def kOut (c : Cl) (elt cond : ME) (t2 : MT) (it2 : MI) (cond2 : ME) (own2 : List Nat) (acc : List D) (h : Hm) (e : Option Ev) : RI := e.bind fun env1 => kOut1 c elt t2 it2 cond2 own2 env1 acc (evE c cond env1 h)
def outer (c : Cl) (elt : ME) (t : MT) (cond : ME) (t2 : MT) (it2 : MI) (cond2 : ME) (own own2 : List Nat) (env : Ev) (x : D) (acc : List D) (h : Hm) : RI := kOut c elt cond t2 it2 cond2 own2 acc h (sto t (.d x) (wipeE env own))
def kLcc (c : Cl) (m : Bool) (elt : ME) (t : MT) (cond : ME) (t2 : MT) (it2 : MI) (cond2 : ME) (own own2 : List Nat) (env : Ev) (x : RI) : R1 := x.bind fun r => kLc2 m (compL (outer c elt t cond t2 it2 cond2 own own2 env) r.1 [] r.2)
def kD3 (x : D) (r : RI) : RI := r.bind fun z => some (x :: z.1, z.2)
def kD2 (c : Cl) (r : MEs) (env : Ev) (x : Option (D × Hm)) : RI := x.bind fun y => kD3 y.1 (evDs c r env y.2)
def kD (c : Cl) (r : MEs) (env : Ev) (x : R1) : RI := x.bind fun x => kD2 c r env (toD x.1 x.2)
def kS3 (xs : List D) (r : RI) : RI := r.bind fun z => some (xs ++ z.1, z.2)
def kS2 (c : Cl) (r : MEs) (env : Ev) (x : RI) : RI := x.bind fun y => kS3 y.1 (evDs c r env y.2)
def kS (c : Cl) (r : MEs) (env : Ev) (x : R1) : RI := x.bind fun x => kS2 c r env (frz x.1 x.2)
def kV2 (v : EV) (r : RV) : RV := r.bind fun z => some (v :: z.1, z.2)
def kV (c : Cl) (r : MEs) (env : Ev) (x : R1) : RV := x.bind fun x => kV2 x.1 (evVs c r env x.2)
def kSeq (x : R1) : RI := x.bind fun r => frz r.1 r.2
def kRng (x : R1) : RI := x.bind fun r => match r.1 with
  | .d (.int n) => if n ≤ most ∧ -(2 ^ 62) ≤ n then some (rngD 0 n.toNat, r.2) else none
  | _ => none
def kRg2 (v : EV) (x : R1) : RI := x.bind fun s => match v, s.1 with
  | .d (.int i), .d (.int j) => if -(2 ^ 60) ≤ i ∧ i ≤ 2 ^ 60 ∧ -(2 ^ 60) ≤ j ∧ j ≤ 2 ^ 60 ∧ j - i ≤ most then some (rngD i (j - i).toNat, s.2) else none
  | _, _ => none
def kRg (c : Cl) (b : ME) (env : Ev) (x : R1) : RI := x.bind fun r => kRg2 r.1 (evE c b env r.2)
def kEn2 (x : RI) : RI := x.bind fun x => some (enumD x.1, x.2)
def kEn (x : R1) : RI := x.bind fun r => kEn2 (frz r.1 r.2)
def kIz4 (xs : List D) (x : RI) : RI := x.bind fun y => some (zipD xs y.1, y.2)
def kIz3 (w : EV) (x : RI) : RI := x.bind fun x => kIz4 x.1 (frz w x.2)
def kIz2 (v : EV) (x : R1) : RI := x.bind fun s => kIz3 s.1 (frz v s.2)
def kIz (c : Cl) (b : ME) (env : Ev) (x : R1) : RI := x.bind fun r => kIz2 r.1 (evE c b env r.2)
def kIv1 (base k : Nat) (h : Hm) (o : Option MO) : RI := match o with
  | some (.zp xs ys) => if base ≤ k then some (zipD xs ys, ((((h.set k .gone).set (k + 1) .gone).set (k + 2) .gone).set (k + 3) .gone).set (k + 4) .gone) else none
  | _ => none
def kIv (base : Nat) (h : Hm) (o : Option (Option EV)) : RI := match o with
  | some (some (.ref k)) => kIv1 base k h (h[k]?)
  | _ => none
/-- statements -/
def kSt (x : Option (Ev × Hm)) : RS := x.bind fun s => some (.next, s)
def kAsg (c : Cl) (t : MA) (env : Ev) (x : R1) : RS := x.bind fun r => kSt (stA c t r.1 env r.2)
def kPar (c : Cl) (ts : MAs) (env : Ev) (x : RV) : RS := x.bind fun r => kSt (stAs c ts r.1 env r.2)
def kEx (env : Ev) (x : R1) : RS := x.bind fun r => some (.next, env, r.2)
def kRet (env : Ev) (x : R1) : RS := x.bind fun r => some (.ret r.1, env, r.2)
def kIf1 (c : Cl) (a b : MSs) (env : Ev) (h : Hm) (k : Option Bool) : RS := k.bind fun k => match k with | true => evSs c a env h | false => evSs c b env h
def kIf (c : Cl) (a b : MSs) (env : Ev) (x : R1) : RS := x.bind fun r => kIf1 c a b env r.2 (tru c r.1 r.2)
def kFT (c : Cl) (body : MSs) (h : Hm) (e : Option Ev) : RS := e.bind fun env => evSs c body env h
def fturn (c : Cl) (t : MT) (body : MSs) (x : D) (env : Ev) (h : Hm) : RS := kFT c body h (sto t (.d x) env)
def kFor (c : Cl) (t : MT) (body : MSs) (env : Ev) (x : RI) : RS := x.bind fun r => forL (fturn c t body) r.1 env r.2
def kWt2 (h : Hm) (k : Option Bool) : Option (Bool × Hm) := k.map fun k => (k, h)
def kWt (c : Cl) (x : R1) : Option (Bool × Hm) := x.bind fun r => kWt2 r.2 (tru c r.1 r.2)
def wtest (c : Cl) (t : ME) (env : Ev) (h : Hm) : Option (Bool × Hm) := kWt c (evE c t env h)
def kSs (c : Cl) (r : MSs) (x : RS) : RS := x.bind fun x => match x.1 with
    | .next => evSs c r x.2.1 x.2.2
    | .brk => some (.brk, x.2)
    | .cont => some (.cont, x.2)
    | .ret v => some (.ret v, x.2)
def kEnd (fresh : Bool) (base : Nat) (x : RS) : R1 := x.bind (endOf fresh base)
/-- stores -/
def kSto (r : MTs) (xs : List D) (x : Option Ev) : Option Ev := x.bind fun e => stos r xs e
def kPt (h : Hm) (x : Option Ev) : Option (Ev × Hm) := x.map fun e => (e, h)
def kFl2 (cl f : Str) (k : Nat) (env : Ev) (x : D) (h : Hm) (o : Option MO) : Option (Ev × Hm) := match o with
  | some (.ins n fs) => if n = cl ∧ fs.length < 900 then some (env, h.set k (.ins n (stA.putF f x fs))) else none
  | _ => none
def kFl1 (cl f : Str) (k : Nat) (env : Ev) (x : Option (D × Hm)) : Option (Ev × Hm) := x.bind fun r => kFl2 cl f k env r.1 r.2 (r.2[k]?)
def kFl (cl f : Str) (v : EV) (env : Ev) (h : Hm) (o : Option (Option EV)) : Option (Ev × Hm) := match o with
  | some (some (.ref k)) => kFl1 cl f k env (toD v h)
  | _ => none
def kSb4 (k : Nat) (i : Int) (env : Ev) (x : D) (h : Hm) (o : Option MO) : Option (Ev × Hm) := match o with
  | some (.lst xs) => (match ixN xs.length i with
    | some j => some (env, h.set k (.lst (xs.set j x)))
    | none => none)
  | _ => none
def kSb3 (k : Nat) (i : Int) (env : Ev) (x : Option (D × Hm)) : Option (Ev × Hm) := x.bind fun x => kSb4 k i env x.1 x.2 (x.2[k]?)
def kSb2 (v : EV) (env : Ev) (r : EV) (x : R1) : Option (Ev × Hm) := x.bind fun s => match r, s.1 with
  | .ref k, .d (.int i) => kSb3 k i env (toD v s.2)
  | _, _ => none
def kSb (c : Cl) (ix : ME) (v : EV) (env : Ev) (x : R1) : Option (Ev × Hm) := x.bind fun r => kSb2 v env r.1 (evE c ix env r.2)
def kAs (c : Cl) (r : MAs) (vs : List EV) (x : Option (Ev × Hm)) : Option (Ev × Hm) := x.bind fun x => stAs c r vs x.1 x.2

theorem evs1 :
    (∀ (c : Cl) (env : Ev) (h : Hm), ∀ i, evE c (.var i) env h = kVar (env[i]?) h) ∧
    (∀ (c : Cl) (env : Ev) (h : Hm), ∀ v, evE c (.con v) env h = some (.d v, h)) ∧
    (∀ (c : Cl) (env : Ev) (h : Hm), ∀ x v, evE c (.gl x v) env h = some (.d v, h)) ∧
    (∀ (c : Cl) (env : Ev) (h : Hm), ∀ o a, evE c (.un o a) env h = kUn c o (evE c a env h)) ∧
    (∀ (c : Cl) (env : Ev) (h : Hm), ∀ o a b, evE c (.bin o a b) env h = kBin c o b env (evE c a env h)) ∧
    (∀ (c : Cl) (env : Ev) (h : Hm), ∀ o1 o2 a b d, evE c (.chain o1 o2 a b d) env h = kCh1 c o1 o2 b d env (evE c a env h)) ∧
    (∀ (c : Cl) (env : Ev) (h : Hm), ∀ a b, evE c (.and a b) env h = kAnd c b env (evE c a env h)) ∧
    (∀ (c : Cl) (env : Ev) (h : Hm), ∀ a b, evE c (.or a b) env h = kOr c b env (evE c a env h)) ∧
    (∀ (c : Cl) (env : Ev) (h : Hm), ∀ a, evE c (.not a) env h = kNot c (evE c a env h)) ∧
    (∀ (c : Cl) (env : Ev) (h : Hm), ∀ t a b, evE c (.ite t a b) env h = kIte c a b env (evE c t env h)) ∧
    (∀ (c : Cl) (env : Ev) (h : Hm), ∀ es, evE c (.tup es) env h = kTup (evDs c es env h)) ∧
    (∀ (c : Cl) (env : Ev) (h : Hm), ∀ m es, evE c (.lst m es) env h = kLst m (evDs c es env h)) ∧
    (∀ (c : Cl) (env : Ev) (h : Hm), ∀ m a lo hi, evE c (.sl m a lo hi) env h = kSl c m lo hi env (evE c a env h)) ∧
    (∀ (c : Cl) (env : Ev) (h : Hm), ∀ f es, evE c (.call f es) env h = kCall c f (evVs c es env h)) ∧
    (∀ (c : Cl) (env : Ev) (h : Hm), ∀ i k m es, evE c (.meth i k m es) env h = kMeth c k m es env h (env[i]?)) ∧
    (∀ (c : Cl) (env : Ev) (h : Hm), ∀ i k, evE c (.lenm i k) env h = kLenm c k h (env[i]?)) ∧
    (∀ (c : Cl) (env : Ev) (h : Hm), ∀ k es, evE c (.make k es) env h = kMake c k (evVs c es env h)) ∧
    (∀ (c : Cl) (env : Ev) (h : Hm), ∀ a b, evE c (.zip a b) env h = kZip c b env (evE c a env h)) ∧
    (∀ (c : Cl) (env : Ev) (h : Hm), ∀ e, evE c (.tupEn e) env h = kTupEn (evE c e env h)) ∧
    (∀ (c : Cl) (env : Ev) (h : Hm), ∀ m e, evE c (.lstRg m e) env h = kLstRg m (evE c e env h)) ∧
    (∀ (c : Cl) (env : Ev) (h : Hm), ∀ m elt t it cond own, evE c (.lc m elt t it cond own) env h = kLc c m elt t cond own env (evI c it env h)) ∧
    (∀ (c : Cl) (env : Ev) (h : Hm), ∀ m elt t it cond t2 it2 cond2 own own2, evE c (.lc2 m elt t it cond t2 it2 cond2 own own2) env h = kLcc c m elt t cond t2 it2 cond2 own own2 env (evI c it env h)) ∧
    (∀ (c : Cl) (env : Ev) (h : Hm), evDs c .nil env h = some ([], h)) ∧
    (∀ (c : Cl) (env : Ev) (h : Hm), ∀ e r, evDs c (.cons e r) env h = kD c r env (evE c e env h)) ∧
    (∀ (c : Cl) (env : Ev) (h : Hm), ∀ e r, evDs c (.star e r) env h = kS c r env (evE c e env h)) ∧
    (∀ (c : Cl) (env : Ev) (h : Hm), evVs c .nil env h = some ([], h)) ∧
    (∀ (c : Cl) (env : Ev) (h : Hm), ∀ e r, evVs c (.cons e r) env h = kV c r env (evE c e env h)) ∧
    (∀ (c : Cl) (env : Ev) (h : Hm), ∀ e, evI c (.seq e) env h = kSeq (evE c e env h)) ∧
    (∀ (c : Cl) (env : Ev) (h : Hm), ∀ e, evI c (.rng e) env h = kRng (evE c e env h)) ∧
    (∀ (c : Cl) (env : Ev) (h : Hm), ∀ a b, evI c (.rng2 a b) env h = kRg c b env (evE c a env h)) ∧
    (∀ (c : Cl) (env : Ev) (h : Hm), ∀ e, evI c (.enum e) env h = kEn (evE c e env h)) ∧
    (∀ (c : Cl) (env : Ev) (h : Hm), ∀ a b, evI c (.zip a b) env h = kIz c b env (evE c a env h)) ∧
    (∀ (c : Cl) (env : Ev) (h : Hm), ∀ i, evI c (.var i) env h = kIv c.base h (env[i]?)) ∧
    (∀ (c : Cl) (env : Ev) (h : Hm), ∀ t v, stA c (.pt t) v env h = kPt h (sto t v env)) ∧
    (∀ (c : Cl) (env : Ev) (h : Hm), ∀ i cl f v, stA c (.fld i cl f) v env h = kFl cl f v env h (env[i]?)) ∧
    (∀ (c : Cl) (env : Ev) (h : Hm), ∀ o ix v, stA c (.sub o ix) v env h = kSb c ix v env (evE c o env h)) ∧
    (∀ (c : Cl) (env : Ev) (h : Hm), stAs c .nil [] env h = some (env, h)) ∧
    (∀ (c : Cl) (env : Ev) (h : Hm), ∀ t r v vs, stAs c (.cons t r) (v :: vs) env h = kAs c r vs (stA c t v env h)) ∧
    (∀ (env : Ev), ∀ i v, sto (.nm i) v env = some (env.set i (some v))) ∧
    (∀ (env : Ev), ∀ ts xs, sto (.tup ts) (.d (.tuple xs)) env = stos ts xs env) ∧
    (∀ (env : Ev), stos .nil [] env = some env) ∧
    (∀ (env : Ev), ∀ t r x xs, stos (.cons t r) (x :: xs) env = kSto r xs (sto t (.d x) env)) ∧
    (∀ (c : Cl) (env : Ev) (h : Hm), ∀ t e, evS c (.asg t e) env h = kAsg c t env (evE c e env h)) ∧
    (∀ (c : Cl) (env : Ev) (h : Hm), ∀ ts es, evS c (.par ts es) env h = kPar c ts env (evVs c es env h)) ∧
    (∀ (c : Cl) (env : Ev) (h : Hm), ∀ e, evS c (.expr e) env h = kEx env (evE c e env h)) ∧
    (∀ (c : Cl) (env : Ev) (h : Hm), ∀ e, evS c (.ret e) env h = kRet env (evE c e env h)) ∧
    (∀ (c : Cl) (env : Ev) (h : Hm), evS c .retN env h = some (.ret (.d .none), env, h)) ∧
    (∀ (c : Cl) (env : Ev) (h : Hm), ∀ t a b, evS c (.ifs t a b) env h = kIf c a b env (evE c t env h)) ∧
    (∀ (c : Cl) (env : Ev) (h : Hm), ∀ t it body, evS c (.for_ t it body) env h = kFor c t body env (evI c it env h)) ∧
    (∀ (c : Cl) (env : Ev) (h : Hm), ∀ t body, evS c (.while_ t body) env h = whileL (wtest c t) (evSs c body) fuelW env h) ∧
    (∀ (c : Cl) (env : Ev) (h : Hm), evS c .brk env h = some (.brk, env, h)) ∧
    (∀ (c : Cl) (env : Ev) (h : Hm), evS c .cont env h = some (.cont, env, h)) ∧
    (∀ (c : Cl) (env : Ev) (h : Hm), evS c .pass env h = some (.next, env, h)) ∧
    (∀ (c : Cl) (env : Ev) (h : Hm), evSs c .nil env h = some (.next, env, h)) ∧
    (∀ (c : Cl) (env : Ev) (h : Hm), ∀ s r, evSs c (.cons s r) env h = kSs c r (evS c s env h)) := by
  refine ⟨?_, ?_, ?_, ?_, ?_, ?_, ?_, ?_, ?_, ?_, ?_, ?_, ?_, ?_, ?_, ?_, ?_, ?_, ?_, ?_, ?_, ?_, ?_, ?_, ?_, ?_, ?_, ?_, ?_, ?_, ?_, ?_, ?_, ?_, ?_, ?_, ?_, ?_, ?_, ?_, ?_, ?_, ?_, ?_, ?_, ?_, ?_, ?_, ?_, ?_, ?_, ?_, ?_, ?_, ?_⟩
  all_goals intros
  all_goals first | rfl | (unfold kMeth1; exact if_pos rfl) | (unfold kLenm1; exact if_pos rfl) | (simp only [unOp, rd, rdn, intsD', seqD, rmap_all, rmap_ints, Option.bind_some]; done) | (rename_i a b; by_cases hd : a.depth ≤ 64 <;> simp only [binOp, rd, eqD, hd, if_true, if_false]; done) | (simp only [binOp, rd, seqD, eqD, Option.bind_some]; done) | skip

end Mp
set_option Elab.async false
set_option linter.all false
set_option maxRecDepth 100000
/-! Pw: what waits, met by a value. -/
namespace Mp
open PySem
theorem rmap_all {bs : List Bool} : boolsD (bs.map PyData.bool) = some bs := by
  induction bs with
  | nil => rfl
  | cons b bs ih => simp only [List.map_cons, boolsD, ih, Option.map_some]
theorem rmap_ints {ns : List Int} : intsD (ns.map PyData.int) = some ns := by
  induction ns with
  | nil => rfl
  | cons b bs ih => simp only [List.map_cons, intsD, ih, Option.map_some]
theorem evs2 :
    (∀ v h, kVar (some (some v)) h = some (v, h)) ∧
    (∀ (c : Cl) (h : Hm), ∀ o v, kUn c o (some (v, h)) = unOp c o v h) ∧
    (∀ (c : Cl) (h : Hm), ∀ o v w, kBin2 c o v (some (w, h)) = binOp c o v w h) ∧
    (∀ (c : Cl) (env : Ev) (h : Hm), ∀ o b v, kBin c o b env (some (v, h)) = if pre o v h = true then kBin2 c o v (evE c b env h) else none) ∧
    (∀ (c : Cl) (env : Ev) (h : Hm), ∀ o w d, kCh3 c o w d env (some (.d (.bool true), h)) = kBin2 c o w (evE c d env h)) ∧
    (∀ (c : Cl) (env : Ev) (h : Hm), ∀ o w d, kCh3 c o w d env (some (.d (.bool false), h)) = some (.d (.bool false), h)) ∧
    (∀ (c : Cl) (env : Ev) (h : Hm), ∀ o1 o2 v w d, kCh2 c o1 o2 v d env (some (w, h)) = kCh3 c o2 w d env (binOp c o1 v w h)) ∧
    (∀ (c : Cl) (env : Ev) (h : Hm), ∀ o1 o2 b v d, kCh1 c o1 o2 b d env (some (v, h)) = kCh2 c o1 o2 v d env (evE c b env h)) ∧
    (∀ (c : Cl) (env : Ev) (h : Hm), ∀ b v, kAnd1 c b env v h (some true) = evE c b env h) ∧
    (∀ (c : Cl) (env : Ev) (h : Hm), ∀ b v, kAnd1 c b env v h (some false) = some (v, h)) ∧
    (∀ (c : Cl) (env : Ev) (h : Hm), ∀ b v, kOr1 c b env v h (some true) = some (v, h)) ∧
    (∀ (c : Cl) (env : Ev) (h : Hm), ∀ b v, kOr1 c b env v h (some false) = evE c b env h) ∧
    (∀ (h : Hm), ∀ k, kNot1 h (some k) = some (.d (.bool (!k)), h)) ∧
    (∀ (c : Cl) (env : Ev) (h : Hm), ∀ a b, kIte1 c a b env h (some true) = evE c a env h) ∧
    (∀ (c : Cl) (env : Ev) (h : Hm), ∀ a b, kIte1 c a b env h (some false) = evE c b env h) ∧
    (∀ (c : Cl) (env : Ev) (h : Hm), ∀ b v, kAnd c b env (some (v, h)) = kAnd1 c b env v h (tru c v h)) ∧
    (∀ (c : Cl) (env : Ev) (h : Hm), ∀ b v, kOr c b env (some (v, h)) = kOr1 c b env v h (tru c v h)) ∧
    (∀ (c : Cl) (h : Hm), ∀ v, kNot c (some (v, h)) = kNot1 h (tru c v h)) ∧
    (∀ (c : Cl) (env : Ev) (h : Hm), ∀ a b v, kIte c a b env (some (v, h)) = kIte1 c a b env h (tru c v h)) ∧
    (∀ (h : Hm), ∀ xs, kTup (some (xs, h)) = if xs.length ≤ most then some (.d (.tuple xs), h) else none) ∧
    (∀ (h : Hm), ∀ m xs, kLst m (some (xs, h)) = if xs.length ≤ most then some (mkL m xs h) else none) ∧
    (∀ (c : Cl) (env : Ev) (h : Hm), ∀ m v lo hi, kSl c m lo hi env (some (v, h)) = kSl1 c m v lo hi env (evE c lo env h)) ∧
    (∀ (c : Cl) (env : Ev) (h : Hm), ∀ m v lo hi i, kSl1 c m v lo hi env (some (.d (.int i), h)) = kSl3 c m v (some i) hi (evE c hi env h)) ∧
    (∀ (c : Cl) (env : Ev) (h : Hm), ∀ m v hi, kSl1 c m v (.con .none) hi env (some (.d .none, h)) = kSl3 c m v none hi (evE c hi env h)) ∧
    (∀ (c : Cl) (h : Hm), ∀ m v l hi i, kSl3 c m v l hi (some (.d (.int i), h)) = slOp c m v l (some i) h) ∧
    (∀ (c : Cl) (h : Hm), ∀ m v l, kSl3 c m v l (.con .none) (some (.d .none, h)) = slOp c m v l none h) ∧
    (∀ (c : Cl) (h : Hm), ∀ f vs, kCall c f (some (vs, h)) = c.call f none vs h) ∧
    (∀ (c : Cl) (h : Hm), ∀ k m j vs, kMeth2 c k m j (some (vs, h)) = c.call k (some m) (.ref j :: vs) h) ∧
    (∀ (c : Cl) (env : Ev) (h : Hm), ∀ k m es j fs, kMeth1 c k m es env h j (some (.ins k fs)) = kMeth2 c k m j (evVs c es env h)) ∧
    (∀ (c : Cl) (env : Ev) (h : Hm), ∀ k m es j, kMeth c k m es env h (some (some (.ref j))) = kMeth1 c k m es env h j (h[j]?)) ∧
    (∀ (c : Cl) (h : Hm), ∀ k j, kLenm c k h (some (some (.ref j))) = kLenm1 c k h j (h[j]?)) ∧
    (∀ (c : Cl) (h : Hm), ∀ k j fs, kLenm1 c k h j (some (.ins k fs)) = kLenm2 (c.call k (some "__len__") [.ref j] h)) ∧
    (∀ (h : Hm), ∀ n, kLenm2 (some (.d (.int n), h)) = if 0 ≤ n ∧ n < 2 ^ 63 then some (.d (.int n), h) else none) ∧
    (∀ (c : Cl) (h : Hm), ∀ k vs, kMake c k (some (vs, h)) = kMake2 h.length (c.call k (some "__init__") (.ref h.length :: vs) (h ++ [.ins k []]))) ∧
    (∀ (h : Hm), ∀ n, kMake2 n (some (.d .none, h)) = some (.ref n, h)) ∧
    (∀ (c : Cl) (env : Ev) (h : Hm), ∀ b v, kZip c b env (some (v, h)) = kZip2 v (evE c b env h)) ∧
    (∀ (h : Hm), ∀ v w, kZip2 v (some (w, h)) = kZip3 w (frz v h)) ∧
    (∀ (h : Hm), ∀ w xs, kZip3 w (some (xs, h)) = kZip4 xs (frz w h)) ∧
    (∀ (h : Hm), ∀ xs ys, kZip4 xs (some (ys, h)) = some (.ref h.length, h ++ [.zp xs ys, .aux, .aux, .aux, .aux])) ∧
    (∀ (h : Hm), ∀ v, kTupEn (some (v, h)) = kTupEn2 (toD v h)) ∧
    (∀ (h : Hm), ∀ xs, kTupEn2 (some (.list xs, h)) = some (.d (.tuple (enumD xs)), h)) ∧
    (∀ (h : Hm), ∀ m n, kLstRg m (some (.d (.int n), h)) = if n ≤ most ∧ -(2 ^ 62) ≤ n then some (mkL m (rngD 0 n.toNat) h) else none) := by
  refine ⟨?_, ?_, ?_, ?_, ?_, ?_, ?_, ?_, ?_, ?_, ?_, ?_, ?_, ?_, ?_, ?_, ?_, ?_, ?_, ?_, ?_, ?_, ?_, ?_, ?_, ?_, ?_, ?_, ?_, ?_, ?_, ?_, ?_, ?_, ?_, ?_, ?_, ?_, ?_, ?_, ?_, ?_⟩
  all_goals intros
  all_goals first | rfl | (unfold kMeth1; exact if_pos rfl) | (unfold kLenm1; exact if_pos rfl) | (unfold kFl2; simp; done) | (simp only [unOp, rd, rdn, intsD', seqD, rmap_all, rmap_ints, Option.bind_some]; done) | (rename_i a b; by_cases hd : a.depth ≤ 64 <;> simp only [binOp, rd, eqD, hd, if_true, if_false]; done) | (simp only [binOp, rd, seqD, eqD, Option.bind_some]; done) | skip

theorem evs3 :
    (∀ (h : Hm), ∀ acc x, kTurn4 acc (some (x, h)) = some (acc ++ [x], h)) ∧
    (∀ (h : Hm), ∀ acc v, kTurn3 acc (some (v, h)) = kTurn4 acc (toD v h)) ∧
    (∀ (c : Cl) (env : Ev) (h : Hm), ∀ elt acc, kTurn2 c elt env acc h (some true) = kTurn3 acc (evE c elt env h)) ∧
    (∀ (c : Cl) (env : Ev) (h : Hm), ∀ elt acc, kTurn2 c elt env acc h (some false) = some (acc, h)) ∧
    (∀ (c : Cl) (env : Ev) (h : Hm), ∀ elt acc v, kTurn1 c elt env acc (some (v, h)) = kTurn2 c elt env acc h (tru c v h)) ∧
    (∀ (c : Cl) (env : Ev) (h : Hm), ∀ elt cond acc, kTurn c elt cond acc h (some env) = kTurn1 c elt env acc (evE c cond env h)) ∧
    (∀ (c : Cl) (env : Ev) (h : Hm), ∀ elt t cond own x acc, turn c elt t cond own env x acc h = kTurn c elt cond acc h (sto t (.d x) (wipeE env own))) ∧
    (∀ (h : Hm), ∀ m xs, kLc2 m (some (xs, h)) = if xs.length ≤ most then some (mkL m xs h) else none) ∧
    (∀ (c : Cl) (env : Ev) (h : Hm), ∀ m elt t cond own xs, kLc c m elt t cond own env (some (xs, h)) = kLc2 m (compL (turn c elt t cond own env) xs [] h)) ∧
    (∀ (c : Cl) (env : Ev) (h : Hm), ∀ elt t2 cond2 own2 acc xs, kOut3 c elt t2 cond2 own2 env acc (some (xs, h)) = compL (turn c elt t2 cond2 own2 env) xs acc h) ∧
    (∀ (c : Cl) (env : Ev) (h : Hm), ∀ elt t2 it2 cond2 own2 acc, kOut2 c elt t2 it2 cond2 own2 env acc h (some true) = kOut3 c elt t2 cond2 own2 env acc (evI c it2 env h)) ∧
    (∀ (c : Cl) (env : Ev) (h : Hm), ∀ elt t2 it2 cond2 own2 acc, kOut2 c elt t2 it2 cond2 own2 env acc h (some false) = some (acc, h)) ∧
    (∀ (c : Cl) (env : Ev) (h : Hm), ∀ elt t2 it2 cond2 own2 acc v, kOut1 c elt t2 it2 cond2 own2 env acc (some (v, h)) = kOut2 c elt t2 it2 cond2 own2 env acc h (tru c v h)) ∧
    (∀ (c : Cl) (env : Ev) (h : Hm), ∀ elt cond t2 it2 cond2 own2 acc, kOut c elt cond t2 it2 cond2 own2 acc h (some env) = kOut1 c elt t2 it2 cond2 own2 env acc (evE c cond env h)) ∧
    (∀ (c : Cl) (env : Ev) (h : Hm), ∀ elt t cond t2 it2 cond2 own own2 x acc, outer c elt t cond t2 it2 cond2 own own2 env x acc h = kOut c elt cond t2 it2 cond2 own2 acc h (sto t (.d x) (wipeE env own))) ∧
    (∀ (c : Cl) (env : Ev) (h : Hm), ∀ m elt t cond t2 it2 cond2 own own2 xs, kLcc c m elt t cond t2 it2 cond2 own own2 env (some (xs, h)) = kLc2 m (compL (outer c elt t cond t2 it2 cond2 own own2 env) xs [] h)) ∧
    (∀ (h : Hm), ∀ x xs, kD3 x (some (xs, h)) = some (x :: xs, h)) ∧
    (∀ (c : Cl) (env : Ev) (h : Hm), ∀ r x, kD2 c r env (some (x, h)) = kD3 x (evDs c r env h)) ∧
    (∀ (c : Cl) (env : Ev) (h : Hm), ∀ r v, kD c r env (some (v, h)) = kD2 c r env (toD v h)) ∧
    (∀ (h : Hm), ∀ xs ys, kS3 xs (some (ys, h)) = some (xs ++ ys, h)) ∧
    (∀ (c : Cl) (env : Ev) (h : Hm), ∀ r xs, kS2 c r env (some (xs, h)) = kS3 xs (evDs c r env h)) ∧
    (∀ (c : Cl) (env : Ev) (h : Hm), ∀ r v, kS c r env (some (v, h)) = kS2 c r env (frz v h)) ∧
    (∀ (h : Hm), ∀ v vs, kV2 v (some (vs, h)) = some (v :: vs, h)) ∧
    (∀ (c : Cl) (env : Ev) (h : Hm), ∀ r v, kV c r env (some (v, h)) = kV2 v (evVs c r env h)) ∧
    (∀ (h : Hm), ∀ v, kSeq (some (v, h)) = frz v h) ∧
    (∀ (h : Hm), ∀ n, kRng (some (.d (.int n), h)) = if n ≤ most ∧ -(2 ^ 62) ≤ n then some (rngD 0 n.toNat, h) else none) ∧
    (∀ (h : Hm), ∀ i j, kRg2 (.d (.int i)) (some (.d (.int j), h)) = if -(2 ^ 60) ≤ i ∧ i ≤ 2 ^ 60 ∧ -(2 ^ 60) ≤ j ∧ j ≤ 2 ^ 60 ∧ j - i ≤ most then some (rngD i (j - i).toNat, h) else none) ∧
    (∀ (c : Cl) (env : Ev) (h : Hm), ∀ b v, kRg c b env (some (v, h)) = kRg2 v (evE c b env h)) ∧
    (∀ (h : Hm), ∀ xs, kEn2 (some (xs, h)) = some (enumD xs, h)) ∧
    (∀ (h : Hm), ∀ v, kEn (some (v, h)) = kEn2 (frz v h)) ∧
    (∀ (h : Hm), ∀ xs ys, kIz4 xs (some (ys, h)) = some (zipD xs ys, h)) ∧
    (∀ (h : Hm), ∀ w xs, kIz3 w (some (xs, h)) = kIz4 xs (frz w h)) ∧
    (∀ (h : Hm), ∀ v w, kIz2 v (some (w, h)) = kIz3 w (frz v h)) ∧
    (∀ (c : Cl) (env : Ev) (h : Hm), ∀ b v, kIz c b env (some (v, h)) = kIz2 v (evE c b env h)) ∧
    (∀ (h : Hm), ∀ b k, kIv b h (some (some (.ref k))) = kIv1 b k h (h[k]?)) ∧
    (∀ (h : Hm), ∀ b k xs ys, kIv1 b k h (some (.zp xs ys)) = if b ≤ k then some (zipD xs ys, ((((h.set k .gone).set (k + 1) .gone).set (k + 2) .gone).set (k + 3) .gone).set (k + 4) .gone) else none) ∧
    (∀ (env : Ev) (h : Hm), kSt (some (env, h)) = some (.next, env, h)) ∧
    (∀ (c : Cl) (env : Ev) (h : Hm), ∀ t v, kAsg c t env (some (v, h)) = kSt (stA c t v env h)) ∧
    (∀ (c : Cl) (env : Ev) (h : Hm), ∀ ts vs, kPar c ts env (some (vs, h)) = kSt (stAs c ts vs env h)) ∧
    (∀ (env : Ev) (h : Hm), ∀ v, kEx env (some (v, h)) = some (.next, env, h)) ∧
    (∀ (env : Ev) (h : Hm), ∀ v, kRet env (some (v, h)) = some (.ret v, env, h)) ∧
    (∀ (c : Cl) (env : Ev) (h : Hm), ∀ a b, kIf1 c a b env h (some true) = evSs c a env h) ∧
    (∀ (c : Cl) (env : Ev) (h : Hm), ∀ a b, kIf1 c a b env h (some false) = evSs c b env h) ∧
    (∀ (c : Cl) (env : Ev) (h : Hm), ∀ a b v, kIf c a b env (some (v, h)) = kIf1 c a b env h (tru c v h)) ∧
    (∀ (c : Cl) (env : Ev) (h : Hm), ∀ body, kFT c body h (some env) = evSs c body env h) ∧
    (∀ (c : Cl) (env : Ev) (h : Hm), ∀ t body x, fturn c t body x env h = kFT c body h (sto t (.d x) env)) ∧
    (∀ (c : Cl) (env : Ev) (h : Hm), ∀ t body xs, kFor c t body env (some (xs, h)) = forL (fturn c t body) xs env h) ∧
    (∀ (h : Hm), ∀ k, kWt2 h (some k) = some (k, h)) ∧
    (∀ (c : Cl) (h : Hm), ∀ v, kWt c (some (v, h)) = kWt2 h (tru c v h)) ∧
    (∀ (c : Cl) (env : Ev) (h : Hm), ∀ t, wtest c t env h = kWt c (evE c t env h)) ∧
    (∀ (c : Cl) (env : Ev) (h : Hm), ∀ r, kSs c r (some (.next, env, h)) = evSs c r env h) ∧
    (∀ (c : Cl) (env : Ev) (h : Hm), ∀ r, kSs c r (some (.brk, env, h)) = some (.brk, env, h)) ∧
    (∀ (c : Cl) (env : Ev) (h : Hm), ∀ r, kSs c r (some (.cont, env, h)) = some (.cont, env, h)) ∧
    (∀ (c : Cl) (env : Ev) (h : Hm), ∀ r v, kSs c r (some (.ret v, env, h)) = some (.ret v, env, h)) ∧
    (∀ (env : Ev) (h : Hm), ∀ fr b v, kEnd fr b (some (.ret v, env, h)) = fin fr b v h) ∧
    (∀ (env : Ev) (h : Hm), ∀ fr b, kEnd fr b (some (.next, env, h)) = some (.d .none, h.take b)) ∧
    (∀ (env : Ev), ∀ r xs, kSto r xs (some env) = stos r xs env) ∧
    (∀ (env : Ev) (h : Hm), kPt h (some env) = some (env, h)) ∧
    (∀ (env : Ev) (h : Hm), ∀ cl f k x, kFl1 cl f k env (some (x, h)) = kFl2 cl f k env x h (h[k]?)) ∧
    (∀ (env : Ev) (h : Hm), ∀ cl f v k, kFl cl f v env h (some (some (.ref k))) = kFl1 cl f k env (toD v h)) ∧
    (∀ (env : Ev) (h : Hm), ∀ k i x xs, kSb4 k i env x h (some (.lst xs)) = match ixN xs.length i with | some j => some (env, h.set k (.lst (xs.set j x))) | none => none) ∧
    (∀ (env : Ev) (h : Hm), ∀ k i x, kSb3 k i env (some (x, h)) = kSb4 k i env x h (h[k]?)) ∧
    (∀ (env : Ev) (h : Hm), ∀ v k i, kSb2 v env (.ref k) (some (.d (.int i), h)) = kSb3 k i env (toD v h)) ∧
    (∀ (c : Cl) (env : Ev) (h : Hm), ∀ ix v r, kSb c ix v env (some (r, h)) = kSb2 v env r (evE c ix env h)) ∧
    (∀ (c : Cl) (env : Ev) (h : Hm), ∀ r vs, kAs c r vs (some (env, h)) = stAs c r vs env h) ∧
    (∀ (h : Hm), ∀ x fr n, fin fr n (.d x) h = some (.d x, h.take n)) ∧
    (∀ (h : Hm), ∀ xs, frz (.d (.list xs)) h = some (xs, h)) ∧
    (∀ (h : Hm), ∀ xs, frz (.d (.tuple xs)) h = some (xs, h)) := by
  refine ⟨?_, ?_, ?_, ?_, ?_, ?_, ?_, ?_, ?_, ?_, ?_, ?_, ?_, ?_, ?_, ?_, ?_, ?_, ?_, ?_, ?_, ?_, ?_, ?_, ?_, ?_, ?_, ?_, ?_, ?_, ?_, ?_, ?_, ?_, ?_, ?_, ?_, ?_, ?_, ?_, ?_, ?_, ?_, ?_, ?_, ?_, ?_, ?_, ?_, ?_, ?_, ?_, ?_, ?_, ?_, ?_, ?_, ?_, ?_, ?_, ?_, ?_, ?_, ?_, ?_, ?_, ?_, ?_⟩
  all_goals intros
  all_goals first | rfl | (unfold kMeth1; exact if_pos rfl) | (unfold kLenm1; exact if_pos rfl) | (unfold kFl2; simp; done) | (simp only [unOp, rd, rdn, intsD', seqD, rmap_all, rmap_ints, Option.bind_some]; done) | (rename_i a b; by_cases hd : a.depth ≤ 64 <;> simp only [binOp, rd, eqD, hd, if_true, if_false]; done) | (simp only [binOp, rd, seqD, eqD, Option.bind_some]; done) | skip

/-- operations -/
theorem evs4 :
    (∀ (c : Cl) (h : Hm), ∀ b, tru c (.d (.bool b)) h = some b) ∧
    (∀ (c : Cl) (h : Hm), ∀ i, tru c (.d (.int i)) h = some (i != 0)) ∧
    (∀ (c : Cl) (h : Hm), tru c (.d .none) h = some false) ∧
    (∀ (c : Cl) (h : Hm), ∀ xs, tru c (.d (.list xs)) h = some (!xs.isEmpty)) ∧
    (∀ (c : Cl) (h : Hm), ∀ xs, tru c (.d (.tuple xs)) h = some (!xs.isEmpty)) ∧
    (∀ (h : Hm), ∀ x, toD (.d x) h = some (x, h)) ∧
    (∀ (h : Hm), ∀ xs, mkL false xs h = (.d (.list xs), h)) ∧
    (∀ (h : Hm), ∀ xs, mkL true xs h = (.ref h.length, h ++ [.lst xs])) ∧
    (∀ (c : Cl) (h : Hm), ∀ i, unOp c .neg (.d (.int i)) h = some (.d (.int (-i)), h)) ∧
    (∀ (c : Cl) (h : Hm), ∀ xs, unOp c .len (.d (.list xs)) h = some (.d (.int xs.length), h)) ∧
    (∀ (c : Cl) (h : Hm), ∀ xs, unOp c .len (.d (.tuple xs)) h = some (.d (.int xs.length), h)) ∧
    (∀ (c : Cl) (h : Hm), unOp c .len .scr h = some (.d (.int (c.scr.map PyData.int).length), h)) ∧
    (∀ (c : Cl) (h : Hm), ∀ i, unOp c .abs (.d (.int i)) h = some (.d (.int (if i < 0 then -i else i)), h)) ∧
    (∀ (c : Cl) (h : Hm), ∀ i, unOp c .int (.d (.int i)) h = some (.d (.int i), h)) ∧
    (∀ (c : Cl) (h : Hm), ∀ b, unOp c .int (.d (.bool b)) h = some (.d (.int (if b = true then 1 else 0)), h)) ∧
    (∀ (c : Cl) (h : Hm), ∀ xs, unOp c .tuple (.d (.list xs)) h = some (.d (.tuple xs), h)) ∧
    (∀ (c : Cl) (h : Hm), ∀ xs, unOp c .tuple (.d (.tuple xs)) h = some (.d (.tuple xs), h)) ∧
    (∀ (c : Cl) (h : Hm), ∀ m xs, unOp c (.list m) (.d (.list xs)) h = some (mkL m xs h)) ∧
    (∀ (c : Cl) (h : Hm), ∀ m xs, unOp c (.list m) (.d (.tuple xs)) h = some (mkL m xs h)) ∧
    (∀ (c : Cl) (h : Hm), ∀ bs : List Bool, unOp c .all (.d (.list (bs.map PyData.bool))) h = some (.d (.bool (bs.all id)), h)) ∧
    (∀ (c : Cl) (h : Hm), ∀ bs : List Bool, unOp c .any (.d (.list (bs.map PyData.bool))) h = some (.d (.bool (bs.any id)), h)) ∧
    (∀ (c : Cl) (h : Hm), ∀ ns : List Int, unOp c .sset (.d (.list (ns.map PyData.int))) h = if ns.length < 64 then some (.d (.list ((sortI ns).map PyData.int)), h) else none) ∧
    (∀ (c : Cl) (h : Hm), ∀ ns : List Int, unOp c .sset (.d (.tuple (ns.map PyData.int))) h = if ns.length < 64 then some (.d (.list ((sortI ns).map PyData.int)), h) else none) ∧
    (∀ (c : Cl) (h : Hm), ∀ ns : List Int, unOp c .sorted (.d (.list (ns.map PyData.int))) h = if ns.length < 64 then some (.d (.list ((isortI ns).map PyData.int)), h) else none) := by
  refine ⟨?_, ?_, ?_, ?_, ?_, ?_, ?_, ?_, ?_, ?_, ?_, ?_, ?_, ?_, ?_, ?_, ?_, ?_, ?_, ?_, ?_, ?_, ?_, ?_⟩
  all_goals intros
  all_goals first | rfl | (unfold kMeth1; exact if_pos rfl) | (unfold kLenm1; exact if_pos rfl) | (unfold kFl2; simp; done) | (simp only [unOp, rd, rdn, intsD', seqD, rmap_all, rmap_ints, Option.bind_some]; done) | (rename_i a b; by_cases hd : a.depth ≤ 64 <;> simp only [binOp, rd, eqD, hd, if_true, if_false]; done) | (simp only [binOp, rd, seqD, eqD, Option.bind_some]; done) | skip

theorem evs5 :
    (∀ (c : Cl) (h : Hm), ∀ m i j, binOp c (.add m) (.d (.int i)) (.d (.int j)) h = some (.d (.int (i + j)), h)) ∧
    (∀ (c : Cl) (h : Hm), ∀ m xs ys, binOp c (.add m) (.d (.list xs)) (.d (.list ys)) h = if xs.length + ys.length ≤ most then some (mkL m (xs ++ ys) h) else none) ∧
    (∀ (c : Cl) (h : Hm), ∀ m xs ys, binOp c (.add m) (.d (.tuple xs)) (.d (.tuple ys)) h = if xs.length + ys.length ≤ most then some (.d (.tuple (xs ++ ys)), h) else none) ∧
    (∀ (c : Cl) (h : Hm), ∀ i j, binOp c .sub (.d (.int i)) (.d (.int j)) h = some (.d (.int (i - j)), h)) ∧
    (∀ (c : Cl) (h : Hm), ∀ i j, binOp c .mul (.d (.int i)) (.d (.int j)) h = if (-(2 ^ 64) < i ∧ i < 2 ^ 64) ∨ (-(2 ^ 64) < j ∧ j < 2 ^ 64) then some (.d (.int (i * j)), h) else none) ∧
    (∀ (c : Cl) (h : Hm), ∀ i j, binOp c .fdiv (.d (.int i)) (.d (.int j)) h = if 0 < j ∧ j < 1073741824 then some (.d (.int (i / j)), h) else none) ∧
    (∀ (c : Cl) (h : Hm), ∀ i j, binOp c .mod (.d (.int i)) (.d (.int j)) h = if 0 < j then some (.d (.int (i % j)), h) else none) ∧
    (∀ (c : Cl) (h : Hm), ∀ a b, binOp c .eq (.d a) (.d b) h = if a.depth ≤ 64 then some (.d (.bool (PyData.eqv a b)), h) else none) ∧
    (∀ (c : Cl) (h : Hm), ∀ a b, binOp c .ne (.d a) (.d b) h = if a.depth ≤ 64 then some (.d (.bool (!PyData.eqv a b)), h) else none) ∧
    (∀ (c : Cl) (h : Hm), ∀ i j, binOp c .lt (.d (.int i)) (.d (.int j)) h = some (.d (.bool (decide (i < j))), h)) ∧
    (∀ (c : Cl) (h : Hm), ∀ i j, binOp c .le (.d (.int i)) (.d (.int j)) h = some (.d (.bool (decide (i ≤ j))), h)) ∧
    (∀ (c : Cl) (h : Hm), ∀ i j, binOp c .gt (.d (.int i)) (.d (.int j)) h = some (.d (.bool (decide (j < i))), h)) ∧
    (∀ (c : Cl) (h : Hm), ∀ i j, binOp c .ge (.d (.int i)) (.d (.int j)) h = some (.d (.bool (decide (j ≤ i))), h)) ∧
    (∀ (c : Cl) (h : Hm), ∀ a xs, binOp c .isin (.d a) (.d (.tuple xs)) h = if depthOk xs then some (.d (.bool (xs.any fun y => PyData.eqv y a)), h) else none) ∧
    (∀ (c : Cl) (h : Hm), ∀ a xs, binOp c .isin (.d a) (.d (.list xs)) h = if depthOk xs then some (.d (.bool (xs.any fun y => PyData.eqv y a)), h) else none) ∧
    (∀ (c : Cl) (h : Hm), ∀ a xs, binOp c .notin (.d a) (.d (.tuple xs)) h = if depthOk xs then some (.d (.bool (!xs.any fun y => PyData.eqv y a)), h) else none) ∧
    (∀ (c : Cl) (h : Hm), ∀ a xs, binOp c .notin (.d a) (.d (.list xs)) h = if depthOk xs then some (.d (.bool (!xs.any fun y => PyData.eqv y a)), h) else none) ∧
    (∀ (c : Cl) (h : Hm), binOp c .isn (.d .none) (.d .none) h = some (.d (.bool true), h)) ∧
    (∀ (c : Cl) (h : Hm), binOp c .isnn (.d .none) (.d .none) h = some (.d (.bool false), h)) ∧
    (∀ (c : Cl) (h : Hm), ∀ xs, binOp c .isn (.d (.tuple xs)) (.d .none) h = some (.d (.bool false), h)) ∧
    (∀ (c : Cl) (h : Hm), ∀ xs, binOp c .isnn (.d (.tuple xs)) (.d .none) h = some (.d (.bool true), h)) ∧
    (∀ (c : Cl) (h : Hm), ∀ xs, binOp c .isn (.d (.int xs)) (.d .none) h = some (.d (.bool false), h)) ∧
    (∀ (c : Cl) (h : Hm), ∀ xs, binOp c .isnn (.d (.int xs)) (.d .none) h = some (.d (.bool true), h)) ∧
    (∀ (c : Cl) (h : Hm), ∀ xs, binOp c .isn (.d (.bool xs)) (.d .none) h = some (.d (.bool false), h)) ∧
    (∀ (c : Cl) (h : Hm), ∀ xs, binOp c .isnn (.d (.bool xs)) (.d .none) h = some (.d (.bool true), h)) ∧
    (∀ (c : Cl) (h : Hm), ∀ xs, binOp c .isn (.d (.list xs)) (.d .none) h = some (.d (.bool false), h)) ∧
    (∀ (c : Cl) (h : Hm), ∀ xs, binOp c .isnn (.d (.list xs)) (.d .none) h = some (.d (.bool true), h)) ∧
    (∀ (c : Cl) (h : Hm), ∀ xs i, binOp c .ix (.d (.tuple xs)) (.d (.int i)) h = match atI xs i with | some x => some (.d x, h) | none => none) ∧
    (∀ (c : Cl) (h : Hm), ∀ xs i, binOp c .ix (.d (.list xs)) (.d (.int i)) h = match atI xs i with | some x => some (.d x, h) | none => none) ∧
    (∀ (c : Cl) (h : Hm), ∀ i j, binOp c .max (.d (.int i)) (.d (.int j)) h = some (.d (.int (if j > i then j else i)), h)) ∧
    (∀ (c : Cl) (h : Hm), ∀ i j, binOp c .min (.d (.int i)) (.d (.int j)) h = some (.d (.int (if j < i then j else i)), h)) := by
  refine ⟨?_, ?_, ?_, ?_, ?_, ?_, ?_, ?_, ?_, ?_, ?_, ?_, ?_, ?_, ?_, ?_, ?_, ?_, ?_, ?_, ?_, ?_, ?_, ?_, ?_, ?_, ?_, ?_, ?_, ?_, ?_⟩
  all_goals intros
  all_goals first | rfl | (unfold kMeth1; exact if_pos rfl) | (unfold kLenm1; exact if_pos rfl) | (unfold kFl2; simp; done) | (simp only [unOp, rd, rdn, intsD', seqD, rmap_all, rmap_ints, Option.bind_some]; done) | (rename_i a b; by_cases hd : a.depth ≤ 64 <;> simp only [binOp, rd, eqD, hd, if_true, if_false]; done) | (simp only [binOp, rd, seqD, eqD, Option.bind_some]; done) | skip

theorem evs6 :
    (∀ (h : Hm) (v : EV), ∀ m, pre (.add m) v h = true) ∧
    (∀ (h : Hm) (v : EV), pre .sub v h = true) ∧
    (∀ (h : Hm) (v : EV), pre .mul v h = true) ∧
    (∀ (h : Hm) (v : EV), pre .fdiv v h = true) ∧
    (∀ (h : Hm) (v : EV), pre .mod v h = true) ∧
    (∀ (h : Hm) (v : EV), pre .pow v h = true) ∧
    (∀ (h : Hm) (v : EV), pre .eq v h = true) ∧
    (∀ (h : Hm) (v : EV), pre .ne v h = true) ∧
    (∀ (h : Hm) (v : EV), pre .lt v h = true) ∧
    (∀ (h : Hm) (v : EV), pre .le v h = true) ∧
    (∀ (h : Hm) (v : EV), pre .gt v h = true) ∧
    (∀ (h : Hm) (v : EV), pre .ge v h = true) ∧
    (∀ (h : Hm) (v : EV), pre .isin v h = true) ∧
    (∀ (h : Hm) (v : EV), pre .notin v h = true) ∧
    (∀ (h : Hm) (v : EV), pre .isn v h = true) ∧
    (∀ (h : Hm) (v : EV), pre .isnn v h = true) ∧
    (∀ (h : Hm) (v : EV), pre .ix v h = true) ∧
    (∀ (h : Hm) (v : EV), pre .max v h = true) ∧
    (∀ (h : Hm) (v : EV), pre .min v h = true) := by
  refine ⟨?_, ?_, ?_, ?_, ?_, ?_, ?_, ?_, ?_, ?_, ?_, ?_, ?_, ?_, ?_, ?_, ?_, ?_, ?_⟩
  all_goals intros
  all_goals first | rfl | (unfold kMeth1; exact if_pos rfl) | (unfold kLenm1; exact if_pos rfl) | (unfold kFl2; simp; done) | (simp only [unOp, rd, rdn, intsD', seqD, rmap_all, rmap_ints, Option.bind_some]; done) | (rename_i a b; by_cases hd : a.depth ≤ 64 <;> simp only [binOp, rd, eqD, hd, if_true, if_false]; done) | (simp only [binOp, rd, seqD, eqD, Option.bind_some]; done) | skip

end Mp
set_option Elab.async false
set_option linter.all false
set_option maxRecDepth 100000
/-! Px: slots by their numbers. -/
namespace Mp
open PySem
theorem evs7 : (∀ (a0 : Option EV) (l : Ev), (a0 :: l)[0]? = some a0) ∧ (∀ (a0 a1 : Option EV) (l : Ev), (a0 :: a1 :: l)[1]? = some a1) ∧ (∀ (a0 a1 a2 : Option EV) (l : Ev), (a0 :: a1 :: a2 :: l)[2]? = some a2) ∧ (∀ (a0 a1 a2 a3 : Option EV) (l : Ev), (a0 :: a1 :: a2 :: a3 :: l)[3]? = some a3) ∧ (∀ (a0 a1 a2 a3 a4 : Option EV) (l : Ev), (a0 :: a1 :: a2 :: a3 :: a4 :: l)[4]? = some a4) ∧ (∀ (a0 a1 a2 a3 a4 a5 : Option EV) (l : Ev), (a0 :: a1 :: a2 :: a3 :: a4 :: a5 :: l)[5]? = some a5) ∧ (∀ (a0 a1 a2 a3 a4 a5 a6 : Option EV) (l : Ev), (a0 :: a1 :: a2 :: a3 :: a4 :: a5 :: a6 :: l)[6]? = some a6) ∧ (∀ (a0 a1 a2 a3 a4 a5 a6 a7 : Option EV) (l : Ev), (a0 :: a1 :: a2 :: a3 :: a4 :: a5 :: a6 :: a7 :: l)[7]? = some a7) ∧ (∀ (a0 a1 a2 a3 a4 a5 a6 a7 a8 : Option EV) (l : Ev), (a0 :: a1 :: a2 :: a3 :: a4 :: a5 :: a6 :: a7 :: a8 :: l)[8]? = some a8) ∧ (∀ (a0 a1 a2 a3 a4 a5 a6 a7 a8 a9 : Option EV) (l : Ev), (a0 :: a1 :: a2 :: a3 :: a4 :: a5 :: a6 :: a7 :: a8 :: a9 :: l)[9]? = some a9) ∧ (∀ (a0 a1 a2 a3 a4 a5 a6 a7 a8 a9 a10 : Option EV) (l : Ev), (a0 :: a1 :: a2 :: a3 :: a4 :: a5 :: a6 :: a7 :: a8 :: a9 :: a10 :: l)[10]? = some a10) ∧ (∀ (a0 a1 a2 a3 a4 a5 a6 a7 a8 a9 a10 a11 : Option EV) (l : Ev), (a0 :: a1 :: a2 :: a3 :: a4 :: a5 :: a6 :: a7 :: a8 :: a9 :: a10 :: a11 :: l)[11]? = some a11) ∧ (∀ (a0 a1 a2 a3 a4 a5 a6 a7 a8 a9 a10 a11 a12 : Option EV) (l : Ev), (a0 :: a1 :: a2 :: a3 :: a4 :: a5 :: a6 :: a7 :: a8 :: a9 :: a10 :: a11 :: a12 :: l)[12]? = some a12) ∧ (∀ (a0 a1 a2 a3 a4 a5 a6 a7 a8 a9 a10 a11 a12 a13 : Option EV) (l : Ev), (a0 :: a1 :: a2 :: a3 :: a4 :: a5 :: a6 :: a7 :: a8 :: a9 :: a10 :: a11 :: a12 :: a13 :: l)[13]? = some a13) := ⟨by intros; rfl, by intros; rfl, by intros; rfl, by intros; rfl, by intros; rfl, by intros; rfl, by intros; rfl, by intros; rfl, by intros; rfl, by intros; rfl, by intros; rfl, by intros; rfl, by intros; rfl, by intros; rfl⟩
theorem evs8 : (∀ (a0 x : Option EV) (l : Ev), List.set (a0 :: l) 0 x = x :: l) ∧ (∀ (a0 a1 x : Option EV) (l : Ev), List.set (a0 :: a1 :: l) 1 x = a0 :: x :: l) ∧ (∀ (a0 a1 a2 x : Option EV) (l : Ev), List.set (a0 :: a1 :: a2 :: l) 2 x = a0 :: a1 :: x :: l) ∧ (∀ (a0 a1 a2 a3 x : Option EV) (l : Ev), List.set (a0 :: a1 :: a2 :: a3 :: l) 3 x = a0 :: a1 :: a2 :: x :: l) ∧ (∀ (a0 a1 a2 a3 a4 x : Option EV) (l : Ev), List.set (a0 :: a1 :: a2 :: a3 :: a4 :: l) 4 x = a0 :: a1 :: a2 :: a3 :: x :: l) ∧ (∀ (a0 a1 a2 a3 a4 a5 x : Option EV) (l : Ev), List.set (a0 :: a1 :: a2 :: a3 :: a4 :: a5 :: l) 5 x = a0 :: a1 :: a2 :: a3 :: a4 :: x :: l) ∧ (∀ (a0 a1 a2 a3 a4 a5 a6 x : Option EV) (l : Ev), List.set (a0 :: a1 :: a2 :: a3 :: a4 :: a5 :: a6 :: l) 6 x = a0 :: a1 :: a2 :: a3 :: a4 :: a5 :: x :: l) ∧ (∀ (a0 a1 a2 a3 a4 a5 a6 a7 x : Option EV) (l : Ev), List.set (a0 :: a1 :: a2 :: a3 :: a4 :: a5 :: a6 :: a7 :: l) 7 x = a0 :: a1 :: a2 :: a3 :: a4 :: a5 :: a6 :: x :: l) ∧ (∀ (a0 a1 a2 a3 a4 a5 a6 a7 a8 x : Option EV) (l : Ev), List.set (a0 :: a1 :: a2 :: a3 :: a4 :: a5 :: a6 :: a7 :: a8 :: l) 8 x = a0 :: a1 :: a2 :: a3 :: a4 :: a5 :: a6 :: a7 :: x :: l) ∧ (∀ (a0 a1 a2 a3 a4 a5 a6 a7 a8 a9 x : Option EV) (l : Ev), List.set (a0 :: a1 :: a2 :: a3 :: a4 :: a5 :: a6 :: a7 :: a8 :: a9 :: l) 9 x = a0 :: a1 :: a2 :: a3 :: a4 :: a5 :: a6 :: a7 :: a8 :: x :: l) ∧ (∀ (a0 a1 a2 a3 a4 a5 a6 a7 a8 a9 a10 x : Option EV) (l : Ev), List.set (a0 :: a1 :: a2 :: a3 :: a4 :: a5 :: a6 :: a7 :: a8 :: a9 :: a10 :: l) 10 x = a0 :: a1 :: a2 :: a3 :: a4 :: a5 :: a6 :: a7 :: a8 :: a9 :: x :: l) ∧ (∀ (a0 a1 a2 a3 a4 a5 a6 a7 a8 a9 a10 a11 x : Option EV) (l : Ev), List.set (a0 :: a1 :: a2 :: a3 :: a4 :: a5 :: a6 :: a7 :: a8 :: a9 :: a10 :: a11 :: l) 11 x = a0 :: a1 :: a2 :: a3 :: a4 :: a5 :: a6 :: a7 :: a8 :: a9 :: a10 :: x :: l) ∧ (∀ (a0 a1 a2 a3 a4 a5 a6 a7 a8 a9 a10 a11 a12 x : Option EV) (l : Ev), List.set (a0 :: a1 :: a2 :: a3 :: a4 :: a5 :: a6 :: a7 :: a8 :: a9 :: a10 :: a11 :: a12 :: l) 12 x = a0 :: a1 :: a2 :: a3 :: a4 :: a5 :: a6 :: a7 :: a8 :: a9 :: a10 :: a11 :: x :: l) ∧ (∀ (a0 a1 a2 a3 a4 a5 a6 a7 a8 a9 a10 a11 a12 a13 x : Option EV) (l : Ev), List.set (a0 :: a1 :: a2 :: a3 :: a4 :: a5 :: a6 :: a7 :: a8 :: a9 :: a10 :: a11 :: a12 :: a13 :: l) 13 x = a0 :: a1 :: a2 :: a3 :: a4 :: a5 :: a6 :: a7 :: a8 :: a9 :: a10 :: a11 :: a12 :: x :: l) := ⟨by intros; rfl, by intros; rfl, by intros; rfl, by intros; rfl, by intros; rfl, by intros; rfl, by intros; rfl, by intros; rfl, by intros; rfl, by intros; rfl, by intros; rfl, by intros; rfl, by intros; rfl, by intros; rfl⟩
theorem wipe_nil (env : Ev) : wipeE env [] = env := rfl
theorem wipe_cons (env : Ev) (v : Nat) (vs : List Nat) : wipeE env (v :: vs) = (wipeE env vs).set v none := rfl
theorem evs9 : (∀ env, wipeE env [] = env) ∧ (∀ env v vs, wipeE env (v :: vs) = (wipeE env vs).set v none) := ⟨wipe_nil, wipe_cons⟩
end Mp
set_option Elab.async false
set_option linter.all false
set_option maxRecDepth 100000
/-! Pm: houses, boxes, rounds: plain mathematics. -/
namespace Hs
open PySem

/-! ### sets as ascending lists -/
def insN (k : Nat) : List Nat → List Nat
  | [] => [k]
  | x :: r => if k < x then k :: x :: r else if k = x then x :: r else x :: insN k r
def sortN : List Nat → List Nat
  | [] => []
  | x :: r => insN x (sortN r)
abbrev Asc (l : List Nat) : Prop := l.Pairwise (· < ·)
theorem mem_insN {k y : Nat} : ∀ {l : List Nat}, y ∈ insN k l ↔ y = k ∨ y ∈ l
  | [] => by simp [insN]
  | x :: r => by
    unfold insN
    split
    · simp
    · split
      · rename_i h1 h2
        subst h2
        simp
      · rw [List.mem_cons, mem_insN, List.mem_cons]
        constructor
        · rintro (h | h | h) <;> simp [h]
        · rintro (h | h | h) <;> simp [h]
theorem mem_sortN {y : Nat} : ∀ {l : List Nat}, y ∈ sortN l ↔ y ∈ l
  | [] => by simp [sortN]
  | x :: r => by
    unfold sortN
    rw [mem_insN, mem_sortN, List.mem_cons]
theorem asc_insN {k : Nat} : ∀ {l : List Nat}, Asc l → Asc (insN k l)
  | [], _ => by simp [insN, Asc]
  | x :: r, h => by
    unfold insN
    have h1 := List.pairwise_cons.mp h
    split
    · rename_i hk
      refine List.pairwise_cons.mpr ⟨fun y hy => ?_, h⟩
      rcases List.mem_cons.mp hy with e | e
      · omega
      · have := h1.1 y e
        omega
    · split
      · exact h
      · refine List.pairwise_cons.mpr ⟨fun y hy => ?_, asc_insN h1.2⟩
        rcases mem_insN.mp hy with e | e
        · omega
        · exact h1.1 y e
theorem asc_sortN : ∀ (l : List Nat), Asc (sortN l)
  | [] => List.Pairwise.nil
  | x :: r => asc_insN (asc_sortN r)
/-- ascending lists with the same members are one -/
theorem asc_ext : ∀ {l m : List Nat}, Asc l → Asc m → (∀ x, x ∈ l ↔ x ∈ m) → l = m
  | [], [], _, _, _ => rfl
  | [], y :: m, _, _, h => absurd ((h y).mpr (List.mem_cons_self ..)) (by simp)
  | x :: l, [], _, _, h => absurd ((h x).mp (List.mem_cons_self ..)) (by simp)
  | x :: l, y :: m, hl, hm, h => by
    have l1 := List.pairwise_cons.mp hl
    have m1 := List.pairwise_cons.mp hm
    have e : x = y := by
      rcases List.mem_cons.mp ((h x).mp (List.mem_cons_self ..)) with e | e
      · exact e
      · rcases List.mem_cons.mp ((h y).mpr (List.mem_cons_self ..)) with e2 | e2
        · exact e2.symm
        · have a := l1.1 y e2
          have b := m1.1 x e
          omega
    subst e
    congr 1
    refine asc_ext l1.2 m1.2 fun z => ?_
    constructor
    · intro hz
      rcases List.mem_cons.mp ((h z).mp (List.mem_cons_of_mem _ hz)) with e | e
      · have := l1.1 z hz
        omega
      · exact e
    · intro hz
      rcases List.mem_cons.mp ((h z).mpr (List.mem_cons_of_mem _ hz)) with e | e
      · have := m1.1 z hz
        omega
      · exact e
theorem sortN_asc {l : List Nat} (h : Asc l) : sortN l = l := asc_ext (asc_sortN l) h fun _ => mem_sortN
/-- an ascending list below s has at most s items -/
theorem asc_len : ∀ {s : Nat} {l : List Nat}, Asc l → (∀ x ∈ l, x < s) → l.length ≤ s := by
  intro s l h hs
  have key : ∀ (l : List Nat) (a : Nat), Asc l → (∀ x ∈ l, a ≤ x ∧ x < s) → l.length + a ≤ s ∨ l = [] := by
    intro l
    induction l with
    | nil => intro a _ _; exact .inr rfl
    | cons x r ih =>
      intro a h hs
      left
      have h1 := List.pairwise_cons.mp h
      have hx := hs x (List.mem_cons_self ..)
      rcases ih (x + 1) h1.2 (fun y hy => ⟨h1.1 y hy, (hs y (List.mem_cons_of_mem _ hy)).2⟩) with q | q
      · rw [List.length_cons]; omega
      · subst q; simp; omega
  rcases key l 0 h (fun x hx => ⟨Nat.zero_le _, hs x hx⟩) with q | q
  · omega
  · subst q; simp
/-- a smaller set has fewer items -/
theorem asc_sub_len : ∀ {l m : List Nat}, Asc l → Asc m → (∀ x ∈ l, x ∈ m) → l.length ≤ m.length ∧ (l.length = m.length → l = m)
  | [], [], _, _, _ => ⟨Nat.le_refl _, fun _ => rfl⟩
  | [], y :: m, _, _, _ => ⟨Nat.zero_le _, fun e => by cases e⟩
  | x :: l, [], _, _, h => absurd (h x (List.mem_cons_self ..)) (by simp)
  | x :: l, y :: m, hl, hm, h => by
    have l1 := List.pairwise_cons.mp hl
    have m1 := List.pairwise_cons.mp hm
    by_cases e : x = y
    · subst e
      have := asc_sub_len l1.2 m1.2 fun z hz => by
        rcases List.mem_cons.mp (h z (List.mem_cons_of_mem _ hz)) with q | q
        · have := l1.1 z hz
          omega
        · exact q
      refine ⟨Nat.succ_le_succ this.1, fun q => ?_⟩
      rw [this.2 (Nat.succ.inj q)]
    · have hy : y < x := by
        rcases List.mem_cons.mp (h x (List.mem_cons_self ..)) with q | q
        · exact absurd q e
        · exact m1.1 x q
      have := asc_sub_len (m := m) hl m1.2 fun z hz => by
        rcases List.mem_cons.mp (h z hz) with q | q
        · rcases List.mem_cons.mp hz with r | r
          · omega
          · have := l1.1 z r
            omega
        · exact q
      refine ⟨Nat.le_succ_of_le this.1, fun q => ?_⟩
      rw [List.length_cons, List.length_cons] at q
      rw [List.length_cons] at this
      omega

/-! ### houses -/
structure Fd where
  nm : List Str
  ey : List Nat
  tb : List Nat
abbrev House := List Fd
abbrev Box := List (List Nat)
def sz (hs : House) (j : Nat) : Nat := match hs[j]? with
  | some f => f.nm.length
  | none => 0
def vol (hs : House) : List Nat → Nat
  | [] => 1
  | e :: r => sz hs e * vol hs r
def num (hs : House) : List Nat → List Nat → Nat → Nat
  | e :: es, x :: xs, a => num hs es xs (a * sz hs e + x)
  | _, _, a => a
/-- a row of values of the watched fields -/
def RowOk (hs : House) : List Nat → List Nat → Prop
  | [], [] => True
  | e :: es, x :: xs => x < sz hs e ∧ RowOk hs es xs
  | _, _ => False
theorem num_lt {hs : House} : ∀ {es row : List Nat} {a : Nat}, RowOk hs es row → num hs es row a < (a + 1) * vol hs es
  | [], [], a, _ => by simp [num, vol]
  | e :: es, x :: xs, a, h => by
    have ih := num_lt (a := a * sz hs e + x) h.2
    have h1 : a * sz hs e + x + 1 ≤ (a + 1) * sz hs e := by
      rw [Nat.add_mul, Nat.one_mul]
      have := h.1
      omega
    have h2 := Nat.mul_le_mul_right (vol hs es) h1
    show num hs es xs (a * sz hs e + x) < (a + 1) * (sz hs e * vol hs es)
    rw [← Nat.mul_assoc]
    omega
  | [], _ :: _, _, h => h.elim
  | _ :: _, [], _, h => h.elim
def tAt (hs : House) (f : Fd) (row : List Nat) : Nat := f.tb.getD (num hs f.ey row 0) 0
structure WF (hs : House) : Prop where
  ln : hs.length ≤ 3
  nm : ∀ f ∈ hs, 1 ≤ f.nm.length ∧ f.nm.length ≤ 3
  ey : ∀ f ∈ hs, f.ey.length ≤ 2 ∧ ∀ e ∈ f.ey, e < hs.length
  tb : ∀ f ∈ hs, f.tb.length = vol hs f.ey
  vl : ∀ f ∈ hs, ∀ v ∈ f.tb, v < f.nm.length
section
variable {hs : House} {f : Fd} {j : Nat}
theorem sz_at (h : hs[j]? = some f) : sz hs j = f.nm.length := by unfold sz; rw [h]
theorem WF.sz_le (w : WF hs) (j : Nat) : sz hs j ≤ 3 := by
  unfold sz
  split
  · rename_i f h
    exact (w.nm f (List.mem_of_getElem? h)).2
  · omega
theorem WF.tAt_lt (w : WF hs) (hf : f ∈ hs) {row : List Nat} (hr : RowOk hs f.ey row) : num hs f.ey row 0 < f.tb.length ∧ tAt hs f row < f.nm.length := by
  have h1 := num_lt (a := 0) hr
  rw [Nat.zero_add, Nat.one_mul, ← w.tb f hf] at h1
  refine ⟨h1, ?_⟩
  unfold tAt
  rw [List.getD_eq_getElem?_getD, List.getElem?_eq_getElem h1]
  exact w.vl f hf _ (List.getElem_mem h1)
end

/-! ### rows of a box -/
/-- one of each set -/
def RowIn : List (List Nat) → List Nat → Prop
  | [], [] => True
  | s :: ss, x :: xs => x ∈ s ∧ RowIn ss xs
  | _, _ => False
def rowStep (found : List (List Nat)) (some : List Nat) : List (List Nat) := found.flatMap fun own => some.map fun x => own ++ [x]
def rowsA (ss : List (List Nat)) : List (List Nat) := ss.foldl rowStep [[]]
theorem mem_rows {r : List Nat} : ∀ {ss acc : List (List Nat)}, r ∈ ss.foldl rowStep acc ↔ ∃ p ∈ acc, ∃ q, RowIn ss q ∧ r = p ++ q
  | [], acc => by
    constructor
    · intro h
      exact ⟨r, h, [], trivial, by simp⟩
    · rintro ⟨p, hp, q, hq, e⟩
      cases q with
      | nil => rw [e, List.append_nil]; exact hp
      | cons x xs => exact hq.elim
  | s :: ss, acc => by
    rw [List.foldl_cons, mem_rows]
    constructor
    · rintro ⟨p, hp, q, hq, e⟩
      obtain ⟨p0, hp0, h2⟩ := List.mem_flatMap.mp hp
      obtain ⟨x, hx, e2⟩ := List.mem_map.mp h2
      exact ⟨p0, hp0, x :: q, ⟨hx, hq⟩, by rw [e, ← e2]; simp⟩
    · rintro ⟨p, hp, q, hq, e⟩
      cases q with
      | nil => exact hq.elim
      | cons x xs =>
        exact ⟨p ++ [x], List.mem_flatMap.mpr ⟨p, hp, List.mem_map.mpr ⟨x, hq.1, rfl⟩⟩, xs, hq.2, by rw [e]; simp⟩
theorem mem_rowsA {r : List Nat} {ss : List (List Nat)} : r ∈ rowsA ss ↔ RowIn ss r := by
  unfold rowsA
  rw [mem_rows]
  constructor
  · rintro ⟨p, hp, q, hq, e⟩
    rw [List.mem_singleton] at hp
    subst hp
    rw [e]
    exact hq
  · intro h
    exact ⟨[], List.mem_singleton.mpr rfl, r, h, rfl⟩
theorem rowStep_len (some : List Nat) : ∀ (found : List (List Nat)), (rowStep found some).length = found.length * some.length
  | [] => by simp [rowStep]
  | x :: r => by
    have ih := rowStep_len some r
    unfold rowStep at ih ⊢
    rw [List.flatMap_cons, List.length_append, ih, List.length_map, List.length_cons, Nat.add_mul, Nat.one_mul, Nat.add_comm]
theorem rows_len (k : Nat) : ∀ (ss acc : List (List Nat)), (∀ s ∈ ss, s.length ≤ k) → (ss.foldl rowStep acc).length ≤ acc.length * k ^ ss.length
  | [], acc, _ => by simp
  | s :: ss, acc, h => by
    rw [List.foldl_cons]
    refine Nat.le_trans (rows_len k ss _ fun s hs => h s (List.mem_cons_of_mem _ hs)) ?_
    rw [rowStep_len, List.length_cons, Nat.pow_succ, Nat.mul_comm (k ^ ss.length) k, ← Nat.mul_assoc]
    exact Nat.mul_le_mul_right _ (Nat.mul_le_mul_left _ (h s (List.mem_cons_self ..)))

/-! ### boxes -/
def bAt (b : Box) (j : Nat) : List Nat := b.getD j []
structure BoxOk (hs : House) (b : Box) : Prop where
  len : b.length = hs.length
  asc : ∀ r ∈ b, Asc r
  lt : ∀ (j : Nat) (r : List Nat), b[j]? = some r → ∀ x ∈ r, x < sz hs j
structure BoxNe (hs : House) (b : Box) : Prop extends BoxOk hs b where
  ne : ∀ r ∈ b, r ≠ []
def toldP (hs : House) (b : Box) (f : Fd) : List Nat := sortN ((rowsA (f.ey.map (bAt b))).map (tAt hs f))
def toldB (hs : House) (b : Box) : Box := hs.map (toldP hs b)
def Sub (b c : Box) : Prop := ∀ j x, x ∈ bAt b j → x ∈ bAt c j
section
variable {hs : House} {b c : Box} {f : Fd} {j x : Nat}
theorem bAt_at {r : List Nat} (h : b[j]? = some r) : bAt b j = r := by unfold bAt; rw [List.getD_eq_getElem?_getD, h]; rfl
theorem bAt_lt (h : x ∈ bAt b j) : j < b.length := by
  unfold bAt at h
  rw [List.getD_eq_getElem?_getD] at h
  cases q : b[j]? with
  | none => rw [q] at h; cases h
  | some r => exact (List.getElem?_eq_some_iff.mp q).1
theorem at_bAt (h : j < b.length) : b[j]? = some (bAt b j) := by
  unfold bAt
  rw [List.getD_eq_getElem?_getD, List.getElem?_eq_getElem h]
  rfl
theorem BoxOk.ltA (o : BoxOk hs b) (h : x ∈ bAt b j) : x < sz hs j := o.lt j _ (at_bAt (bAt_lt h)) x h
theorem BoxOk.ascA (o : BoxOk hs b) (j : Nat) : Asc (bAt b j) := by
  by_cases h : j < b.length
  · exact o.asc _ (List.mem_of_getElem? (at_bAt h))
  · unfold bAt
    rw [List.getD_eq_getElem?_getD, List.getElem?_eq_none (by omega)]
    exact List.Pairwise.nil
theorem BoxOk.len_le (w : WF hs) (o : BoxOk hs b) (j : Nat) : (bAt b j).length ≤ 3 := Nat.le_trans (asc_len (o.ascA j) fun x hx => o.ltA hx) (w.sz_le j)
theorem Sub.refl (b : Box) : Sub b b := fun _ _ h => h
theorem Sub.trans {d : Box} (h : Sub b c) (g : Sub c d) : Sub b d := fun j x q => g j x (h j x q)
theorem box_ext (l : b.length = c.length) (h : ∀ j, bAt b j = bAt c j) : b = c := by
  refine List.ext_getElem? fun j => ?_
  by_cases q : j < b.length
  · rw [at_bAt q, at_bAt (l ▸ q), h j]
  · rw [List.getElem?_eq_none (by omega), List.getElem?_eq_none (by omega)]
theorem Sub.antisymm (o : BoxOk hs b) (p : BoxOk hs c) (h : Sub b c) (g : Sub c b) : b = c :=
  box_ext (o.len.trans p.len.symm) fun j => asc_ext (o.ascA j) (p.ascA j) fun x => ⟨h j x, g j x⟩
theorem rowIn_of (o : BoxOk hs b) : ∀ {es row : List Nat}, RowIn (es.map (bAt b)) row → RowOk hs es row
  | [], [], _ => trivial
  | e :: es, x :: xs, h => ⟨o.ltA h.1, rowIn_of o h.2⟩
  | [], _ :: _, h => h.elim
  | _ :: _, [], h => h.elim
theorem rowIn_mono (s : Sub b c) : ∀ {es row : List Nat}, RowIn (es.map (bAt b)) row → RowIn (es.map (bAt c)) row
  | [], [], _ => trivial
  | e :: es, x :: xs, h => ⟨s e x h.1, rowIn_mono s h.2⟩
  | [], _ :: _, h => h.elim
  | _ :: _, [], h => h.elim
theorem mem_toldP : x ∈ toldP hs b f ↔ ∃ row, RowIn (f.ey.map (bAt b)) row ∧ tAt hs f row = x := by
  unfold toldP
  rw [mem_sortN, List.mem_map]
  constructor
  · rintro ⟨r, h, e⟩
    exact ⟨r, mem_rowsA.mp h, e⟩
  · rintro ⟨r, h, e⟩
    exact ⟨r, mem_rowsA.mpr h, e⟩
theorem toldB_at (h : hs[j]? = some f) : bAt (toldB hs b) j = toldP hs b f := bAt_at (by unfold toldB; rw [List.getElem?_map, h]; rfl)
theorem mem_toldB : x ∈ bAt (toldB hs b) j ↔ ∃ f row, hs[j]? = some f ∧ RowIn (f.ey.map (bAt b)) row ∧ tAt hs f row = x := by
  constructor
  · intro h
    have hj : j < hs.length := by
      have := bAt_lt h
      unfold toldB at this
      rw [List.length_map] at this
      exact this
    refine ⟨hs[j], ?_⟩
    rw [toldB_at (List.getElem?_eq_getElem hj), mem_toldP] at h
    obtain ⟨row, a, e⟩ := h
    exact ⟨row, List.getElem?_eq_getElem hj, a, e⟩
  · rintro ⟨f, row, h, a, e⟩
    rw [toldB_at h, mem_toldP]
    exact ⟨row, a, e⟩
theorem told_ok (w : WF hs) (o : BoxOk hs b) : BoxOk hs (toldB hs b) where
  len := by unfold toldB; rw [List.length_map]
  asc := fun r hr => by
    unfold toldB at hr
    obtain ⟨f, _, e⟩ := List.mem_map.mp hr
    rw [← e]
    exact asc_sortN _
  lt := fun j r hr x hx => by
    rw [← bAt_at hr] at hx
    obtain ⟨f, row, h, a, e⟩ := mem_toldB.mp hx
    rw [sz_at h, ← e]
    exact (w.tAt_lt (List.mem_of_getElem? h) (rowIn_of o a)).2
theorem told_mono (s : Sub b c) : Sub (toldB hs b) (toldB hs c) := fun j x h => by
  obtain ⟨f, row, h, a, e⟩ := mem_toldB.mp h
  exact mem_toldB.mpr ⟨f, row, h, rowIn_mono s a, e⟩
theorem rowIn_ex (hb : ∀ e, (h : e < b.length) → bAt b e ≠ []) : ∀ {es : List Nat}, (∀ e ∈ es, e < b.length) → ∃ row, RowIn (es.map (bAt b)) row
  | [], _ => ⟨[], trivial⟩
  | e :: es, h => by
    obtain ⟨row, hr⟩ := rowIn_ex hb fun e he => h e (List.mem_cons_of_mem _ he)
    obtain ⟨x, hx⟩ := List.exists_mem_of_ne_nil _ (hb e (h e (List.mem_cons_self ..)))
    exact ⟨x :: row, hx, hr⟩
theorem BoxNe.neA (o : BoxNe hs b) (h : j < b.length) : bAt b j ≠ [] := o.ne _ (List.mem_of_getElem? (at_bAt h))
theorem told_ne (w : WF hs) (o : BoxNe hs b) : BoxNe hs (toldB hs b) where
  toBoxOk := told_ok w o.toBoxOk
  ne := fun r hr => by
    unfold toldB at hr
    obtain ⟨f, hf, e⟩ := List.mem_map.mp hr
    obtain ⟨row, q⟩ := rowIn_ex (fun e h => o.neA h) (es := f.ey) fun e he => by rw [o.len]; exact (w.ey f hf).2 e he
    intro z
    have : tAt hs f row ∈ toldP hs b f := mem_toldP.mpr ⟨row, q, rfl⟩
    rw [e, z] at this
    cases this
end

/-! ### growing -/
def growB (hs : House) (b : Box) : Box := List.zipWith (fun near far => sortN (near ++ far)) b (toldB hs b)
def total : Box → Nat
  | [] => 0
  | r :: b => r.length + total b
section
variable {hs : House} {b c : Box} {f : Fd} {j x : Nat}
theorem growB_len (o : BoxOk hs b) : (growB hs b).length = hs.length := by
  unfold growB toldB
  rw [List.length_zipWith, List.length_map, o.len, Nat.min_self]
theorem growB_at (o : BoxOk hs b) (h : j < hs.length) : bAt (growB hs b) j = sortN (bAt b j ++ bAt (toldB hs b) j) := by
  have l1 : j < b.length := by rw [o.len]; exact h
  have l2 : j < (toldB hs b).length := by unfold toldB; rw [List.length_map]; exact h
  refine bAt_at ?_
  unfold growB
  rw [List.getElem?_zipWith, at_bAt l1, at_bAt l2]
theorem mem_growB (o : BoxOk hs b) : x ∈ bAt (growB hs b) j ↔ x ∈ bAt b j ∨ x ∈ bAt (toldB hs b) j := by
  by_cases h : j < hs.length
  · rw [growB_at o h, mem_sortN, List.mem_append]
  · constructor
    · intro q
      have := bAt_lt q
      rw [growB_len o] at this
      exact absurd this h
    · rintro (q | q)
      · have := bAt_lt q
        rw [o.len] at this
        exact absurd this h
      · have := bAt_lt q
        unfold toldB at this
        rw [List.length_map] at this
        exact absurd this h
theorem grow_ok (w : WF hs) (o : BoxOk hs b) : BoxOk hs (growB hs b) where
  len := growB_len o
  asc := fun r hr => by
    obtain ⟨j, hj⟩ := List.mem_iff_getElem?.mp hr
    have hl := (List.getElem?_eq_some_iff.mp hj).1
    rw [growB_len o] at hl
    have := growB_at o hl
    rw [bAt_at hj] at this
    rw [this]
    exact asc_sortN _
  lt := fun j r hr x hx => by
    rw [← bAt_at hr] at hx
    rcases (mem_growB o).mp hx with h | h
    · exact o.ltA h
    · exact (told_ok w o).ltA h
theorem grow_sub (o : BoxOk hs b) : Sub b (growB hs b) := fun j x h => (mem_growB o).mpr (.inl h)
theorem grow_ne (w : WF hs) (o : BoxNe hs b) : BoxNe hs (growB hs b) where
  toBoxOk := grow_ok w o.toBoxOk
  ne := fun r hr => by
    obtain ⟨j, hj⟩ := List.mem_iff_getElem?.mp hr
    have hl := (List.getElem?_eq_some_iff.mp hj).1
    rw [growB_len o.toBoxOk, ← o.len] at hl
    obtain ⟨x, hx⟩ := List.exists_mem_of_ne_nil _ (o.neA hl)
    have := grow_sub o.toBoxOk j x hx
    rw [bAt_at hj] at this
    intro z
    rw [z] at this
    cases this
theorem total_le : ∀ {b c : Box}, b.length = c.length → (∀ (j : Nat) (r s : List Nat), b[j]? = some r → c[j]? = some s → r.length ≤ s.length) → total b ≤ total c
  | [], [], _, _ => Nat.le_refl _
  | r :: b, s :: c, l, h => Nat.add_le_add (h 0 r s rfl rfl) (total_le (Nat.succ.inj l) fun j r s q1 q2 => h (j + 1) r s q1 q2)
  | [], _ :: _, l, _ => by cases l
  | _ :: _, [], l, _ => by cases l
theorem total_eq : ∀ {b c : Box}, b.length = c.length → (∀ (j : Nat) (r s : List Nat), b[j]? = some r → c[j]? = some s → r.length ≤ s.length ∧ (r.length = s.length → r = s)) → total b = total c → b = c
  | [], [], _, _, _ => rfl
  | r :: b, s :: c, l, h, e => by
    have h0 := h 0 r s rfl rfl
    have ht : total b ≤ total c := total_le (Nat.succ.inj l) fun j r s q1 q2 => (h (j + 1) r s q1 q2).1
    have e : r.length + total b = s.length + total c := e
    rw [h0.2 (by omega), total_eq (Nat.succ.inj l) (fun j r s q1 q2 => h (j + 1) r s q1 q2) (by omega)]
  | [], _ :: _, l, _, _ => by cases l
  | _ :: _, [], l, _, _ => by cases l
theorem sub_rows (o : BoxOk hs b) (p : BoxOk hs c) (s : Sub b c) : ∀ (j : Nat) (r t : List Nat), b[j]? = some r → c[j]? = some t → r.length ≤ t.length ∧ (r.length = t.length → r = t) := fun j r t q1 q2 => by
  refine asc_sub_len (o.asc r (List.mem_of_getElem? q1)) (p.asc t (List.mem_of_getElem? q2)) fun x hx => ?_
  rw [← bAt_at q1] at hx
  rw [← bAt_at q2]
  exact s j x hx
theorem sub_total (o : BoxOk hs b) (p : BoxOk hs c) (s : Sub b c) : total b ≤ total c ∧ (total b = total c → b = c) :=
  ⟨total_le (o.len.trans p.len.symm) fun j r t q1 q2 => (sub_rows o p s j r t q1 q2).1, total_eq (o.len.trans p.len.symm) (sub_rows o p s)⟩
theorem total_bound : ∀ {b : Box} {k : Nat}, (∀ r ∈ b, r.length ≤ k) → total b ≤ b.length * k
  | [], k, _ => by simp [total]
  | r :: b, k, h => by
    have := total_bound (b := b) (k := k) fun r hr => h r (List.mem_cons_of_mem _ hr)
    have h0 := h r (List.mem_cons_self ..)
    show r.length + total b ≤ (b.length + 1) * k
    rw [Nat.add_mul, Nat.one_mul]
    omega
theorem total_9 (w : WF hs) (o : BoxOk hs b) : total b ≤ 9 := by
  have h1 := total_bound (b := b) (k := 3) fun r hr => by
    obtain ⟨j, hj⟩ := List.mem_iff_getElem?.mp hr
    have := o.len_le w j
    rw [bAt_at hj] at this
    exact this
  have h2 := w.ln
  have h3 := o.len
  omega
end

/-! ### a walk until nothing changes -/
section
variable {α : Type} [DecidableEq α]
def chain (f : α → α) : Nat → α → List α
  | 0, b => [b]
  | n + 1, b => if f b = b then [b] else b :: chain f n (f b)
theorem chain_ne {f : α → α} : ∀ (n : Nat) (b : α), chain f n b ≠ []
  | 0, b => by simp [chain]
  | n + 1, b => by
    unfold chain
    split <;> simp
theorem chain_0 {f : α → α} : ∀ (n : Nat) (b : α), (chain f n b)[0]? = some b
  | 0, b => rfl
  | n + 1, b => by
    unfold chain
    split <;> rfl
theorem chain_succ {f : α → α} : ∀ (n : Nat) (b : α) (i : Nat) (x y : α), (chain f n b)[i]? = some x → (chain f n b)[i + 1]? = some y → y = f x
  | 0, b, i, x, y, h, g => by simp [chain] at g
  | n + 1, b, i, x, y, h, g => by
    unfold chain at h g
    split at h
    · rename_i e
      rw [if_pos e] at g
      simp at g
    · rename_i e
      rw [if_neg e] at g
      cases i with
      | zero =>
        simp only [List.getElem?_cons_zero, Option.some.injEq] at h
        simp only [Nat.zero_add, List.getElem?_cons_succ] at g
        rw [chain_0] at g
        cases g
        rw [h]
      | succ i =>
        simp only [List.getElem?_cons_succ] at h g
        exact chain_succ n (f b) i x y h g
theorem chain_all {f : α → α} {P : α → Prop} (hp : ∀ b, P b → P (f b)) : ∀ (n : Nat) (b : α), P b → ∀ x ∈ chain f n b, P x
  | 0, b, h, x, hx => by
    rw [chain, List.mem_singleton] at hx
    exact hx ▸ h
  | n + 1, b, h, x, hx => by
    unfold chain at hx
    split at hx
    · rw [List.mem_singleton] at hx
      exact hx ▸ h
    · rcases List.mem_cons.mp hx with e | hx
      · exact e ▸ h
      · exact chain_all hp n (f b) (hp b h) x hx
/-- the last one does not change -/
theorem chain_last {f : α → α} {P : α → Prop} {μ : α → Nat} (hp : ∀ b, P b → P (f b)) (hm : ∀ b, P b → f b ≠ b → μ (f b) < μ b) : ∀ (n : Nat) (b : α), P b → μ b ≤ n → ∀ x, (chain f n b).getLast? = some x → f x = x
  | 0, b, h, hn, x, hx => by
    rw [chain, List.getLast?_singleton] at hx
    cases hx
    by_cases e : f b = b
    · exact e
    · have := hm b h e
      omega
  | n + 1, b, h, hn, x, hx => by
    unfold chain at hx
    split at hx
    · rw [List.getLast?_singleton] at hx
      cases hx
      assumption
    · rename_i e
      have := hm b h e
      rw [List.getLast?_cons, ] at hx
      have ne := chain_ne n (f := f) (f b)
      obtain ⟨y, hy⟩ : ∃ y, (chain f n (f b)).getLast? = some y := by
        cases q : (chain f n (f b)).getLast? with
        | none => rw [List.getLast?_eq_none_iff] at q; exact absurd q ne
        | some y => exact ⟨y, rfl⟩
      rw [hy] at hx
      cases hx
      exact chain_last hp hm n (f b) (hp b h) (by omega) y hy
end
end Hs
set_option Elab.async false
set_option linter.all false
set_option maxRecDepth 100000
/-! Pn: rounds; how houses and boxes are data. -/
namespace Hs
open PySem Mp
section
variable {hs : House} {b c : Box} {f : Fd} {j x : Nat}
def lapsL (hs : House) (b : Box) : List Box := chain (growB hs) 30 b
def lastB (l : List Box) : Box := l.getLast?.getD []
def grownB (hs : House) (b : Box) : Box := lastB (lapsL hs b)
def roundsL (hs : House) (b : Box) : List Box := chain (toldB hs) 30 (grownB hs b)
def limB (hs : House) (b : Box) : Box := lastB (roundsL hs b)
theorem last_is {l : List Box} (h : l ≠ []) : l.getLast? = some (lastB l) := by
  unfold lastB
  cases q : l.getLast? with
  | none => rw [List.getLast?_eq_none_iff] at q; exact absurd q h
  | some y => rfl
theorem last_mem {l : List Box} (h : l ≠ []) : lastB l ∈ l := List.mem_of_getLast? (last_is h)
/-- what is grown -/
structure Shut (hs : House) (b : Box) : Prop extends BoxNe hs b where
  shut : Sub (toldB hs b) b
theorem grow_mu (w : WF hs) (o : BoxNe hs b) (h : growB hs b ≠ b) : 9 - total (growB hs b) < 9 - total b := by
  have h1 := sub_total o.toBoxOk (grow_ok w o.toBoxOk) (grow_sub o.toBoxOk)
  have h2 := total_9 w (grow_ok w o.toBoxOk)
  have h3 : total b ≠ total (growB hs b) := fun e => h (h1.2 e).symm
  omega
theorem laps_all (w : WF hs) (o : BoxNe hs b) : ∀ x ∈ lapsL hs b, BoxNe hs x ∧ Sub b x :=
  chain_all (P := fun x => BoxNe hs x ∧ Sub b x) (fun x h => ⟨grow_ne w h.1, h.2.trans (grow_sub h.1.toBoxOk)⟩) 30 b ⟨o, Sub.refl b⟩
theorem grown_fix (w : WF hs) (o : BoxNe hs b) : growB hs (grownB hs b) = grownB hs b :=
  chain_last (P := fun x => BoxNe hs x) (μ := fun x => 9 - total x) (fun x h => grow_ne w h) (fun x h e => grow_mu w h e) 30 b o (by omega) _ (last_is (chain_ne 30 b))
theorem grown_ok (w : WF hs) (o : BoxNe hs b) : Shut hs (grownB hs b) := by
  have h1 := laps_all w o _ (last_mem (chain_ne 30 b))
  refine ⟨h1.1, fun j x h => ?_⟩
  have e := grown_fix w o
  have := (mem_growB (j := j) (x := x) h1.1.toBoxOk).mpr (.inr h)
  have e2 : growB hs (lastB (lapsL hs b)) = lastB (lapsL hs b) := e
  rw [e2] at this
  exact this
theorem grown_sub (w : WF hs) (o : BoxNe hs b) : Sub b (grownB hs b) := (laps_all w o _ (last_mem (chain_ne 30 b))).2
theorem Shut.told (w : WF hs) (o : Shut hs b) : Shut hs (toldB hs b) := ⟨told_ne w o.toBoxNe, told_mono o.shut⟩
theorem told_mu (w : WF hs) (o : Shut hs b) (h : toldB hs b ≠ b) : total (toldB hs b) < total b := by
  have h1 := sub_total (told_ok w o.toBoxOk) o.toBoxOk o.shut
  have h3 : total (toldB hs b) ≠ total b := fun e => h (h1.2 e)
  omega
theorem rounds_all (w : WF hs) (o : BoxNe hs b) : ∀ x ∈ roundsL hs b, Shut hs x :=
  chain_all (P := fun x => Shut hs x) (fun x h => h.told w) 30 _ (grown_ok w o)
theorem lim_fix (w : WF hs) (o : BoxNe hs b) : toldB hs (limB hs b) = limB hs b :=
  chain_last (P := fun x => Shut hs x) (μ := total) (fun x h => h.told w) (fun x h e => told_mu w h e) 30 _ (grown_ok w o) (Nat.le_trans (total_9 w (grown_ok w o).toBoxOk) (by omega)) _ (last_is (chain_ne 30 _))
theorem rounds_ne : roundsL hs b ≠ [] := chain_ne 30 _
theorem lim_mem : limB hs b ∈ roundsL hs b := last_mem rounds_ne
end

/-! ### data -/
def rowD (r : List Nat) : D := .tuple (r.map fun (n : Nat) => .int (n : Int))
def lstD (r : List Nat) : D := .list (r.map fun (n : Nat) => .int (n : Int))
def boxD (b : Box) : D := .tuple (b.map rowD)
def fdD (f : Fd) : D := .tuple [.tuple (f.nm.map PyData.str), rowD f.ey, rowD f.tb]
def hsD (hs : House) : D := .tuple (hs.map fdD)
theorem eqv_ints : ∀ (r s : List Nat), PyData.eqvAll (r.map fun (n : Nat) => .int (n : Int)) (s.map fun (n : Nat) => .int (n : Int)) = decide (r = s)
  | [], [] => by simp [PyData.eqvAll]
  | x :: r, [] => by simp [PyData.eqvAll]
  | [], y :: s => by simp [PyData.eqvAll]
  | x :: r, y :: s => by
    simp only [List.map_cons, PyData.eqvAll, PyData.eqv, eqv_ints r s, List.cons.injEq]
    by_cases e : x = y
    · simp [e]
    · have : ¬ (x : Int) = (y : Int) := by omega
      simp [e, this]
theorem eqv_row (r s : List Nat) : PyData.eqv (rowD r) (rowD s) = decide (r = s) := by
  unfold rowD
  rw [PyData.eqv, eqv_ints]
theorem eqv_rows : ∀ (b c : Box), PyData.eqvAll (b.map rowD) (c.map rowD) = decide (b = c)
  | [], [] => by simp [PyData.eqvAll]
  | x :: r, [] => by simp [PyData.eqvAll]
  | [], y :: s => by simp [PyData.eqvAll]
  | x :: r, y :: s => by
    simp only [List.map_cons, PyData.eqvAll, eqv_row, eqv_rows r s, List.cons.injEq]
    by_cases e : x = y <;> simp [e]
theorem eqv_box (b c : Box) : PyData.eqv (boxD b) (boxD c) = decide (b = c) := by
  unfold boxD
  rw [PyData.eqv, eqv_rows]
theorem depth_ints : ∀ (r : List Nat), PyData.depthAll (r.map fun (n : Nat) => .int (n : Int)) = 0
  | [] => rfl
  | x :: r => by simp only [List.map_cons, PyData.depthAll, PyData.depth, depth_ints r, Nat.max_self]
theorem depth_row (r : List Nat) : PyData.depth (rowD r) = 1 := by unfold rowD; rw [PyData.depth, depth_ints]
theorem depth_rows : ∀ (b : Box), PyData.depthAll (b.map rowD) ≤ 1
  | [] => Nat.zero_le _
  | x :: r => by
    have := depth_rows r
    simp only [List.map_cons, PyData.depthAll, depth_row]
    omega
theorem depth_box (b : Box) : PyData.depth (boxD b) ≤ 64 := by
  unfold boxD
  rw [PyData.depth]
  have := depth_rows b
  omega
theorem dok_ints (r : List Nat) : depthOk (r.map fun (n : Nat) => .int (n : Int)) = true := by unfold depthOk; rw [depth_ints]; rfl
theorem any_ints (k : Nat) : ∀ (r : List Nat), ((r.map fun (n : Nat) => PyData.int (n : Int)).any fun y => PyData.eqv y (.int (k : Int))) = decide (k ∈ r)
  | [] => by simp
  | x :: r => by
    rw [List.map_cons, List.any_cons, any_ints k r]
    simp only [PyData.eqv, List.mem_cons]
    by_cases e : k = x
    · simp [e]
    · have : ¬ (x : Int) = (k : Int) := by omega
      simp [e, this]
theorem ins_cast (k : Nat) : ∀ (l : List Nat), insI (k : Int) (l.map fun (n : Nat) => (n : Int)) = (insN k l).map fun (n : Nat) => (n : Int)
  | [] => rfl
  | x :: r => by
    simp only [List.map_cons, insI, insN, ins_cast k r]
    by_cases h1 : k < x
    · rw [if_pos h1, if_pos (by omega)]; rfl
    · rw [if_neg h1, if_neg (by omega)]
      by_cases h2 : k = x
      · rw [if_pos h2, if_pos (by omega)]; rfl
      · rw [if_neg h2, if_neg (by omega)]; rfl
theorem sort_cast : ∀ (l : List Nat), sortI (l.map fun (n : Nat) => (n : Int)) = (sortN l).map fun (n : Nat) => (n : Int)
  | [] => rfl
  | x :: r => by simp only [List.map_cons, sortI, sortN, sort_cast r, ins_cast]
theorem ints_nat (l : List Nat) : (l.map fun (n : Nat) => PyData.int (n : Int)) = (l.map fun (n : Nat) => (n : Int)).map PyData.int := by rw [List.map_map]; rfl
theorem sset_nat (c : Cl) (h : Hm) (l : List Nat) (hl : l.length < 64) : unOp c .sset (.d (.list (l.map fun (n : Nat) => .int (n : Int)))) h = some (.d (lstD (sortN l)), h) := by
  rw [ints_nat, show unOp c .sset (.d (.list ((l.map fun (n : Nat) => (n : Int)).map PyData.int))) h = (if (l.map fun (n : Nat) => (n : Int)).length < 64 then some (.d (.list ((sortI (l.map fun (n : Nat) => (n : Int))).map PyData.int)), h) else none) from by simp only [evs4], List.length_map, if_pos hl, sort_cast, ← ints_nat]
  rfl
theorem sset_natT (c : Cl) (h : Hm) (l : List Nat) (hl : l.length < 64) : unOp c .sset (.d (.tuple (l.map fun (n : Nat) => .int (n : Int)))) h = some (.d (lstD (sortN l)), h) := by
  rw [ints_nat, show unOp c .sset (.d (.tuple ((l.map fun (n : Nat) => (n : Int)).map PyData.int))) h = (if (l.map fun (n : Nat) => (n : Int)).length < 64 then some (.d (.list ((sortI (l.map fun (n : Nat) => (n : Int))).map PyData.int)), h) else none) from by simp only [evs4], List.length_map, if_pos hl, sort_cast, ← ints_nat]
  rfl
/-- places -/
theorem at_map {α : Type} (g : α → D) (l : List α) (j : Nat) : atI (l.map g) (j : Int) = (l[j]?).map g := by rw [atI_nat, List.getElem?_map]
theorem at_map0 {α : Type} (g : α → D) (l : List α) : atI (l.map g) 0 = (l[0]?).map g := by rw [atI_0, List.getElem?_map]
theorem at_lastM {α : Type} (g : α → D) (l : List α) (a : α) (h : l.getLast? = some a) : atI (l.map g) (-1) = some (g a) := by
  obtain ⟨ys, rfl⟩ := List.getLast?_eq_some_iff.mp h
  rw [List.map_append]
  exact atI_last _ _
theorem evsF : (∀ a b c : D, atI [a, b, c] 0 = some a) ∧ (∀ a b c : D, atI [a, b, c] 1 = some b) ∧ (∀ a b c : D, atI [a, b, c] 2 = some c) ∧ (∀ a b : D, atI [a, b] 0 = some a) ∧ (∀ a b : D, atI [a, b] 1 = some b) := ⟨fun _ _ _ => rfl, fun _ _ _ => rfl, fun _ _ _ => rfl, fun _ _ => rfl, fun _ _ => rfl⟩
theorem most_eq : most = 16777216 := rfl
theorem rng_nat (n : Nat) : rngD 0 n = (List.range n).map fun (i : Nat) => PyData.int (i : Int) := by
  unfold rngD
  exact List.map_congr_left fun i _ => by rw [Int.zero_add]
theorem if_most {α : Type} {n : Nat} {a b : α} (h : n < 16777216) : (if n ≤ most then a else b) = a := if_pos (by rw [most_eq]; omega)
theorem zip_maps {α β : Type} (f : α → D) (g : β → D) : ∀ (l : List α) (m : List β), zipD (l.map f) (m.map g) = (l.zip m).map fun p => PyData.tuple [f p.1, g p.2]
  | [], m => by simp [zipD]
  | x :: l, [] => by simp [zipD]
  | x :: l, y :: m => by
    have := zip_maps f g l m
    unfold zipD at this ⊢
    simp only [List.map_cons, List.zipWith_cons_cons, List.zip_cons_cons, this]
theorem enum_map {α : Type} (f : α → D) (l : List α) : enumD (l.map f) = (l.zipIdx.map fun p => PyData.tuple [.int (p.2 : Int), f p.1]) := by
  unfold enumD
  refine List.ext_getElem? fun j => ?_
  rw [List.getElem?_zipWith, List.getElem?_map, List.getElem?_map, List.getElem?_zipIdx, List.length_map]
  by_cases h : j < l.length
  · rw [List.getElem?_range h, List.getElem?_eq_getElem h]
    simp
  · rw [List.getElem?_eq_none (by omega : l.length ≤ j)]
    simp
/-- heaps -/
theorem take_self (h : Hm) : h.take h.length = h := List.take_length
theorem take_set (h : Hm) (k : Nat) (o : MO) : (h.set k o).take h.length = h.set k o := List.take_of_length_le (by rw [List.length_set]; exact Nat.le_refl _)
theorem take_app (h l : Hm) : (h ++ l).take h.length = h := List.take_left ..
theorem take_appS (h l : Hm) (k : Nat) (o : MO) : (h.set k o ++ l).take h.length = h.set k o := by
  rw [← List.length_set (as := h) (i := k) (a := o)]
  exact List.take_left ..
theorem evsH : (∀ h : Hm, h.take h.length = h) ∧ (∀ (h : Hm) (k : Nat) (o : MO), (h.set k o).take h.length = h.set k o) ∧ (∀ (h l : Hm), (h ++ l).take h.length = h) ∧ (∀ (h l : Hm) (k : Nat) (o : MO), (h.set k o ++ l).take h.length = h.set k o) := ⟨take_self, take_set, take_app, take_appS⟩
end Hs
set_option Elab.async false
set_option linter.all false
set_option maxRecDepth 100000
/-! Py: operations on a list of the heap; a while loop that walks until nothing changes. -/
namespace Hs
open PySem Mp
section
variable {c : Cl} {h : Hm} {k : Nat} {xs : List D}
theorem len_ref (e : h[k]? = some (.lst xs)) : unOp c .len (.ref k) h = some (.d (.int xs.length), h) := by simp only [unOp, rd, e]
theorem tuple_ref (e : h[k]? = some (.lst xs)) : unOp c .tuple (.ref k) h = some (.d (.tuple xs), h) := by simp only [unOp, rd, e]
theorem sorted_ref {ns : List Int} (e : h[k]? = some (.lst (ns.map PyData.int))) (hl : ns.length < 64) : unOp c .sorted (.ref k) h = some (.d (.list ((isortI ns).map PyData.int)), h) := by simp only [unOp, rd, e, Option.bind_some, intsD', rmap_ints, if_pos hl]
theorem ix_ref (e : h[k]? = some (.lst xs)) (i : Int) : binOp c .ix (.ref k) (.d (.int i)) h = match atI xs i with | some x => some (.d x, h) | none => none := by simp only [binOp, rd, e, Option.bind_some, seqD] <;> rfl
theorem apnd_ref (e : h[k]? = some (.lst xs)) (x : D) : binOp c .apnd (.ref k) (.d x) h = if xs.length < most then some (.d .none, h.set k (.lst (xs ++ [x]))) else none := by simp only [binOp, toD, e]
theorem popat_ref (e : h[k]? = some (.lst xs)) {i : Nat} {x : D} (hx : xs[i]? = some x) (hl : xs.length ≤ most) : binOp c .popat (.ref k) (.d (.int (i : Int))) h = some (.d x, h.set k (.lst (xs.eraseIdx i))) := by
  have hi := (List.getElem?_eq_some_iff.mp hx).1
  simp only [binOp, e, ixN_nat hi, hx, if_pos hl]
theorem preA_ref (e : h[k]? = some (.lst xs)) : pre .apnd (.ref k) h = true := by simp only [pre, pre.isL, e]
theorem preP_ref (e : h[k]? = some (.lst xs)) : pre .popat (.ref k) h = true := by simp only [pre, pre.isL, e]
theorem sl_ref (e : h[k]? = some (.lst xs)) (m : Bool) (lo hi : Option Int) : slOp c m (.ref k) lo hi h = some (mkL m (cutD xs lo hi) h) := by simp only [slOp, rd, e]
theorem sl_list (m : Bool) (lo hi : Option Int) : slOp c m (.d (.list xs)) lo hi h = some (mkL m (cutD xs lo hi) h) := rfl
theorem sl_tuple (m : Bool) (lo hi : Option Int) : slOp c m (.d (.tuple xs)) lo hi h = some (.d (.tuple (cutD xs lo hi)), h) := rfl
theorem frz_ref (e : h[k]? = some (.lst xs)) : frz (.ref k) h = some (xs, h.set k (.ice xs)) := by simp only [frz, toD, e, Option.bind_some, seqD, Option.map_some]
theorem toD_ref (e : h[k]? = some (.lst xs)) : toD (.ref k) h = some (.list xs, h.set k (.ice xs)) := by simp only [toD, e]
theorem tru_ref (e : h[k]? = some (.lst xs)) : tru c (.ref k) h = some (!xs.isEmpty) := by simp only [tru, rd, e]
theorem fin_fresh (e : h[k]? = some (.lst xs)) {b : Nat} (hk : b ≤ k) : fin true b (.ref k) h = some (.ref b, h.take b ++ [.lst xs]) := by
  unfold fin
  simp only [if_neg (show ¬ k < b by omega), e]
theorem fin_list (e : h[k]? = some (.lst xs)) {b : Nat} (hk : b ≤ k) : fin false b (.ref k) h = some (.d (.list xs), h.take b) := by
  unfold fin
  simp only [if_neg (show ¬ k < b by omega), e]
theorem fin_old {fr : Bool} {b : Nat} (hk : k < b) : fin fr b (.ref k) h = some (.ref k, h.take b) := by
  unfold fin
  simp only [if_pos hk]
end
theorem app_at0 (h : Hm) (o : MO) (l : Hm) : (h ++ o :: l)[h.length]? = some o := by simp
theorem app_at1 (h : Hm) (o1 o2 : MO) (l : Hm) : (h ++ o1 :: o2 :: l)[h.length + 1]? = some o2 := by simp
theorem app_at2 (h : Hm) (o1 o2 o3 : MO) (l : Hm) : (h ++ o1 :: o2 :: o3 :: l)[h.length + 2]? = some o3 := by simp
theorem app_old {h : Hm} {k : Nat} {o : MO} (e : h[k]? = some o) (l : Hm) : (h ++ l)[k]? = some o := by
  rw [List.getElem?_append_left (List.getElem?_eq_some_iff.mp e).1]
  exact e
theorem set_app0 (h : Hm) (o o' : MO) (l : Hm) : (h ++ o :: l).set h.length o' = h ++ o' :: l := by simp
theorem set_app1 (h : Hm) (o1 o2 o' : MO) (l : Hm) : (h ++ o1 :: o2 :: l).set (h.length + 1) o' = h ++ o1 :: o' :: l := by simp
theorem set_old {h : Hm} {k : Nat} {o : MO} (e : h[k]? = some o) (o' : MO) (l : Hm) : (h ++ l).set k o' = h.set k o' ++ l := by
  rw [List.set_append_left _ _ (List.getElem?_eq_some_iff.mp e).1]
theorem app_len1 (h : Hm) (o : MO) : (h ++ [o]).length = h.length + 1 := by simp
theorem app_app1 (h : Hm) (o o' : MO) : h ++ [o] ++ [o'] = h ++ [o, o'] := by simp
theorem set_app2 (h : Hm) (o1 o2 o3 o' : MO) (l : Hm) : (h ++ o1 :: o2 :: o3 :: l).set (h.length + 2) o' = h ++ o1 :: o2 :: o' :: l := by simp
theorem set_app3 (h : Hm) (o1 o2 o3 o4 o' : MO) (l : Hm) : (h ++ o1 :: o2 :: o3 :: o4 :: l).set (h.length + 3) o' = h ++ o1 :: o2 :: o3 :: o' :: l := by simp
theorem set_app4 (h : Hm) (o1 o2 o3 o4 o5 o' : MO) (l : Hm) : (h ++ o1 :: o2 :: o3 :: o4 :: o5 :: l).set (h.length + 4) o' = h ++ o1 :: o2 :: o3 :: o4 :: o' :: l := by simp
theorem evsA : (∀ (h : Hm) (o : MO) (l : Hm), (h ++ o :: l)[h.length]? = some o) ∧ (∀ (h : Hm) (o1 o2 : MO) (l : Hm), (h ++ o1 :: o2 :: l)[h.length + 1]? = some o2) ∧ (∀ (h : Hm) (o o' : MO) (l : Hm), (h ++ o :: l).set h.length o' = h ++ o' :: l) ∧ (∀ (h : Hm) (o1 o2 o' : MO) (l : Hm), (h ++ o1 :: o2 :: l).set (h.length + 1) o' = h ++ o1 :: o' :: l) ∧
    (∀ (h : Hm) (o1 o2 o3 o' : MO) (l : Hm), (h ++ o1 :: o2 :: o3 :: l).set (h.length + 2) o' = h ++ o1 :: o2 :: o' :: l) ∧ (∀ (h : Hm) (o1 o2 o3 o4 o' : MO) (l : Hm), (h ++ o1 :: o2 :: o3 :: o4 :: l).set (h.length + 3) o' = h ++ o1 :: o2 :: o3 :: o' :: l) ∧ (∀ (h : Hm) (o1 o2 o3 o4 o5 o' : MO) (l : Hm), (h ++ o1 :: o2 :: o3 :: o4 :: o5 :: l).set (h.length + 4) o' = h ++ o1 :: o2 :: o3 :: o4 :: o' :: l) ∧
    (∀ (h : Hm) (o : MO), (h ++ [o]).length = h.length + 1) ∧ (∀ (h : Hm) (o o' : MO), h ++ [o] ++ [o'] = h ++ [o, o']) :=
  ⟨app_at0, app_at1, set_app0, set_app1, set_app2, set_app3, set_app4, app_len1, app_app1⟩
theorem fturn_nm (c : Cl) (i : Nat) (body : MSs) (x : D) (env : Ev) (h : Hm) : fturn c (.nm i) body x env h = evSs c body (env.set i (some (.d x))) h := rfl
/-- slices -/
theorem cut_last (xs : List D) (a : D) : cutD (xs ++ [a]) none (some (-1)) = xs := by
  unfold cutD sIx
  simp only [show ((-1 : Int) < 0) from by omega, if_true, List.length_append, List.length_singleton, List.drop_zero]
  rw [show (-1 + ((xs.length + 1 : Nat) : Int)).toNat - 0 = xs.length by omega]
  exact List.take_left ..
theorem cut_to (xs : List D) (k : Nat) : cutD xs none (some (k : Int)) = xs.take k := by
  unfold cutD sIx
  simp only [show ¬ ((k : Int) < 0) from by omega, if_false, List.drop_zero, Nat.sub_zero, Int.toNat_natCast]
  rcases Nat.le_total k xs.length with h | h
  · rw [Nat.min_eq_left h]
  · rw [Nat.min_eq_right h, List.take_of_length_le (Nat.le_refl _), List.take_of_length_le h]
theorem cut_from (xs : List D) (k : Nat) : cutD xs (some (k : Int)) none = xs.drop k := by
  unfold cutD sIx
  simp only [show ¬ ((k : Int) < 0) from by omega, if_false, Int.toNat_natCast]
  rcases Nat.le_total k xs.length with h | h
  · rw [Nat.min_eq_left h, List.take_of_length_le (by rw [List.length_drop]; exact Nat.le_refl _)]
  · rw [Nat.min_eq_right h, List.drop_eq_nil_of_le (Nat.le_refl _), List.drop_eq_nil_of_le h]
    simp

/-- the loop that walks until nothing changes -/
theorem chain_while {α : Type} [DecidableEq α] {f : α → α} {P : α → Prop} {μ : α → Nat} {enc : α → D} (hp : ∀ b, P b → P (f b)) (hm : ∀ b, P b → f b ≠ b → μ (f b) < μ b) {test : Ev → Hm → Option (Bool × Hm)} {body : Ev → Hm → Option (Out × Ev × Hm)} {E : Ev → Prop} {h : Hm}
    (ht1 : ∀ env, E env → ∀ x, test env (h ++ [.lst [enc x]]) = some (true, h ++ [.lst [enc x]]))
    (ht2 : ∀ env, E env → ∀ (c : List α) (x y : α), test env (h ++ [.lst ((c ++ [x, y]).map enc)]) = some (decide (y ≠ x), h ++ [.lst ((c ++ [x, y]).map enc)]))
    (hb : ∀ env, E env → ∀ (c : List α) (x : α), P x → c.length < 100 → ∃ env', E env' ∧ body env (h ++ [.lst ((c ++ [x]).map enc)]) = some (.next, env', h ++ [.lst ((c ++ [x, f x]).map enc)])) :
    ∀ (N : Nat) (b : α) (env : Ev), N < 90 → P b → μ b ≤ N → E env → ∃ env' d z, E env' ∧ chain f N b = d ++ [z] ∧ whileL test body fuelW env (h ++ [.lst [enc b]]) = some (.next, env', h ++ [.lst ((d ++ [z, f z]).map enc)]) := by
  have key : ∀ (k fuel : Nat) (c : List α) (y : α) (env : Ev), E env → P y → μ y ≤ k → c.length + k < 95 → k + 2 ≤ fuel → ∃ env' d z, E env' ∧ chain f k y = d ++ [z] ∧ whileL test body fuel env (h ++ [.lst ((c ++ [y, f y]).map enc)]) = some (.next, env', h ++ [.lst ((c ++ d ++ [z, f z]).map enc)]) := by
    intro k
    induction k with
    | zero =>
      intro fuel c y env he py hk hc hf
      obtain ⟨fuel, rfl⟩ : ∃ m, fuel = m + 1 := ⟨fuel - 1, by omega⟩
      have e : f y = y := by
        by_cases q : f y = y
        · exact q
        · have := hm y py q
          omega
      refine ⟨env, [], y, he, rfl, ?_⟩
      unfold whileL
      rw [ht2 env he c y (f y), e]
      simp
    | succ k ih =>
      intro fuel c y env he py hk hc hf
      obtain ⟨fuel, rfl⟩ : ∃ m, fuel = m + 1 := ⟨fuel - 1, by omega⟩
      by_cases q : f y = y
      · refine ⟨env, [], y, he, by unfold chain; rw [if_pos q]; rfl, ?_⟩
        unfold whileL
        rw [ht2 env he c y (f y), q]
        simp
      · have hlt := hm y py q
        obtain ⟨env1, e1, b1⟩ := hb env he (c ++ [y]) (f y) (hp y py) (by rw [List.length_append, List.length_singleton]; omega)
        obtain ⟨env', d, z, e2, c2, w2⟩ := ih fuel (c ++ [y]) (f y) env1 e1 (hp y py) (by omega) (by rw [List.length_append, List.length_singleton]; omega) (by omega)
        refine ⟨env', y :: d, z, e2, by unfold chain; rw [if_neg q, c2]; rfl, ?_⟩
        unfold whileL
        rw [ht2 env he c y (f y), decide_eq_true q]
        show (body env (h ++ [.lst ((c ++ [y, f y]).map enc)])).bind _ = _
        rw [show c ++ [y, f y] = (c ++ [y]) ++ [f y] by simp, b1]
        show whileL test body fuel env1 (h ++ [.lst (((c ++ [y]) ++ [f y, f (f y)]).map enc)]) = _
        rw [w2]
        simp
  intro N b env hN pb hk he
  obtain ⟨env1, e1, b1⟩ := hb env he [] b pb (by simp)
  obtain ⟨env', d, z, e2, c2, w2⟩ := key N 999999 [] b env1 e1 pb hk (by simp; omega) (by omega)
  refine ⟨env', d, z, e2, c2, ?_⟩
  rw [show fuelW = 999999 + 1 from rfl]
  unfold whileL
  rw [ht1 env he b]
  show (body env (h ++ [.lst (([] ++ [b]).map enc)])).bind _ = _
  rw [b1]
  exact w2
end Hs
set_option Elab.async false
set_option linter.all false
set_option maxRecDepth 100000
/-! K87P: the mini program of the law (written by gen_law.py). -/
namespace K87
open PySem Mp
def f_is_number : Df := ⟨none, "is_number", ["thing"], ["thing"], false, (.cons (.ret (.and (.un (.isi ["int"]) (.var 0)) (.not (.un (.isi ["bool"]) (.var 0))))) .nil)⟩
def f_tupled : Df := ⟨none, "tupled", ["value"], ["value", "own"], false, (.cons (.ret (.ite (.un (.isi ["list", "tuple"]) (.var 0)) (.un .tuple (.lc false (.call "tupled" (.cons (.var 1) .nil)) (.nm 1) (.seq (.var 0)) (.con (.bool true)) [1])) (.var 0))) .nil)⟩
def f_set_of : Df := ⟨none, "set_of", ["row"], ["row"], false, (.cons (.ret (.un .tuple (.un .sset (.var 0)))) .nil)⟩
def f_sizes_of : Df := ⟨none, "sizes_of", ["house", "places"], ["house", "places", "own"], false, (.cons (.ret (.lc false (.un .len (.bin .ix (.bin .ix (.var 0) (.var 2)) (.gl "VALUES_houses" (.int 0)))) (.nm 2) (.seq (.var 1)) (.con (.bool true)) [2])) .nil)⟩
def f_is_value : Df := ⟨none, "is_value", ["house", "place", "thing"], ["house", "place", "thing"], false, (.cons (.ret (.and (.call "is_number" (.cons (.var 2) .nil)) (.chain .le .lt (.con (.int 0)) (.var 2) (.un .len (.bin .ix (.bin .ix (.var 0) (.var 1)) (.gl "VALUES_houses" (.int 0))))))) .nil)⟩
def f_check_place : Df := ⟨none, "check_place", ["house", "place"], ["house", "place"], false, (.cons (.ifs (.or (.not (.call "is_number" (.cons (.var 1) .nil))) (.not (.chain .le .lt (.con (.int 0)) (.var 1) (.un .len (.var 0))))) (.cons .never .nil) .nil) .nil)⟩
def f_table_at : Df := ⟨none, "table_at", ["house", "place", "row"], ["house", "place", "row", "number", "own", "size"], false, (.cons (.asg (.pt (.nm 3)) (.con (.int 0))) (.cons (.for_ (.tup (.cons (.nm 4) (.cons (.nm 5) .nil))) (.zip (.var 2) (.call "sizes_of" (.cons (.var 0) (.cons (.bin .ix (.bin .ix (.var 0) (.var 1)) (.gl "WATCHED_houses" (.int 1))) .nil)))) (.cons (.asg (.pt (.nm 3)) (.bin (.add false) (.bin .mul (.var 3) (.var 5)) (.var 4))) .nil)) (.cons (.ret (.bin .ix (.bin .ix (.bin .ix (.var 0) (.var 1)) (.gl "TABLE" (.int 2))) (.var 3))) .nil)))⟩
def f_is_row : Df := ⟨none, "is_row", ["house", "place", "row"], ["house", "place", "row", "watched", "near", "own"], false, (.cons (.asg (.pt (.nm 3)) (.bin .ix (.bin .ix (.var 0) (.var 1)) (.gl "WATCHED_houses" (.int 1)))) (.cons (.ret (.and (.bin .eq (.un .len (.var 2)) (.un .len (.var 3))) (.un .all (.lc false (.call "is_value" (.cons (.var 0) (.cons (.var 4) (.cons (.var 5) .nil)))) (.tup (.cons (.nm 4) (.cons (.nm 5) .nil))) (.zip (.var 3) (.var 2)) (.con (.bool true)) [4, 5])))) .nil))⟩
def f_check_row : Df := ⟨none, "check_row", ["house", "place", "row"], ["house", "place", "row"], false, (.cons (.ifs (.not (.call "is_row" (.cons (.var 0) (.cons (.var 1) (.cons (.var 2) .nil))))) (.cons .never .nil) .nil) .nil)⟩
def f_tells : Df := ⟨none, "tells", ["house", "place", "row"], ["house", "place", "row"], false, (.cons (.expr (.call "check_place" (.cons (.var 0) (.cons (.var 1) .nil)))) (.cons (.expr (.call "check_row" (.cons (.var 0) (.cons (.var 1) (.cons (.var 2) .nil))))) (.cons (.ret (.call "table_at" (.cons (.var 0) (.cons (.var 1) (.cons (.var 2) .nil))))) .nil)))⟩
def f_tells_now : Df := ⟨none, "tells_now", ["house", "place", "state"], ["house", "place", "state", "own"], false, (.cons (.ret (.call "table_at" (.cons (.var 0) (.cons (.var 1) (.cons (.lc false (.bin .ix (.var 2) (.var 3)) (.nm 3) (.seq (.bin .ix (.bin .ix (.var 0) (.var 1)) (.gl "WATCHED_houses" (.int 1)))) (.con (.bool true)) [3]) .nil))))) .nil)⟩
def f_all_act : Df := ⟨none, "all_act", ["house", "state"], ["house", "state", "place"], false, (.cons (.ret (.un .tuple (.lc false (.call "tells_now" (.cons (.var 0) (.cons (.var 2) (.cons (.var 1) .nil)))) (.nm 2) (.rng (.un .len (.var 0))) (.con (.bool true)) [2]))) .nil)⟩
def f_is_rest : Df := ⟨none, "is_rest", ["house", "state"], ["house", "state"], false, (.cons (.ret (.bin .eq (.call "all_act" (.cons (.var 0) (.cons (.var 1) .nil))) (.un .tuple (.var 1)))) .nil)⟩
def f_rows_among : Df := ⟨none, "rows_among", ["sets"], ["sets", "found", "some", "own", "number"], false, (.cons (.asg (.pt (.nm 1)) (.lst false (.cons (.tup .nil) .nil))) (.cons (.for_ (.nm 2) (.seq (.var 0)) (.cons (.asg (.pt (.nm 1)) (.lc2 false (.tup (.star (.var 3) (.cons (.var 4) .nil))) (.nm 3) (.seq (.var 1)) (.con (.bool true)) (.nm 4) (.seq (.var 2)) (.con (.bool true)) [3, 4] [4])) .nil)) (.cons (.ret (.var 1)) .nil)))⟩
def f_lies_in : Df := ⟨none, "lies_in", ["house", "box", "other"], ["house", "box", "other", "near", "far", "number"], false, (.cons (.ret (.un .all (.lc false (.un .all (.lc false (.bin .isin (.var 5) (.var 4)) (.nm 5) (.seq (.var 3)) (.con (.bool true)) [5])) (.tup (.cons (.nm 3) (.cons (.nm 4) .nil))) (.zip (.var 1) (.var 2)) (.con (.bool true)) [3, 4]))) .nil)⟩
def f_point_of : Df := ⟨none, "point_of", ["house", "box"], ["house", "box", "own"], false, (.cons (.ret (.ite (.un .all (.lc false (.bin .eq (.un .len (.var 2)) (.con (.int 1))) (.nm 2) (.seq (.var 1)) (.con (.bool true)) [2])) (.un .tuple (.lc false (.bin .ix (.var 2) (.con (.int 0))) (.nm 2) (.seq (.var 1)) (.con (.bool true)) [2])) (.con .none))) .nil)⟩
def f_rows_inside : Df := ⟨none, "rows_inside", ["house", "box", "place"], ["house", "box", "place", "near"], false, (.cons (.ret (.call "rows_among" (.cons (.lc false (.bin .ix (.var 1) (.var 3)) (.nm 3) (.seq (.bin .ix (.bin .ix (.var 0) (.var 2)) (.gl "WATCHED_houses" (.int 1)))) (.con (.bool true)) [3]) .nil))) .nil)⟩
def f_told_part : Df := ⟨none, "told_part", ["house", "box", "place"], ["house", "box", "place", "row"], false, (.cons (.ret (.call "set_of" (.cons (.lc false (.call "table_at" (.cons (.var 0) (.cons (.var 2) (.cons (.var 3) .nil)))) (.nm 3) (.seq (.call "rows_inside" (.cons (.var 0) (.cons (.var 1) (.cons (.var 2) .nil))))) (.con (.bool true)) [3]) .nil))) .nil)⟩
def f_told_box : Df := ⟨none, "told_box", ["house", "box"], ["house", "box", "place"], false, (.cons (.ret (.un .tuple (.lc false (.call "told_part" (.cons (.var 0) (.cons (.var 1) (.cons (.var 2) .nil)))) (.nm 2) (.rng (.un .len (.var 0))) (.con (.bool true)) [2]))) .nil)⟩
def f_laps_grown : Df := ⟨none, "laps_grown", ["house", "box", "some"], ["house", "box", "some", "found", "here", "told", "place", "near", "far"], false, (.cons (.asg (.pt (.nm 3)) (.lst true (.cons (.call "tupled" (.cons (.var 1) .nil)) .nil))) (.cons (.while_ (.or (.bin .lt (.un .len (.var 3)) (.gl "PAIR" (.int 2))) (.bin .ne (.bin .ix (.var 3) (.un .neg (.con (.int 1)))) (.bin .ix (.var 3) (.un .neg (.gl "PAIR" (.int 2)))))) (.cons (.asg (.pt (.nm 4)) (.bin .ix (.var 3) (.un .neg (.con (.int 1))))) (.cons (.asg (.pt (.nm 5)) (.lc false (.ite (.bin .isin (.var 6) (.var 2)) (.tup .nil) (.call "told_part" (.cons (.var 0) (.cons (.var 4) (.cons (.var 6) .nil))))) (.nm 6) (.rng (.un .len (.var 0))) (.con (.bool true)) [6])) (.cons (.expr (.bin .apnd (.var 3) (.un .tuple (.lc false (.call "set_of" (.cons (.lst false (.star (.var 7) (.star (.var 8) .nil))) .nil)) (.tup (.cons (.nm 7) (.cons (.nm 8) .nil))) (.zip (.var 4) (.var 5)) (.con (.bool true)) [7, 8])))) .nil)))) (.cons (.ret (.sl false (.var 3) (.con .none) (.un .neg (.con (.int 1))))) .nil)))⟩
def f_grown : Df := ⟨none, "grown", ["house", "box"], ["house", "box"], false, (.cons (.ret (.bin .ix (.call "laps_grown" (.cons (.var 0) (.cons (.var 1) (.cons (.tup .nil) .nil)))) (.un .neg (.con (.int 1))))) .nil)⟩
def f_rounds : Df := ⟨none, "rounds", ["house", "box"], ["house", "box", "found"], false, (.cons (.asg (.pt (.nm 2)) (.lst true (.cons (.call "grown" (.cons (.var 0) (.cons (.var 1) .nil))) .nil))) (.cons (.while_ (.or (.bin .lt (.un .len (.var 2)) (.gl "PAIR" (.int 2))) (.bin .ne (.bin .ix (.var 2) (.un .neg (.con (.int 1)))) (.bin .ix (.var 2) (.un .neg (.gl "PAIR" (.int 2)))))) (.cons (.expr (.bin .apnd (.var 2) (.call "told_box" (.cons (.var 0) (.cons (.bin .ix (.var 2) (.un .neg (.con (.int 1)))) .nil))))) .nil)) (.cons (.ret (.sl false (.var 2) (.con .none) (.un .neg (.con (.int 1))))) .nil)))⟩
def f_limit : Df := ⟨none, "limit", ["house", "box"], ["house", "box"], false, (.cons (.ret (.bin .ix (.call "rounds" (.cons (.var 0) (.cons (.var 1) .nil))) (.un .neg (.con (.int 1))))) .nil)⟩
def f_begin_versions : Df := ⟨none, "begin_versions", ["start"], ["start", "found", "value", "lot", "row", "own"], false, (.cons (.asg (.pt (.nm 1)) (.lst true .nil)) (.cons (.for_ (.tup (.cons (.nm 2) (.cons (.nm 3) .nil))) (.zip (.bin .ix (.var 0) (.con (.int 0))) (.bin .ix (.var 0) (.con (.int 1)))) (.cons (.asg (.pt (.nm 4)) (.bin (.add false) (.lc false (.var 5) (.nm 5) (.seq (.var 3)) (.bin .ne (.var 5) (.var 2)) [5]) (.lst false (.cons (.var 2) .nil)))) (.cons (.expr (.bin .apnd (.var 1) (.tupEn (.var 4)))) .nil))) (.cons (.ret (.un .tuple (.var 1))) .nil)))⟩
def f_put_at : Df := ⟨none, "put_at", ["row", "place", "thing"], ["row", "place", "thing"], false, (.cons (.ret (.tup (.star (.sl false (.var 0) (.con .none) (.var 1)) (.cons (.var 2) (.star (.sl false (.var 0) (.bin (.add false) (.var 1) (.con (.int 1))) (.con .none)) .nil))))) .nil)⟩
def f_Board___init__ : Df := ⟨some "Board", "__init__", ["self", "house", "start"], ["self", "house", "start", "lasts", "row", "field", "near"], false, (.cons (.par (.cons (.fld 0 "Board" "own_house") (.cons (.fld 0 "Board" "own_start") .nil)) (.cons (.call "tupled" (.cons (.var 1) .nil)) (.cons (.call "tupled" (.cons (.var 2) .nil)) .nil))) (.cons (.asg (.fld 0 "Board" "own_versions") (.call "begin_versions" (.cons (.un (.fld "own_start") (.var 0)) .nil))) (.cons (.asg (.pt (.nm 3)) (.lc false (.bin .ix (.bin .ix (.var 4) (.un .neg (.con (.int 1)))) (.con (.int 0))) (.nm 4) (.seq (.un (.fld "own_versions") (.var 0))) (.con (.bool true)) [4])) (.cons (.asg (.fld 0 "Board" "own_pictures") (.un .tuple (.lc false (.un .tuple (.lc false (.bin .ix (.var 3) (.var 6)) (.nm 6) (.seq (.bin .ix (.var 5) (.gl "WATCHED_board" (.int 1)))) (.con (.bool true)) [6])) (.nm 5) (.seq (.un (.fld "own_house") (.var 0))) (.con (.bool true)) [5]))) (.cons (.par (.cons (.fld 0 "Board" "own_moves") (.cons (.fld 0 "Board" "own_free") (.cons (.fld 0 "Board" "own_past") .nil))) (.cons (.tup .nil) (.cons (.con (.bool true)) (.cons (.tup .nil) .nil)))) .nil)))))⟩
def f_Board___len__ : Df := ⟨some "Board", "__len__", ["self"], ["self"], false, (.cons (.ret (.un .len (.un (.fld "own_past") (.var 0)))) .nil)⟩
def f_Board___iter__ : Df := ⟨some "Board", "__iter__", ["self"], ["self"], false, (.cons .never .nil)⟩
def f_Board___eq__ : Df := ⟨some "Board", "__eq__", ["self", "other"], ["self", "other"], false, (.cons .never .nil)⟩
def f_Board_seen : Df := ⟨some "Board", "seen", ["self"], ["self"], false, (.cons (.ret (.tup (.cons (.un (.fld "own_house") (.var 0)) (.cons (.un (.fld "own_versions") (.var 0)) (.cons (.un (.fld "own_pictures") (.var 0)) .nil))))) .nil)⟩
def f_Board_note : Df := ⟨some "Board", "note", ["self"], ["self", "kept"], false, (.cons (.asg (.pt (.nm 1)) (.tup (.cons (.un (.fld "own_house") (.var 0)) (.cons (.un (.fld "own_versions") (.var 0)) (.cons (.un (.fld "own_pictures") (.var 0)) (.cons (.un (.fld "own_moves") (.var 0)) (.cons (.un (.fld "own_free") (.var 0)) .nil))))))) (.cons (.asg (.fld 0 "Board" "own_past") (.tup (.star (.un (.fld "own_past") (.var 0)) (.cons (.var 1) .nil)))) .nil))⟩
def f_Board_check_place : Df := ⟨some "Board", "check_place", ["self", "place"], ["self", "place"], false, (.cons (.ifs (.or (.not (.call "is_number" (.cons (.var 1) .nil))) (.not (.chain .le .lt (.con (.int 0)) (.var 1) (.un .len (.un (.fld "own_house") (.var 0)))))) (.cons .never .nil) .nil) .nil)⟩
def f_Board_check_spot : Df := ⟨some "Board", "check_spot", ["self", "place", "spot"], ["self", "place", "spot"], false, (.cons (.expr (.meth 0 "Board" "check_place" (.cons (.var 1) .nil))) (.cons (.ifs (.or (.not (.call "is_number" (.cons (.var 2) .nil))) (.not (.chain .le .lt (.con (.int 0)) (.var 2) (.un .len (.bin .ix (.bin .ix (.un (.fld "own_house") (.var 0)) (.var 1)) (.gl "WATCHED_board" (.int 1))))))) (.cons .never .nil) .nil) .nil))⟩
def f_Board_check_version : Df := ⟨some "Board", "check_version", ["self", "place", "number"], ["self", "place", "number", "own"], false, (.cons (.ifs (.or (.not (.call "is_number" (.cons (.var 2) .nil))) (.bin .notin (.var 2) (.lc false (.bin .ix (.var 3) (.con (.int 0))) (.nm 3) (.seq (.bin .ix (.un (.fld "own_versions") (.var 0)) (.var 1))) (.con (.bool true)) [3]))) (.cons .never .nil) .nil) .nil)⟩
def f_Board_value_of : Df := ⟨some "Board", "value_of", ["self", "place", "name"], ["self", "place", "name", "names"], false, (.cons .never .nil)⟩
def f_Board_worth : Df := ⟨some "Board", "worth", ["self", "place", "number"], ["self", "place", "number"], false, (.cons (.ret (.bin .dget (.bin .ix (.un (.fld "own_versions") (.var 0)) (.var 1)) (.var 2))) .nil)⟩
def f_Board_put : Df := ⟨some "Board", "put", ["self", "place", "value"], ["self", "place", "value", "row"], false, (.cons (.asg (.pt (.nm 3)) (.bin .ix (.un (.fld "own_versions") (.var 0)) (.var 1))) (.cons (.asg (.fld 0 "Board" "own_versions") (.call "put_at" (.cons (.un (.fld "own_versions") (.var 0)) (.cons (.var 1) (.cons (.tup (.star (.var 3) (.cons (.tup (.cons (.bin (.add false) (.bin .ix (.bin .ix (.var 3) (.un .neg (.con (.int 1)))) (.con (.int 0))) (.con (.int 1))) (.cons (.var 2) .nil))) .nil))) .nil))))) .nil))⟩
def f_Board_show : Df := ⟨some "Board", "show", ["self", "place", "spot", "number"], ["self", "place", "spot", "number"], false, (.cons (.expr (.meth 0 "Board" "check_spot" (.cons (.var 1) (.cons (.var 2) .nil)))) (.cons (.expr (.meth 0 "Board" "check_version" (.cons (.bin .ix (.bin .ix (.bin .ix (.un (.fld "own_house") (.var 0)) (.var 1)) (.gl "WATCHED_board" (.int 1))) (.var 2)) (.cons (.var 3) .nil)))) (.cons (.expr (.meth 0 "Board" "note" .nil)) (.cons (.asg (.fld 0 "Board" "own_pictures") (.call "put_at" (.cons (.un (.fld "own_pictures") (.var 0)) (.cons (.var 1) (.cons (.call "put_at" (.cons (.bin .ix (.un (.fld "own_pictures") (.var 0)) (.var 1)) (.cons (.var 2) (.cons (.var 3) .nil)))) .nil))))) .nil))))⟩
def f_Board_act : Df := ⟨some "Board", "act", ["self", "place"], ["self", "place", "value"], false, (.cons (.asg (.pt (.nm 2)) (.meth 0 "Board" "would" (.cons (.var 1) .nil))) (.cons (.expr (.meth 0 "Board" "note" .nil)) (.cons (.expr (.meth 0 "Board" "put" (.cons (.var 1) (.cons (.var 2) .nil)))) (.cons (.asg (.fld 0 "Board" "own_moves") (.tup (.star (.un (.fld "own_moves") (.var 0)) (.cons (.tup (.cons (.var 1) (.cons (.bin .ix (.un (.fld "own_pictures") (.var 0)) (.var 1)) .nil))) .nil)))) (.cons (.ret (.var 2)) .nil)))))⟩
def f_Board_tell : Df := ⟨some "Board", "tell", ["self", "place", "value"], ["self", "place", "value", "number"], false, (.cons (.expr (.meth 0 "Board" "check_place" (.cons (.var 1) .nil))) (.cons (.asg (.pt (.nm 3)) (.meth 0 "Board" "value_of" (.cons (.var 1) (.cons (.var 2) .nil)))) (.cons (.expr (.meth 0 "Board" "note" .nil)) (.cons (.expr (.meth 0 "Board" "put" (.cons (.var 1) (.cons (.var 3) .nil)))) (.cons (.asg (.fld 0 "Board" "own_free") (.con (.bool false))) .nil)))))⟩
def f_Board_lose : Df := ⟨some "Board", "lose", ["self", "place", "number"], ["self", "place", "number", "kept", "mate", "field", "rows", "fresh", "own", "near"], false, (.cons (.expr (.meth 0 "Board" "check_place" (.cons (.var 1) .nil))) (.cons (.expr (.meth 0 "Board" "check_version" (.cons (.var 1) (.cons (.var 2) .nil)))) (.cons (.expr (.meth 0 "Board" "note" .nil)) (.cons (.asg (.pt (.nm 3)) (.un .tuple (.lc false (.var 8) (.nm 8) (.seq (.bin .ix (.un (.fld "own_versions") (.var 0)) (.var 1))) (.bin .ge (.bin .ix (.var 8) (.con (.int 0))) (.var 2)) [8]))) (.cons (.asg (.fld 0 "Board" "own_versions") (.call "put_at" (.cons (.un (.fld "own_versions") (.var 0)) (.cons (.var 1) (.cons (.var 3) .nil))))) (.cons (.for_ (.tup (.cons (.nm 4) (.cons (.nm 5) .nil))) (.enum (.un (.fld "own_house") (.var 0))) (.cons (.asg (.pt (.nm 6)) (.zip (.bin .ix (.var 5) (.gl "WATCHED_board" (.int 1))) (.bin .ix (.un (.fld "own_pictures") (.var 0)) (.var 4)))) (.cons (.asg (.pt (.nm 7)) (.un .tuple (.lc false (.ite (.bin .eq (.var 9) (.var 1)) (.bin .max (.var 8) (.var 2)) (.var 8)) (.tup (.cons (.nm 9) (.cons (.nm 8) .nil))) (.var 6) (.con (.bool true)) [9, 8]))) (.cons (.asg (.fld 0 "Board" "own_pictures") (.call "put_at" (.cons (.un (.fld "own_pictures") (.var 0)) (.cons (.var 4) (.cons (.var 7) .nil))))) .nil)))) .nil))))))⟩
def f_Board_turn : Df := ⟨some "Board", "turn", ["self", "place", "row", "value"], ["self", "place", "row", "value"], false, (.cons .never .nil)⟩
def f_Board_back : Df := ⟨some "Board", "back", ["self"], ["self"], false, (.cons .never .nil)⟩
def f_Board_twin : Df := ⟨some "Board", "twin", ["self"], ["self"], false, (.cons .never .nil)⟩
def f_Board_house : Df := ⟨some "Board", "house", ["self"], ["self"], false, (.cons (.ret (.un (.fld "own_house") (.var 0))) .nil)⟩
def f_Board_state : Df := ⟨some "Board", "state", ["self"], ["self", "row"], false, (.cons (.ret (.un .tuple (.lc false (.bin .ix (.bin .ix (.var 1) (.un .neg (.con (.int 1)))) (.con (.int 1))) (.nm 1) (.seq (.un (.fld "own_versions") (.var 0))) (.con (.bool true)) [1]))) .nil)⟩
def f_Board_box : Df := ⟨some "Board", "box", ["self"], ["self", "row", "number", "value"], false, (.cons (.ret (.un .tuple (.lc false (.call "set_of" (.cons (.lc false (.var 3) (.tup (.cons (.nm 2) (.cons (.nm 3) .nil))) (.seq (.var 1)) (.con (.bool true)) [2, 3]) .nil)) (.nm 1) (.seq (.un (.fld "own_versions") (.var 0))) (.con (.bool true)) [1]))) .nil)⟩
def f_Board_versions : Df := ⟨some "Board", "versions", ["self", "place"], ["self", "place"], false, (.cons (.expr (.meth 0 "Board" "check_place" (.cons (.var 1) .nil))) (.cons (.ret (.bin .ix (.un (.fld "own_versions") (.var 0)) (.var 1))) .nil))⟩
def f_Board_pictures : Df := ⟨some "Board", "pictures", ["self", "place"], ["self", "place"], false, (.cons (.expr (.meth 0 "Board" "check_place" (.cons (.var 1) .nil))) (.cons (.ret (.bin .ix (.un (.fld "own_pictures") (.var 0)) (.var 1))) .nil))⟩
def f_Board_late : Df := ⟨some "Board", "late", ["self", "place"], ["self", "place"], false, (.cons .never .nil)⟩
def f_Board_would : Df := ⟨some "Board", "would", ["self", "place"], ["self", "place", "rows", "near", "own"], false, (.cons (.expr (.meth 0 "Board" "check_place" (.cons (.var 1) .nil))) (.cons (.asg (.pt (.nm 2)) (.zip (.bin .ix (.bin .ix (.un (.fld "own_house") (.var 0)) (.var 1)) (.gl "WATCHED_board" (.int 1))) (.bin .ix (.un (.fld "own_pictures") (.var 0)) (.var 1)))) (.cons (.ret (.call "tells" (.cons (.un (.fld "own_house") (.var 0)) (.cons (.var 1) (.cons (.un .tuple (.lc false (.meth 0 "Board" "worth" (.cons (.var 3) (.cons (.var 4) .nil))) (.tup (.cons (.nm 3) (.cons (.nm 4) .nil))) (.var 2) (.con (.bool true)) [3, 4])) .nil))))) .nil)))⟩
def f_Board_run : Df := ⟨some "Board", "run", ["self"], ["self"], false, (.cons .never .nil)⟩
def f_Board_is_still : Df := ⟨some "Board", "is_still", ["self"], ["self"], false, (.cons (.ret (.call "is_rest" (.cons (.un (.fld "own_house") (.var 0)) (.cons (.meth 0 "Board" "state" .nil) .nil)))) .nil)⟩
def f_Board_shrinks_to : Df := ⟨some "Board", "shrinks_to", ["self"], ["self"], false, (.cons (.ret (.call "tupled" (.cons (.bin .ix (.call "rounds" (.cons (.un (.fld "own_house") (.var 0)) (.cons (.meth 0 "Board" "box" .nil) .nil))) (.un .neg (.con (.int 1)))) .nil))) .nil)⟩
def f_Board_ends : Df := ⟨some "Board", "ends", ["self"], ["self"], false, (.cons (.ret (.call "point_of" (.cons (.un (.fld "own_house") (.var 0)) (.cons (.meth 0 "Board" "shrinks_to" .nil) .nil)))) .nil)⟩
def f_Board_will_settle : Df := ⟨some "Board", "will_settle", ["self"], ["self"], false, (.cons .never .nil)⟩
def f_Board_can_come : Df := ⟨some "Board", "can_come", ["self", "state"], ["self", "state"], false, (.cons .never .nil)⟩
def f_end_from : Df := ⟨none, "end_from", ["house", "box"], ["house", "box"], false, (.cons (.ret (.call "point_of" (.cons (.var 0) (.cons (.call "limit" (.cons (.var 0) (.cons (.var 1) .nil))) .nil)))) .nil)⟩
def f_heights : Df := ⟨none, "heights", ["house", "box"], ["house", "box", "rows"], false, (.cons (.asg (.pt (.nm 2)) (.call "rounds" (.cons (.var 0) (.cons (.var 1) .nil)))) (.cons (.ret (.ite (.bin .isnn (.call "point_of" (.cons (.var 0) (.cons (.bin .ix (.var 2) (.un .neg (.con (.int 1)))) .nil))) (.con .none)) (.un .tuple (.var 2)) (.con .none))) .nil))⟩
def f_renewals : Df := ⟨none, "renewals", ["house", "box"], ["house", "box", "rows"], false, (.cons (.asg (.pt (.nm 2)) (.call "rounds" (.cons (.var 0) (.cons (.var 1) .nil)))) (.cons (.ret (.ite (.bin .isnn (.call "point_of" (.cons (.var 0) (.cons (.bin .ix (.var 2) (.un .neg (.con (.int 1)))) .nil))) (.con .none)) (.bin .sub (.un .len (.var 2)) (.con (.int 1))) (.con .none))) .nil))⟩
def f__law_box : Df := ⟨none, "_law_box", ["_law_script", "_law_k"], ["_law_script", "_law_k", "_law_cell"], true, (.cons (.asg (.pt (.nm 2)) (.ite (.bin .lt (.var 1) (.un .len (.var 0))) (.bin .ix (.var 0) (.var 1)) (.con (.int 0)))) (.cons (.ret (.lst true (.cons (.bin .mul (.un .abs (.var 2)) (.un .int (.bin .ge (.un .abs (.var 2)) (.bin .pow (.con (.int 10)) (.con (.int 18)))))) (.cons (.bin (.add false) (.bin (.add false) (.bin .mod (.un .int (.var 2)) (.con (.int 2305843009213693951))) (.bin .mul (.con (.int 39373)) (.var 1))) (.con (.int 1938087))) (.cons (.con (.int 0)) .nil))))) .nil))⟩
def f__law_take : Df := ⟨none, "_law_take", ["_law_tin", "_law_below_so"], ["_law_tin", "_law_below_so", "_law_once_so", "_law_wide_so", "_law_twice_so", "_law_drawn"], false, (.cons (.ifs (.bin .gt (.bin .ix (.var 0) (.con (.int 0))) (.con (.int 0))) (.cons (.asg (.pt (.nm 5)) (.bin .mod (.un .int (.bin .ix (.var 0) (.con (.int 0)))) (.var 1))) (.cons (.asg (.sub (.var 0) (.con (.int 0))) (.bin .fdiv (.bin .ix (.var 0) (.con (.int 0))) (.var 1))) (.cons (.ret (.var 5)) .nil))) .nil) (.cons (.asg (.sub (.var 0) (.con (.int 2))) (.bin (.add false) (.bin .ix (.var 0) (.con (.int 2))) (.con (.int 1)))) (.cons (.asg (.pt (.nm 2)) (.bin .mod (.un .int (.bin .mul (.bin (.add false) (.bin .ix (.var 0) (.con (.int 1))) (.bin .mul (.con (.int 48271)) (.bin .ix (.var 0) (.con (.int 2))))) (.bin (.add false) (.con (.int 39373)) (.bin .ix (.var 0) (.con (.int 2)))))) (.con (.int 2147483647)))) (.cons (.asg (.pt (.nm 3)) (.bin (.add false) (.bin .mod (.un .int (.var 2)) (.con (.int 40009))) (.con (.int 7)))) (.cons (.asg (.pt (.nm 4)) (.bin .mod (.un .int (.bin .mul (.bin (.add false) (.bin (.add false) (.var 2) (.bin .ix (.var 0) (.con (.int 2)))) (.bin .fdiv (.bin .ix (.var 0) (.con (.int 1))) (.con (.int 1000003)))) (.var 3))) (.con (.int 2147483629)))) (.cons (.ret (.bin .mod (.un .int (.bin .fdiv (.bin .mod (.un .int (.bin (.add false) (.bin .mul (.var 4) (.con (.int 48271))) (.var 2))) (.con (.int 2147483587))) (.con (.int 64)))) (.var 1))) .nil))))))⟩
def f__law_cells : Df := ⟨none, "_law_cells", ["_law_script", "_law_most_so"], ["_law_script", "_law_most_so", "_law_cells_so", "_law_k", "_law_cell", "_law_at_so"], false, (.cons (.asg (.pt (.nm 2)) (.or (.un (.list true) (.sl false (.var 0) (.con .none) (.var 1))) (.lst true (.cons (.con (.int 0)) .nil)))) (.cons (.for_ (.tup (.cons (.nm 3) (.cons (.nm 4) .nil))) (.enum (.sl false (.var 0) (.var 1) (.con (.int 63)))) (.cons (.asg (.pt (.nm 5)) (.bin .mod (.un .int (.var 3)) (.var 1))) (.cons (.asg (.sub (.var 2) (.var 5)) (.bin (.add false) (.bin .ix (.var 2) (.var 5)) (.bin .mul (.var 4) (.bin (.add false) (.var 3) (.con (.int 2)))))) .nil))) (.cons (.ret (.var 2)) .nil)))⟩
def f__law_of : Df := ⟨none, "_law_of", ["_law_tin", "_law_goods_so"], ["_law_tin", "_law_goods_so"], false, (.cons (.ret (.bin .ix (.var 1) (.call "_law_take" (.cons (.var 0) (.cons (.un .len (.var 1)) .nil))))) .nil)⟩
def f__law_pick : Df := ⟨none, "_law_pick", ["_law_tin", "_law_goods_so", "_law_count_so"], ["_law_tin", "_law_goods_so", "_law_count_so", "_law_lap", "_law_pool_so", "_law_found"], false, (.cons (.par (.cons (.pt (.nm 4)) (.cons (.pt (.nm 5)) .nil)) (.cons (.un (.list true) (.var 1)) (.cons (.lst true .nil) .nil))) (.cons (.for_ (.nm 3) (.rng (.bin .min (.un .int (.var 2)) (.un .len (.var 4)))) (.cons (.expr (.bin .apnd (.var 5) (.bin .popat (.var 4) (.call "_law_take" (.cons (.var 0) (.cons (.un .len (.var 4)) .nil)))))) .nil)) (.cons (.ret (.var 5)) .nil)))⟩
def f__law_same : Df := ⟨none, "_law_same", ["_law_got", "_law_due"], ["_law_got", "_law_due", "_law_mine", "_law_its"], false, (.cons (.ifs (.un (.isi ["list", "tuple"]) (.var 1)) (.cons (.ifs (.or (.bin .ne (.un (.isi ["list"]) (.var 0)) (.un (.isi ["list"]) (.var 1))) (.bin .ne (.un (.isi ["tuple"]) (.var 0)) (.un (.isi ["tuple"]) (.var 1)))) (.cons (.ret (.con (.bool false))) .nil) .nil) (.cons (.ret (.and (.bin .eq (.un .len (.var 0)) (.un .len (.var 1))) (.un .all (.lc false (.call "_law_same" (.cons (.var 2) (.cons (.var 3) .nil))) (.tup (.cons (.nm 2) (.cons (.nm 3) .nil))) (.zip (.var 0) (.var 1)) (.con (.bool true)) [2, 3])))) .nil)) .nil) (.cons (.ifs (.or (.bin .isn (.var 1) (.con .none)) (.un (.isi ["bool", "str"]) (.var 1))) (.cons (.ret (.and (.bin .eq (.var 0) (.var 1)) (.and (.bin .eq (.un (.isi ["bool"]) (.var 0)) (.un (.isi ["bool"]) (.var 1))) (.bin .eq (.bin .isn (.var 0) (.con .none)) (.bin .isn (.var 1) (.con .none)))))) .nil) .nil) (.cons (.ret (.and (.un (.isi ["int"]) (.var 0)) (.and (.not (.un (.isi ["bool"]) (.var 0))) (.bin .eq (.var 0) (.var 1))))) .nil)))⟩
def f__law_hall : Df := ⟨none, "_law_hall", ["_law_tin", "_law_many_so", "_law_most_so"], ["_law_tin", "_law_many_so", "_law_most_so", "_law_j", "_law_sizes_so", "_law_found", "_law_eyes_so", "_law_size_so", "_law_nigh_so", "_law_told_so", "_law_lap"], false, (.cons (.par (.cons (.pt (.nm 4)) (.cons (.pt (.nm 5)) .nil)) (.cons (.lc false (.call "_law_of" (.cons (.var 0) (.cons (.sl false (.lst false (.cons (.con (.int 1)) (.cons (.con (.int 2)) (.cons (.con (.int 2)) (.cons (.con (.int 2)) (.cons (.con (.int 3)) (.cons (.con (.int 3)) .nil))))))) (.con .none) (.bin .mul (.var 2) (.con (.int 2)))) .nil))) (.nm 3) (.rng (.var 1)) (.con (.bool true)) [3]) (.cons (.lst true .nil) .nil))) (.cons (.for_ (.nm 3) (.rng (.var 1)) (.cons (.asg (.pt (.nm 6)) (.un .tuple (.un .sorted (.call "_law_pick" (.cons (.var 0) (.cons (.lstRg false (.var 1)) (.cons (.call "_law_of" (.cons (.var 0) (.cons (.lst false (.cons (.con (.int 0)) (.cons (.con (.int 1)) (.cons (.con (.int 1)) (.cons (.con (.int 2)) (.cons (.con (.int 2)) (.cons (.con (.int 2)) .nil))))))) .nil))) .nil))))))) (.cons (.asg (.pt (.nm 7)) (.con (.int 1))) (.cons (.for_ (.nm 8) (.seq (.var 6)) (.cons (.asg (.pt (.nm 7)) (.bin .mul (.var 7) (.bin .ix (.var 4) (.var 8)))) .nil)) (.cons (.asg (.pt (.nm 9)) (.un .tuple (.lc false (.call "_law_take" (.cons (.var 0) (.cons (.bin .ix (.var 4) (.var 3)) .nil))) (.nm 10) (.rng (.var 7)) (.con (.bool true)) [10]))) (.cons (.expr (.bin .apnd (.var 5) (.tup (.cons (.sl false (.tup (.cons (.con (.str "no")) (.cons (.con (.str "yes")) (.cons (.con (.str "zeal")) .nil)))) (.con .none) (.bin .ix (.var 4) (.var 3))) (.cons (.var 6) (.cons (.var 9) .nil)))))) .nil)))))) (.cons (.ret (.un .tuple (.var 5))) .nil)))⟩
def f__law_spot : Df := ⟨none, "_law_spot", ["_law_tin", "_law_hall_here"], ["_law_tin", "_law_hall_here", "_law_own"], false, (.cons (.ret (.un .tuple (.lc false (.call "_law_take" (.cons (.var 0) (.cons (.un .len (.bin .ix (.var 2) (.con (.int 0)))) .nil))) (.nm 2) (.seq (.var 1)) (.con (.bool true)) [2]))) .nil)⟩
def f__law_start : Df := ⟨none, "_law_start", ["_law_tin", "_law_hall_here"], ["_law_tin", "_law_hall_here", "_law_here", "_law_old_so", "_law_j", "_law_own", "_law_more_so", "_law_k"], false, (.cons (.par (.cons (.pt (.nm 2)) (.cons (.pt (.nm 3)) .nil)) (.cons (.call "_law_spot" (.cons (.var 0) (.cons (.var 1) .nil))) (.cons (.lst true .nil) .nil))) (.cons (.for_ (.tup (.cons (.nm 4) (.cons (.nm 5) .nil))) (.enum (.var 2)) (.cons (.asg (.pt (.nm 6)) (.lc false (.var 7) (.nm 7) (.rng (.un .len (.bin .ix (.bin .ix (.var 1) (.var 4)) (.con (.int 0))))) (.or (.bin .eq (.var 7) (.var 5)) (.bin .eq (.call "_law_take" (.cons (.var 0) (.cons (.con (.int 4)) .nil))) (.con (.int 0)))) [7])) (.cons (.expr (.bin .apnd (.var 3) (.un .tuple (.var 6)))) .nil))) (.cons (.ret (.tup (.cons (.var 2) (.cons (.un .tuple (.var 3)) .nil)))) .nil)))⟩
def f__law_point : Df := ⟨none, "_law_point", ["_law_here"], ["_law_here", "_law_own"], false, (.cons (.ret (.un .tuple (.lc false (.tup (.cons (.var 1) .nil)) (.nm 1) (.seq (.var 0)) (.con (.bool true)) [1]))) .nil)⟩
def f__law_lap_so : Df := ⟨none, "_law_lap_so", ["_law_tin", "_law_plate", "_law_hall_here", "_law_twice_so"], ["_law_tin", "_law_plate", "_law_hall_here", "_law_twice_so", "_law_j", "_law_lap", "_law_spot_so", "_law_eye_so"], false, (.cons (.for_ (.nm 4) (.seq (.call "_law_pick" (.cons (.var 0) (.cons (.lstRg false (.un .len (.var 2))) (.cons (.un .len (.var 2)) .nil))))) (.cons (.for_ (.nm 5) (.rng (.bin (.add false) (.con (.int 1)) (.un .int (.and (.var 3) (.bin .eq (.call "_law_take" (.cons (.var 0) (.cons (.con (.int 3)) .nil))) (.con (.int 0))))))) (.cons (.for_ (.tup (.cons (.nm 6) (.cons (.nm 7) .nil))) (.enum (.bin .ix (.bin .ix (.var 2) (.var 4)) (.con (.int 1)))) (.cons (.expr (.meth 1 "Board" "show" (.cons (.var 4) (.cons (.var 6) (.cons (.bin .ix (.call "_law_of" (.cons (.var 0) (.cons (.un (.list false) (.meth 1 "Board" "versions" (.cons (.var 7) .nil))) .nil))) (.con (.int 0))) .nil))))) .nil)) (.cons (.expr (.meth 1 "Board" "act" (.cons (.var 4) .nil))) .nil))) .nil)) (.cons (.for_ (.nm 4) (.rng (.un .len (.var 2))) (.cons (.expr (.meth 1 "Board" "lose" (.cons (.var 4) (.cons (.bin .ix (.bin .ix (.meth 1 "Board" "versions" (.cons (.var 4) .nil)) (.un .neg (.con (.int 1)))) (.con (.int 0))) .nil)))) .nil)) .nil))⟩
def f__law_laps_right : Df := ⟨none, "_law_laps_right", ["_law_tin", "_law_hall_here", "_law_start_so", "_law_laps_so"], ["_law_tin", "_law_hall_here", "_law_start_so", "_law_laps_so", "_law_lap", "_law_plate", "_law_rows_so", "_law_high_so", "_law_last_so", "_law_end_so", "_law_round_so", "_law_at_so"], false, (.cons (.par (.cons (.pt (.nm 5)) (.cons (.pt (.nm 6)) .nil)) (.cons (.make "Board" (.cons (.var 1) (.cons (.var 2) .nil))) (.cons (.call "rounds" (.cons (.var 1) (.cons (.bin .ix (.var 2) (.con (.int 1))) .nil))) .nil))) (.cons (.par (.cons (.pt (.nm 7)) (.cons (.pt (.nm 8)) (.cons (.pt (.nm 9)) .nil))) (.cons (.call "heights" (.cons (.var 1) (.cons (.bin .ix (.var 2) (.con (.int 1))) .nil))) (.cons (.call "renewals" (.cons (.var 1) (.cons (.bin .ix (.var 2) (.con (.int 1))) .nil))) (.cons (.call "end_from" (.cons (.var 1) (.cons (.bin .ix (.var 2) (.con (.int 1))) .nil))) .nil)))) (.cons (.ifs (.or (.bin .ne (.bin .isn (.var 7) (.con .none)) (.bin .isn (.var 9) (.con .none))) (.bin .ne (.bin .isn (.var 8) (.con .none)) (.bin .isn (.var 9) (.con .none)))) (.cons (.ret (.con (.bool false))) .nil) .nil) (.cons (.ifs (.and (.bin .isnn (.var 9) (.con .none)) (.bin .ne (.var 8) (.bin .sub (.un .len (.var 6)) (.con (.int 1))))) (.cons (.ret (.con (.bool false))) .nil) .nil) (.cons (.for_ (.nm 4) (.rng (.var 3)) (.cons (.ifs (.bin .lt (.lenm 5 "Board") (.con (.int 40))) (.cons (.expr (.call "_law_lap_so" (.cons (.var 0) (.cons (.var 5) (.cons (.var 1) (.cons (.bin .eq (.var 4) (.con (.int 0))) .nil)))))) (.cons (.asg (.pt (.nm 10)) (.bin .ix (.var 6) (.bin .min (.bin (.add false) (.var 4) (.con (.int 1))) (.bin .sub (.un .len (.var 6)) (.con (.int 1)))))) (.cons (.ifs (.not (.call "lies_in" (.cons (.var 1) (.cons (.meth 5 "Board" "box" .nil) (.cons (.var 10) .nil))))) (.cons (.ret (.con (.bool false))) .nil) .nil) (.cons (.asg (.pt (.nm 11)) (.bin .min (.bin (.add false) (.var 4) (.con (.int 1))) (.bin .sub (.un .len (.or (.var 7) (.lst false (.cons (.tup .nil) .nil)))) (.con (.int 1))))) (.cons (.ifs (.and (.bin .isnn (.var 7) (.con .none)) (.not (.call "lies_in" (.cons (.var 1) (.cons (.meth 5 "Board" "box" .nil) (.cons (.bin .ix (.var 7) (.var 11)) .nil)))))) (.cons (.ret (.con (.bool false))) .nil) .nil) (.cons (.ifs (.and (.bin .isnn (.var 8) (.con .none)) (.bin .ge (.bin (.add false) (.var 4) (.con (.int 1))) (.var 8))) (.cons (.ifs (.not (.call "_law_same" (.cons (.lst false (.cons (.meth 5 "Board" "state" .nil) (.cons (.meth 5 "Board" "is_still" .nil) (.cons (.meth 5 "Board" "box" .nil) .nil)))) (.cons (.lst false (.cons (.var 9) (.cons (.con (.bool true)) (.cons (.call "_law_point" (.cons (.var 9) .nil)) .nil)))) .nil)))) (.cons (.ret (.con (.bool false))) .nil) .nil) .nil) .nil) .nil)))))) .nil) .nil)) (.cons (.ret (.con (.bool true))) .nil))))))⟩
def f__law_by_hand_right : Df := ⟨none, "_law_by_hand_right", [], ["_law_copy_so", "_law_chain", "_law_start_so", "_law_plate", "_law_got", "_law_due", "_law_lap", "_law_j", "_law_own"], false, (.cons (.asg (.pt (.nm 0)) (.tup (.cons (.tup (.cons (.con (.str "no")) (.cons (.con (.str "yes")) .nil))) (.cons (.tup (.cons (.con (.int 0)) .nil)) (.cons (.tup (.cons (.con (.int 0)) (.cons (.con (.int 1)) .nil))) .nil))))) (.cons (.asg (.pt (.nm 1)) (.tup (.cons (.tup (.cons (.tup (.cons (.con (.str "no")) (.cons (.con (.str "yes")) .nil))) (.cons (.tup .nil) (.cons (.tup (.cons (.con (.int 1)) .nil)) .nil)))) (.cons (.var 0) (.cons (.tup (.cons (.tup (.cons (.con (.str "no")) (.cons (.con (.str "yes")) .nil))) (.cons (.tup (.cons (.con (.int 1)) .nil)) (.cons (.tup (.cons (.con (.int 0)) (.cons (.con (.int 1)) .nil))) .nil)))) .nil))))) (.cons (.asg (.pt (.nm 2)) (.tup (.cons (.tup (.cons (.con (.int 0)) (.cons (.con (.int 0)) (.cons (.con (.int 0)) .nil)))) (.cons (.tup (.cons (.tup (.cons (.con (.int 0)) .nil)) (.cons (.tup (.cons (.con (.int 0)) .nil)) (.cons (.tup (.cons (.con (.int 0)) .nil)) .nil)))) .nil)))) (.cons (.asg (.pt (.nm 3)) (.make "Board" (.cons (.var 1) (.cons (.var 2) .nil)))) (.cons (.asg (.pt (.nm 4)) (.lst true (.cons (.call "renewals" (.cons (.var 1) (.cons (.bin .ix (.var 2) (.con (.int 1))) .nil))) (.cons (.call "end_from" (.cons (.var 1) (.cons (.bin .ix (.var 2) (.con (.int 1))) .nil))) (.cons (.bin .ix (.call "rounds" (.cons (.var 1) (.cons (.bin .ix (.var 2) (.con (.int 1))) .nil))) (.con (.int 1))) .nil))))) (.cons (.asg (.pt (.nm 5)) (.lst false (.cons (.con (.int 3)) (.cons (.tup (.cons (.con (.int 1)) (.cons (.con (.int 1)) (.cons (.con (.int 1)) .nil)))) (.cons (.tup (.cons (.tup (.cons (.con (.int 1)) .nil)) (.cons (.tup (.cons (.con (.int 0)) (.cons (.con (.int 1)) .nil))) (.cons (.tup (.cons (.con (.int 0)) (.cons (.con (.int 1)) .nil))) .nil)))) .nil))))) (.cons (.for_ (.nm 6) (.rng (.con (.int 3))) (.cons (.for_ (.nm 7) (.seq (.tup (.cons (.con (.int 2)) (.cons (.con (.int 1)) (.cons (.con (.int 0)) .nil))))) (.cons (.expr (.bin .apnd (.var 4) (.meth 3 "Board" "act" (.cons (.var 7) .nil)))) .nil)) (.cons (.for_ (.nm 7) (.rng (.con (.int 3))) (.cons (.expr (.meth 3 "Board" "lose" (.cons (.var 7) (.cons (.bin .ix (.bin .ix (.meth 3 "Board" "versions" (.cons (.var 7) .nil)) (.un .neg (.con (.int 1)))) (.con (.int 0))) .nil)))) .nil)) (.cons (.expr (.bin .apnd (.var 4) (.meth 3 "Board" "state" .nil))) (.cons (.asg (.pt (.nm 5)) (.bin (.add false) (.var 5) (.bin .ix (.lst false (.cons (.lst false (.cons (.con (.int 0)) (.cons (.con (.int 0)) (.cons (.con (.int 1)) (.cons (.tup (.cons (.con (.int 1)) (.cons (.con (.int 0)) (.cons (.con (.int 0)) .nil)))) .nil))))) (.cons (.lst false (.cons (.con (.int 0)) (.cons (.con (.int 1)) (.cons (.con (.int 1)) (.cons (.tup (.cons (.con (.int 1)) (.cons (.con (.int 1)) (.cons (.con (.int 0)) .nil)))) .nil))))) (.cons (.lst false (.cons (.con (.int 1)) (.cons (.con (.int 1)) (.cons (.con (.int 1)) (.cons (.tup (.cons (.con (.int 1)) (.cons (.con (.int 1)) (.cons (.con (.int 1)) .nil)))) .nil))))) .nil)))) (.var 6)))) .nil))))) (.cons (.ifs (.not (.call "_law_same" (.cons (.bin (.add false) (.var 4) (.lst false (.cons (.meth 3 "Board" "is_still" .nil) (.cons (.meth 3 "Board" "box" .nil) (.cons (.lenm 3 "Board") .nil))))) (.cons (.bin (.add false) (.var 5) (.lst false (.cons (.con (.bool true)) (.cons (.tup (.cons (.tup (.cons (.con (.int 1)) .nil)) (.cons (.tup (.cons (.con (.int 1)) .nil)) (.cons (.tup (.cons (.con (.int 1)) .nil)) .nil)))) (.cons (.con (.int 18)) .nil))))) .nil)))) (.cons (.ret (.con (.bool false))) .nil) .nil) (.cons (.ret (.un .all (.lc false (.call "_law_laps_right" (.cons (.lst true (.cons (.con (.int 0)) (.cons (.var 8) (.cons (.con (.int 0)) .nil)))) (.cons (.var 1) (.cons (.var 2) (.cons (.con (.int 4)) .nil))))) (.nm 8) (.seq (.tup (.cons (.con (.int 3)) (.cons (.con (.int 8)) .nil)))) (.con (.bool true)) [8]))) .nil)))))))))⟩
def f__law_right : Df := ⟨none, "_law_right", ["_law_tin"], ["_law_tin", "_law_hall_here"], false, (.cons (.asg (.pt (.nm 1)) (.call "_law_hall" (.cons (.var 0) (.cons (.bin (.add false) (.con (.int 2)) (.un .int (.bin .eq (.call "_law_take" (.cons (.var 0) (.cons (.con (.int 2)) .nil))) (.con (.int 0))))) (.cons (.con (.int 3)) .nil))))) (.cons (.ret (.call "_law_laps_right" (.cons (.var 0) (.cons (.var 1) (.cons (.call "_law_start" (.cons (.var 0) (.cons (.var 1) .nil))) (.cons (.bin (.add false) (.con (.int 2)) (.call "_law_take" (.cons (.var 0) (.cons (.con (.int 4)) .nil)))) .nil)))))) .nil))⟩
def f_law : Df := ⟨none, "law", ["_law_script"], ["_law_script", "_law_cells_here", "_law_k"], false, (.cons (.ifs (.not (.call "_law_by_hand_right" .nil)) (.cons (.ret (.con (.bool false))) .nil) .nil) (.cons (.asg (.pt (.nm 1)) (.call "_law_cells" (.cons (.var 0) (.cons (.con (.int 2)) .nil)))) (.cons (.ret (.un .all (.lc false (.call "_law_right" (.cons (.call "_law_box" (.cons (.var 1) (.cons (.var 2) .nil))) .nil)) (.nm 2) (.rng (.un .len (.var 1))) (.con (.bool true)) [2]))) .nil)))⟩
def tab : List Df := [f_is_number, f_tupled, f_set_of, f_sizes_of, f_is_value, f_check_place, f_table_at, f_is_row, f_check_row, f_tells, f_tells_now, f_all_act, f_is_rest, f_rows_among, f_lies_in, f_point_of, f_rows_inside, f_told_part, f_told_box, f_laps_grown, f_grown, f_rounds, f_limit, f_begin_versions, f_put_at, f_Board___init__, f_Board___len__, f_Board___iter__, f_Board___eq__, f_Board_seen, f_Board_note, f_Board_check_place, f_Board_check_spot, f_Board_check_version, f_Board_value_of, f_Board_worth, f_Board_put, f_Board_show, f_Board_act, f_Board_tell, f_Board_lose, f_Board_turn, f_Board_back, f_Board_twin, f_Board_house, f_Board_state, f_Board_box, f_Board_versions, f_Board_pictures, f_Board_late, f_Board_would, f_Board_run, f_Board_is_still, f_Board_shrinks_to, f_Board_ends, f_Board_will_settle, f_Board_can_come, f_end_from, f_heights, f_renewals, f__law_box, f__law_take, f__law_cells, f__law_of, f__law_pick, f__law_same, f__law_hall, f__law_spot, f__law_start, f__law_point, f__law_lap_so, f__law_laps_right, f__law_by_hand_right, f__law_right, f_law]
theorem fd_is_number : find tab "is_number" none = some f_is_number := by rfl
theorem fd_tupled : find tab "tupled" none = some f_tupled := by rfl
theorem fd_set_of : find tab "set_of" none = some f_set_of := by rfl
theorem fd_sizes_of : find tab "sizes_of" none = some f_sizes_of := by rfl
theorem fd_is_value : find tab "is_value" none = some f_is_value := by rfl
theorem fd_check_place : find tab "check_place" none = some f_check_place := by rfl
theorem fd_table_at : find tab "table_at" none = some f_table_at := by rfl
theorem fd_is_row : find tab "is_row" none = some f_is_row := by rfl
theorem fd_check_row : find tab "check_row" none = some f_check_row := by rfl
theorem fd_tells : find tab "tells" none = some f_tells := by rfl
theorem fd_tells_now : find tab "tells_now" none = some f_tells_now := by rfl
theorem fd_all_act : find tab "all_act" none = some f_all_act := by rfl
theorem fd_is_rest : find tab "is_rest" none = some f_is_rest := by rfl
theorem fd_rows_among : find tab "rows_among" none = some f_rows_among := by rfl
theorem fd_lies_in : find tab "lies_in" none = some f_lies_in := by rfl
theorem fd_point_of : find tab "point_of" none = some f_point_of := by rfl
theorem fd_rows_inside : find tab "rows_inside" none = some f_rows_inside := by rfl
theorem fd_told_part : find tab "told_part" none = some f_told_part := by rfl
theorem fd_told_box : find tab "told_box" none = some f_told_box := by rfl
theorem fd_laps_grown : find tab "laps_grown" none = some f_laps_grown := by rfl
theorem fd_grown : find tab "grown" none = some f_grown := by rfl
theorem fd_rounds : find tab "rounds" none = some f_rounds := by rfl
theorem fd_limit : find tab "limit" none = some f_limit := by rfl
theorem fd_begin_versions : find tab "begin_versions" none = some f_begin_versions := by rfl
theorem fd_put_at : find tab "put_at" none = some f_put_at := by rfl
theorem fd_Board___init__ : find tab "Board" (some "__init__") = some f_Board___init__ := by rfl
theorem fd_Board___len__ : find tab "Board" (some "__len__") = some f_Board___len__ := by rfl
theorem fd_Board___iter__ : find tab "Board" (some "__iter__") = some f_Board___iter__ := by rfl
theorem fd_Board___eq__ : find tab "Board" (some "__eq__") = some f_Board___eq__ := by rfl
theorem fd_Board_seen : find tab "Board" (some "seen") = some f_Board_seen := by rfl
theorem fd_Board_note : find tab "Board" (some "note") = some f_Board_note := by rfl
theorem fd_Board_check_place : find tab "Board" (some "check_place") = some f_Board_check_place := by rfl
theorem fd_Board_check_spot : find tab "Board" (some "check_spot") = some f_Board_check_spot := by rfl
theorem fd_Board_check_version : find tab "Board" (some "check_version") = some f_Board_check_version := by rfl
theorem fd_Board_value_of : find tab "Board" (some "value_of") = some f_Board_value_of := by rfl
theorem fd_Board_worth : find tab "Board" (some "worth") = some f_Board_worth := by rfl
theorem fd_Board_put : find tab "Board" (some "put") = some f_Board_put := by rfl
theorem fd_Board_show : find tab "Board" (some "show") = some f_Board_show := by rfl
theorem fd_Board_act : find tab "Board" (some "act") = some f_Board_act := by rfl
theorem fd_Board_tell : find tab "Board" (some "tell") = some f_Board_tell := by rfl
theorem fd_Board_lose : find tab "Board" (some "lose") = some f_Board_lose := by rfl
theorem fd_Board_turn : find tab "Board" (some "turn") = some f_Board_turn := by rfl
theorem fd_Board_back : find tab "Board" (some "back") = some f_Board_back := by rfl
theorem fd_Board_twin : find tab "Board" (some "twin") = some f_Board_twin := by rfl
theorem fd_Board_house : find tab "Board" (some "house") = some f_Board_house := by rfl
theorem fd_Board_state : find tab "Board" (some "state") = some f_Board_state := by rfl
theorem fd_Board_box : find tab "Board" (some "box") = some f_Board_box := by rfl
theorem fd_Board_versions : find tab "Board" (some "versions") = some f_Board_versions := by rfl
theorem fd_Board_pictures : find tab "Board" (some "pictures") = some f_Board_pictures := by rfl
theorem fd_Board_late : find tab "Board" (some "late") = some f_Board_late := by rfl
theorem fd_Board_would : find tab "Board" (some "would") = some f_Board_would := by rfl
theorem fd_Board_run : find tab "Board" (some "run") = some f_Board_run := by rfl
theorem fd_Board_is_still : find tab "Board" (some "is_still") = some f_Board_is_still := by rfl
theorem fd_Board_shrinks_to : find tab "Board" (some "shrinks_to") = some f_Board_shrinks_to := by rfl
theorem fd_Board_ends : find tab "Board" (some "ends") = some f_Board_ends := by rfl
theorem fd_Board_will_settle : find tab "Board" (some "will_settle") = some f_Board_will_settle := by rfl
theorem fd_Board_can_come : find tab "Board" (some "can_come") = some f_Board_can_come := by rfl
theorem fd_end_from : find tab "end_from" none = some f_end_from := by rfl
theorem fd_heights : find tab "heights" none = some f_heights := by rfl
theorem fd_renewals : find tab "renewals" none = some f_renewals := by rfl
theorem fd__law_box : find tab "_law_box" none = some f__law_box := by rfl
theorem fd__law_take : find tab "_law_take" none = some f__law_take := by rfl
theorem fd__law_cells : find tab "_law_cells" none = some f__law_cells := by rfl
theorem fd__law_of : find tab "_law_of" none = some f__law_of := by rfl
theorem fd__law_pick : find tab "_law_pick" none = some f__law_pick := by rfl
theorem fd__law_same : find tab "_law_same" none = some f__law_same := by rfl
theorem fd__law_hall : find tab "_law_hall" none = some f__law_hall := by rfl
theorem fd__law_spot : find tab "_law_spot" none = some f__law_spot := by rfl
theorem fd__law_start : find tab "_law_start" none = some f__law_start := by rfl
theorem fd__law_point : find tab "_law_point" none = some f__law_point := by rfl
theorem fd__law_lap_so : find tab "_law_lap_so" none = some f__law_lap_so := by rfl
theorem fd__law_laps_right : find tab "_law_laps_right" none = some f__law_laps_right := by rfl
theorem fd__law_by_hand_right : find tab "_law_by_hand_right" none = some f__law_by_hand_right := by rfl
theorem fd__law_right : find tab "_law_right" none = some f__law_right := by rfl
theorem fd_law : find tab "law" none = some f_law := by rfl
end K87
set_option Elab.async false
set_option linter.all false
set_option maxRecDepth 100000
set_option maxHeartbeats 1000000
/-! Sa: what the defs of houses and boxes give. -/
namespace K87
open PySem Mp Hs
section
variable {scr : List Int} {n : Nat} {h : Hm} {hs : House} {b c : Box} {f : Fd} {j : Nat}
theorem s_is_number (i : Int) : callN tab scr (n + 1) "is_number" none [.d (.int i)] h = some (.d (.bool true), h) := by
  rw [callN_eq fd_is_number rfl]
  show kEnd _ _ (evSs _ f_is_number.body [some (.d (.int i))] h) = _
  simp only [f_is_number, evs1, evs2, evs3, evs4, evs5, evs6, evs7, evs8, evs9, evsF, evsH, if_true, if_false, Bool.false_eq_true, List.nil_append, Bool.not_true, Bool.not_false, show ∀ c, unOp c (.isi ["int"]) (.d (.int i)) h = some (.d (.bool true), h) from fun _ => rfl, show ∀ c, unOp c (.isi ["bool"]) (.d (.int i)) h = some (.d (.bool false), h) from fun _ => rfl]
theorem s_sizes_of (ps : List Nat) (hp : ∀ p ∈ ps, p < hs.length) (hl : ps.length < 1000) : callN tab scr (n + 1) "sizes_of" none [.d (hsD hs), .d (rowD ps)] h = some (.d (lstD (ps.map (sz hs))), h) := by
  rw [callN_eq fd_sizes_of rfl]
  show kEnd _ _ (evSs _ f_sizes_of.body [some _, some _, none] h) = _
  simp only [f_sizes_of, rowD, evs1, evs2, evs3, evs4, evs5, evs6, evs7, evs8, evs9, evsF, evsH, if_true, if_false, Bool.false_eq_true, List.nil_append, Bool.not_true, Bool.not_false]
  rw [compL_map (g := fun p => .int (sz hs p : Int))]
  · simp only [evs1, evs2, evs3, evs4, evs5, evs6, evs7, evs8, evs9, evsF, evsH, if_true, if_false, Bool.false_eq_true, List.nil_append, Bool.not_true, Bool.not_false, List.length_map]
    rw [if_most (by omega)]
    simp only [evs1, evs2, evs3, evs4, evs5, evs6, evs7, evs8, evs9, evsF, evsH, if_true, if_false, Bool.false_eq_true, List.nil_append, Bool.not_true, Bool.not_false, lstD, List.map_map]
    rfl
  · intro p hpm acc
    obtain ⟨f, hf⟩ : ∃ f, hs[p]? = some f := ⟨_, List.getElem?_eq_getElem (hp p hpm)⟩
    simp only [evs1, evs2, evs3, evs4, evs5, evs6, evs7, evs8, evs9, evsF, evsH, if_true, if_false, Bool.false_eq_true, List.nil_append, Bool.not_true, Bool.not_false, hsD, at_map, hf, Option.map_some, fdD, List.length_map, sz_at hf]
theorem s_is_value (hf : hs[j]? = some f) (x : Nat) (hx : x < f.nm.length) : callN tab scr (n + 2) "is_value" none [.d (hsD hs), .d (.int j), .d (.int x)] h = some (.d (.bool true), h) := by
  rw [callN_eq fd_is_value rfl]
  show kEnd _ _ (evSs _ f_is_value.body [some _, some _, some _] h) = _
  have h0 : (0 : Int) ≤ x := by omega
  have h1 : (x : Int) < f.nm.length := by omega
  simp only [f_is_value, evs1, evs2, evs3, evs4, evs5, evs6, evs7, evs8, evs9, evsF, evsH, if_true, if_false, Bool.false_eq_true, List.nil_append, Bool.not_true, Bool.not_false, s_is_number, hsD, at_map, hf, Option.map_some, fdD, List.length_map, decide_eq_true h0, decide_eq_true h1]
theorem s_check_place (hj : j < hs.length) : callN tab scr (n + 2) "check_place" none [.d (hsD hs), .d (.int j)] h = some (.d .none, h) := by
  rw [callN_eq fd_check_place rfl]
  show kEnd _ _ (evSs _ f_check_place.body [some _, some _] h) = _
  have h0 : (0 : Int) ≤ j := by omega
  have h1 : (j : Int) < hs.length := by omega
  simp only [f_check_place, evs1, evs2, evs3, evs4, evs5, evs6, evs7, evs8, evs9, evsF, evsH, if_true, if_false, Bool.false_eq_true, List.nil_append, Bool.not_true, Bool.not_false, s_is_number, hsD, List.length_map, decide_eq_true h0, decide_eq_true h1]
abbrev tabBody : MSs := .cons (.asg (.pt (.nm 3)) (.bin (.add false) (.bin .mul (.var 3) (.var 5)) (.var 4))) .nil
/-- the number of a row, turn by turn -/
theorem table_walk (w : WF hs) (c : Cl) (w1 w2 w3 : Option EV) : ∀ (es row : List Nat) (a : Nat) (x y : Option EV), RowOk hs es row →
    ∃ x' y', forL (fturn c (.tup (.cons (.nm 4) (.cons (.nm 5) .nil))) tabBody) ((row.zip (es.map (sz hs))).map fun p => PyData.tuple [.int (p.1 : Int), .int (p.2 : Int)]) [w1, w2, w3, some (.d (.int a)), x, y] h =
      some (.next, [w1, w2, w3, some (.d (.int (num hs es row a : Nat))), x', y'], h)
  | [], [], a, x, y, _ => ⟨x, y, rfl⟩
  | e :: es, z :: zs, a, x, y, r => by
    have hs3 := w.sz_le e
    have hb : (-(2 ^ 64) < (a : Int) ∧ (a : Int) < 2 ^ 64) ∨ (-(2 ^ 64) < (sz hs e : Int) ∧ (sz hs e : Int) < 2 ^ 64) := .inr ⟨by omega, by omega⟩
    obtain ⟨x', y', ih⟩ := table_walk w c w1 w2 w3 es zs (a * sz hs e + z) (some (.d (.int z))) (some (.d (.int (sz hs e)))) r.2
    refine ⟨x', y', ?_⟩
    rw [List.map_cons, List.zip_cons_cons, List.map_cons]
    unfold forL
    simp only [evs1, evs2, evs3, evs4, evs5, evs6, evs7, evs8, evs9, evsF, evsH, if_true, if_false, Bool.false_eq_true, List.nil_append, Bool.not_true, Bool.not_false, if_pos hb]
    rw [show ((a : Int) * (sz hs e : Int) + (z : Int)) = ((a * sz hs e + z : Nat) : Int) by simp]
    exact ih
  | [], _ :: _, _, _, _, r => r.elim
  | _ :: _, [], _, _, _, r => r.elim
theorem s_table_at (w : WF hs) (hf : hs[j]? = some f) {row : List Nat} (hr : RowOk hs f.ey row) : callN tab scr (n + 2) "table_at" none [.d (hsD hs), .d (.int j), .d (rowD row)] h = some (.d (.int (tAt hs f row : Nat)), h) := by
  have hm := List.mem_of_getElem? hf
  rw [callN_eq fd_table_at rfl]
  show kEnd _ _ (evSs _ f_table_at.body [some _, some _, some _, none, none, none] h) = _
  have e1 := s_sizes_of (scr := scr) (n := n) (h := h) f.ey (w.ey f hm).2 (by have := (w.ey f hm).1; omega)
  obtain ⟨x', y', e2⟩ := table_walk (h := h) w ⟨callN tab scr (n + 1), scr, h.length⟩ (some (.d (hsD hs))) (some (.d (.int j))) (some (.d (rowD row))) f.ey row 0 none none hr
  have hz : zipD (row.map fun (n : Nat) => .int (n : Int)) ((f.ey.map (sz hs)).map fun (n : Nat) => .int (n : Int)) = (row.zip (f.ey.map (sz hs))).map fun p => PyData.tuple [.int (p.1 : Int), .int (p.2 : Int)] := zip_maps _ _ _ _
  have ht := w.tAt_lt hm hr
  have e3 : f.tb[num hs f.ey row 0]? = some (tAt hs f row) := by
    unfold tAt
    rw [List.getD_eq_getElem?_getD, List.getElem?_eq_getElem ht.1]
    rfl
  have e4 : atI ((hs).map fdD) (j : Int) = some (fdD f) := by rw [at_map, hf]; rfl
  simp only [f_table_at, evs1, evs2, evs3, evs4, evs5, evs6, evs7, evs8, evs9, evsF, evsH, if_true, if_false, Bool.false_eq_true, List.nil_append, Bool.not_true, Bool.not_false, hsD, e4, fdD, rowD] at e1 e2 ⊢
  simp only [evs1, evs2, evs3, evs4, evs5, evs6, evs7, evs8, evs9, evsF, evsH, if_true, if_false, Bool.false_eq_true, List.nil_append, Bool.not_true, Bool.not_false, e1, lstD, hz]
  have e2' := e2
  simp only [show ((0 : Nat) : Int) = 0 from rfl] at e2'
  rw [e2']
  simp only [evs1, evs2, evs3, evs4, evs5, evs6, evs7, evs8, evs9, evsF, evsH, if_true, if_false, Bool.false_eq_true, List.nil_append, Bool.not_true, Bool.not_false, e4, fdD, rowD, at_map, e3, Option.map_some]
theorem rowOk_len : ∀ {es row : List Nat}, RowOk hs es row → row.length = es.length
  | [], [], _ => rfl
  | _ :: _, _ :: _, r => congrArg Nat.succ (rowOk_len r.2)
  | [], _ :: _, r => r.elim
  | _ :: _, [], r => r.elim
theorem rowOk_zip : ∀ {es row : List Nat}, RowOk hs es row → ∀ p ∈ es.zip row, p.1 ∈ es ∧ p.2 < sz hs p.1
  | [], [], _, p, hp => by cases hp
  | e :: es, x :: xs, r, p, hp => by
    rw [List.zip_cons_cons] at hp
    rcases List.mem_cons.mp hp with q | q
    · rw [q]
      exact ⟨List.mem_cons_self .., r.1⟩
    · have := rowOk_zip r.2 p q
      exact ⟨List.mem_cons_of_mem _ this.1, this.2⟩
  | [], _ :: _, r, _, _ => r.elim
  | _ :: _, [], r, _, _ => r.elim
theorem s_is_row (w : WF hs) (hf : hs[j]? = some f) {row : List Nat} (hr : RowOk hs f.ey row) : callN tab scr (n + 3) "is_row" none [.d (hsD hs), .d (.int j), .d (rowD row)] h = some (.d (.bool true), h) := by
  have hm := List.mem_of_getElem? hf
  rw [callN_eq fd_is_row rfl]
  show kEnd _ _ (evSs _ f_is_row.body [some _, some _, some _, none, none, none] h) = _
  have e4 : atI ((hs).map fdD) (j : Int) = some (fdD f) := by rw [at_map, hf]; rfl
  have hl := rowOk_len hr
  have hz : zipD (f.ey.map fun (n : Nat) => .int (n : Int)) (row.map fun (n : Nat) => .int (n : Int)) = (f.ey.zip row).map fun p => PyData.tuple [.int (p.1 : Int), .int (p.2 : Int)] := zip_maps _ _ _ _
  simp only [f_is_row, evs1, evs2, evs3, evs4, evs5, evs6, evs7, evs8, evs9, evsF, evsH, if_true, if_false, Bool.false_eq_true, List.nil_append, Bool.not_true, Bool.not_false, hsD, e4, fdD, rowD, List.length_map, hl, PyData.depth, show (0 : Nat) ≤ 64 from by omega, PyData.eqv, beq_self_eq_true, hz]
  rw [compL_map (g := fun _ => .bool true)]
  · have e5 : (f.ey.zip row).map (fun _ => PyData.bool true) = ((f.ey.zip row).map fun _ => true).map PyData.bool := by rw [List.map_map]; rfl
    have e6 : ((f.ey.zip row).map fun _ => true).all id = true := by simp
    simp only [evs1, evs2, evs3, evs4, evs5, evs6, evs7, evs8, evs9, evsF, evsH, if_true, if_false, Bool.false_eq_true, List.nil_append, Bool.not_true, Bool.not_false, List.length_map]
    rw [if_most (by rw [List.length_zip]; have := (w.ey f hm).1; omega)]
    simp only [evs1, evs2, evs3, evs4, evs5, evs6, evs7, evs8, evs9, evsF, evsH, if_true, if_false, Bool.false_eq_true, List.nil_append, Bool.not_true, Bool.not_false, e5, e6]
  · intro p hp acc
    obtain ⟨m1, m2⟩ := rowOk_zip hr p hp
    obtain ⟨g, hg⟩ : ∃ g, hs[p.1]? = some g := ⟨_, List.getElem?_eq_getElem ((w.ey f hm).2 _ m1)⟩
    rw [sz_at hg] at m2
    have e7 := s_is_value (scr := scr) (n := n) (h := h) hg p.2 m2
    simp only [hsD] at e7
    simp only [evs1, evs2, evs3, evs4, evs5, evs6, evs7, evs8, evs9, evsF, evsH, if_true, if_false, Bool.false_eq_true, List.nil_append, Bool.not_true, Bool.not_false, e7]
end
end K87
set_option Elab.async false
set_option linter.all false
set_option maxRecDepth 100000
set_option maxHeartbeats 1000000
/-! Sb: tables, rests, rows of boxes. -/
namespace K87
open PySem Mp Hs
section
variable {scr : List Int} {n : Nat} {h : Hm} {hs : House} {b c : Box} {f : Fd} {j : Nat}
theorem s_check_row (w : WF hs) (hf : hs[j]? = some f) {row : List Nat} (hr : RowOk hs f.ey row) : callN tab scr (n + 4) "check_row" none [.d (hsD hs), .d (.int j), .d (rowD row)] h = some (.d .none, h) := by
  rw [callN_eq fd_check_row rfl]
  show kEnd _ _ (evSs _ f_check_row.body [some _, some _, some _] h) = _
  simp only [f_check_row, evs1, evs2, evs3, evs4, evs5, evs6, evs7, evs8, evs9, evsF, evsH, if_true, if_false, Bool.false_eq_true, List.nil_append, Bool.not_true, Bool.not_false, s_is_row w hf hr]
theorem s_tells (w : WF hs) (hf : hs[j]? = some f) {row : List Nat} (hr : RowOk hs f.ey row) : callN tab scr (n + 5) "tells" none [.d (hsD hs), .d (.int j), .d (rowD row)] h = some (.d (.int (tAt hs f row : Nat)), h) := by
  rw [callN_eq fd_tells rfl]
  show kEnd _ _ (evSs _ f_tells.body [some _, some _, some _] h) = _
  have hj := (List.getElem?_eq_some_iff.mp hf).1
  simp only [f_tells, evs1, evs2, evs3, evs4, evs5, evs6, evs7, evs8, evs9, evsF, evsH, if_true, if_false, Bool.false_eq_true, List.nil_append, Bool.not_true, Bool.not_false, s_check_place hj, s_check_row w hf hr, s_table_at w hf hr]
/-- with a list for the row -/
theorem s_table_atL (w : WF hs) (hf : hs[j]? = some f) {row : List Nat} (hr : RowOk hs f.ey row) : callN tab scr (n + 2) "table_at" none [.d (hsD hs), .d (.int j), .d (lstD row)] h = some (.d (.int (tAt hs f row : Nat)), h) := by
  have hm := List.mem_of_getElem? hf
  rw [callN_eq fd_table_at rfl]
  show kEnd _ _ (evSs _ f_table_at.body [some _, some _, some _, none, none, none] h) = _
  have e1 := s_sizes_of (scr := scr) (n := n) (h := h) f.ey (w.ey f hm).2 (by have := (w.ey f hm).1; omega)
  obtain ⟨x', y', e2⟩ := table_walk (h := h) w ⟨callN tab scr (n + 1), scr, h.length⟩ (some (.d (hsD hs))) (some (.d (.int j))) (some (.d (lstD row))) f.ey row 0 none none hr
  have hz : zipD (row.map fun (n : Nat) => .int (n : Int)) ((f.ey.map (sz hs)).map fun (n : Nat) => .int (n : Int)) = (row.zip (f.ey.map (sz hs))).map fun p => PyData.tuple [.int (p.1 : Int), .int (p.2 : Int)] := zip_maps _ _ _ _
  have ht := w.tAt_lt hm hr
  have e3 : f.tb[num hs f.ey row 0]? = some (tAt hs f row) := by
    unfold tAt
    rw [List.getD_eq_getElem?_getD, List.getElem?_eq_getElem ht.1]
    rfl
  have e4 : atI ((hs).map fdD) (j : Int) = some (fdD f) := by rw [at_map, hf]; rfl
  simp only [f_table_at, evs1, evs2, evs3, evs4, evs5, evs6, evs7, evs8, evs9, evsF, evsH, if_true, if_false, Bool.false_eq_true, List.nil_append, Bool.not_true, Bool.not_false, hsD, e4, fdD, rowD] at e1 e2 ⊢
  simp only [evs1, evs2, evs3, evs4, evs5, evs6, evs7, evs8, evs9, evsF, evsH, if_true, if_false, Bool.false_eq_true, List.nil_append, Bool.not_true, Bool.not_false, e1, lstD, hz]
  have e2' := e2
  simp only [show ((0 : Nat) : Int) = 0 from rfl, lstD] at e2'
  rw [e2']
  simp only [evs1, evs2, evs3, evs4, evs5, evs6, evs7, evs8, evs9, evsF, evsH, if_true, if_false, Bool.false_eq_true, List.nil_append, Bool.not_true, Bool.not_false, e4, fdD, rowD, at_map, e3, Option.map_some]
/-! ### states -/
def sAt (st : List Nat) (j : Nat) : Nat := st.getD j 0
structure StOk (hs : House) (st : List Nat) : Prop where
  len : st.length = hs.length
  lt : ∀ j, j < hs.length → sAt st j < sz hs j
theorem sAt_at {st : List Nat} (hj : j < st.length) : st[j]? = some (sAt st j) := by
  unfold sAt
  rw [List.getD_eq_getElem?_getD, List.getElem?_eq_getElem hj]
  rfl
theorem rowOk_map {g : Nat → Nat} : ∀ {es : List Nat}, (∀ e ∈ es, g e < sz hs e) → RowOk hs es (es.map g)
  | [], _ => trivial
  | e :: es, h => ⟨h e (List.mem_cons_self ..), rowOk_map fun e he => h e (List.mem_cons_of_mem _ he)⟩
theorem StOk.row (w : WF hs) {st : List Nat} (o : StOk hs st) (hf : f ∈ hs) : RowOk hs f.ey (f.ey.map (sAt st)) := rowOk_map fun e he => o.lt e ((w.ey f hf).2 e he)
def actS (hs : House) (st : List Nat) : List Nat := hs.map fun f => tAt hs f (f.ey.map (sAt st))
theorem s_tells_now (w : WF hs) {st : List Nat} (o : StOk hs st) (hf : hs[j]? = some f) : callN tab scr (n + 3) "tells_now" none [.d (hsD hs), .d (.int j), .d (rowD st)] h = some (.d (.int (tAt hs f (f.ey.map (sAt st)) : Nat)), h) := by
  have hm := List.mem_of_getElem? hf
  rw [callN_eq fd_tells_now rfl]
  show kEnd _ _ (evSs _ f_tells_now.body [some _, some _, some _, none] h) = _
  have e4 : atI ((hs).map fdD) (j : Int) = some (fdD f) := by rw [at_map, hf]; rfl
  have e5 := s_table_atL (scr := scr) (n := n) (h := h) w hf (o.row w hm)
  simp only [hsD, lstD, List.map_map] at e5
  simp only [f_tells_now, evs1, evs2, evs3, evs4, evs5, evs6, evs7, evs8, evs9, evsF, evsH, if_true, if_false, Bool.false_eq_true, List.nil_append, Bool.not_true, Bool.not_false, hsD, e4, fdD, rowD]
  rw [compL_map (g := fun e => .int (sAt st e : Int))]
  · simp only [evs1, evs2, evs3, evs4, evs5, evs6, evs7, evs8, evs9, evsF, evsH, if_true, if_false, Bool.false_eq_true, List.nil_append, Bool.not_true, Bool.not_false, List.length_map]
    rw [if_most (by have := (w.ey f hm).1; omega)]
    simp only [evs1, evs2, evs3, evs4, evs5, evs6, evs7, evs8, evs9, evsF, evsH, if_true, if_false, Bool.false_eq_true, List.nil_append, Bool.not_true, Bool.not_false]
    have e6 : (f.ey.map fun e => PyData.int (sAt st e : Int)) = f.ey.map ((fun (n : Nat) => PyData.int (n : Int)) ∘ sAt st) := rfl
    rw [e6, e5]
    simp only [evs1, evs2, evs3, evs4, evs5, evs6, evs7, evs8, evs9, evsF, evsH, if_true, if_false, Bool.false_eq_true, List.nil_append, Bool.not_true, Bool.not_false]
  · intro e he acc
    have hl : e < st.length := by rw [o.len]; exact (w.ey f hm).2 e he
    simp only [evs1, evs2, evs3, evs4, evs5, evs6, evs7, evs8, evs9, evsF, evsH, if_true, if_false, Bool.false_eq_true, List.nil_append, Bool.not_true, Bool.not_false, at_map, sAt_at hl, Option.map_some]
theorem s_all_act (w : WF hs) {st : List Nat} (o : StOk hs st) : callN tab scr (n + 4) "all_act" none [.d (hsD hs), .d (rowD st)] h = some (.d (rowD (actS hs st)), h) := by
  rw [callN_eq fd_all_act rfl]
  show kEnd _ _ (evSs _ f_all_act.body [some _, some _, none] h) = _
  have hl := w.ln
  simp only [f_all_act, evs1, evs2, evs3, evs4, evs5, evs6, evs7, evs8, evs9, evsF, evsH, if_true, if_false, Bool.false_eq_true, List.nil_append, Bool.not_true, Bool.not_false, hsD, List.length_map]
  rw [if_pos (by rw [most_eq]; omega)]
  simp only [evs1, evs2, evs3, evs4, evs5, evs6, evs7, evs8, evs9, evsF, evsH, if_true, if_false, Bool.false_eq_true, List.nil_append, Bool.not_true, Bool.not_false, Int.toNat_natCast, rng_nat]
  rw [compL_map (g := fun j => .int (sAt (actS hs st) j : Int))]
  · simp only [evs1, evs2, evs3, evs4, evs5, evs6, evs7, evs8, evs9, evsF, evsH, if_true, if_false, Bool.false_eq_true, List.nil_append, Bool.not_true, Bool.not_false, List.length_map, List.length_range]
    rw [if_most (by omega)]
    simp only [evs1, evs2, evs3, evs4, evs5, evs6, evs7, evs8, evs9, evsF, evsH, if_true, if_false, Bool.false_eq_true, List.nil_append, Bool.not_true, Bool.not_false]
    congr 3
    unfold rowD
    congr 1
    refine List.ext_getElem? fun j => ?_
    rw [List.getElem?_map, List.getElem?_map]
    by_cases q : j < hs.length
    · rw [List.getElem?_range q, sAt_at (by unfold actS; rw [List.length_map]; exact q)]
      rfl
    · rw [List.getElem?_eq_none (by rw [List.length_range]; omega), List.getElem?_eq_none (by unfold actS; rw [List.length_map]; omega)]
      rfl
  · intro j hj acc
    have hj := List.mem_range.mp hj
    have hf := List.getElem?_eq_getElem hj
    have e5 := s_tells_now (scr := scr) (n := n) (h := h) w o hf
    simp only [hsD] at e5
    have e6 : sAt (actS hs st) j = tAt hs hs[j] (hs[j].ey.map (sAt st)) := by
      unfold actS
      show List.getD _ _ _ = _
      rw [List.getD_eq_getElem?_getD, List.getElem?_map, hf]
      rfl
    simp only [evs1, evs2, evs3, evs4, evs5, evs6, evs7, evs8, evs9, evsF, evsH, if_true, if_false, Bool.false_eq_true, List.nil_append, Bool.not_true, Bool.not_false, e5, e6]
theorem s_is_rest (w : WF hs) {st : List Nat} (o : StOk hs st) : callN tab scr (n + 5) "is_rest" none [.d (hsD hs), .d (rowD st)] h = some (.d (.bool (decide (actS hs st = st))), h) := by
  rw [callN_eq fd_is_rest rfl]
  show kEnd _ _ (evSs _ f_is_rest.body [some _, some _] h) = _
  have e5 := s_all_act (scr := scr) (n := n) (h := h) w o
  have e6 : unOp ⟨callN tab scr (n + 4), scr, h.length⟩ .tuple (.d (rowD st)) h = some (.d (rowD st), h) := by simp only [rowD, evs1, evs2, evs3, evs4, evs5, evs6, evs7, evs8, evs9, evsF, evsH, if_true, if_false, Bool.false_eq_true, List.nil_append, Bool.not_true, Bool.not_false]
  simp only [f_is_rest, evs1, evs2, evs3, evs4, evs5, evs6, evs7, evs8, evs9, evsF, evsH, if_true, if_false, Bool.false_eq_true, List.nil_append, Bool.not_true, Bool.not_false, e5, e6, depth_row, eqv_row, show (1 : Nat) ≤ 64 from by omega]
/-! ### rows -/
theorem rows_step (w : Cl) (some_ : List Nat) (hl : some_.length ≤ 3) (e1 e3 e4 : Option EV) (e0 : Option EV) (acc : List (List Nat)) (h1 : ∀ r ∈ acc, r.length < 100) (h2 : acc.length * some_.length < 1000) :
    evSs w (.cons (.asg (.pt (.nm 1)) (.lc2 false (.tup (.star (.var 3) (.cons (.var 4) .nil))) (.nm 3) (.seq (.var 1)) (.con (.bool true)) (.nm 4) (.seq (.var 2)) (.con (.bool true)) [3, 4] [4])) .nil) [e0, some (.d (.list (acc.map rowD))), some (.d (rowD some_)), e3, e4] h =
      some (.next, [e0, some (.d (.list ((rowStep acc some_).map rowD))), some (.d (rowD some_)), e3, e4], h) := by
  have hr : rowD = fun r => .tuple (r.map fun (n : Nat) => .int (n : Int)) := rfl
  simp only [rowD, evs1, evs2, evs3, evs4, evs5, evs6, evs7, evs8, evs9, evsF, evsH, if_true, if_false, Bool.false_eq_true, List.nil_append, Bool.not_true, Bool.not_false]
  rw [hr, compL_bind (g := fun own => some_.map fun x => own ++ [x]) (k := rowD)]
  · have hlen := rowStep_len some_ acc
    unfold rowStep at hlen
    simp only [evs1, evs2, evs3, evs4, evs5, evs6, evs7, evs8, evs9, evsF, evsH, if_true, if_false, Bool.false_eq_true, List.nil_append, Bool.not_true, Bool.not_false, List.length_map, hlen, ← hr]
    rw [if_most (by omega)]
    simp only [evs1, evs2, evs3, evs4, evs5, evs6, evs7, evs8, evs9, evsF, evsH, if_true, if_false, Bool.false_eq_true, List.nil_append, Bool.not_true, Bool.not_false]
    rfl
  · intro own ho acc2
    simp only [evs1, evs2, evs3, evs4, evs5, evs6, evs7, evs8, evs9, evsF, evsH, if_true, if_false, Bool.false_eq_true, List.nil_append, Bool.not_true, Bool.not_false]
    rw [compL_map (g := fun x => rowD (own ++ [x]))]
    · simp only [List.map_map]
      rfl
    · intro x hx acc3
      have := h1 own ho
      have e : (own.map fun (n : Nat) => PyData.int (n : Int)) ++ [.int (x : Int)] = (own ++ [x]).map fun (n : Nat) => PyData.int (n : Int) := by simp
      simp only [evs1, evs2, evs3, evs4, evs5, evs6, evs7, evs8, evs9, evsF, evsH, if_true, if_false, Bool.false_eq_true, List.nil_append, Bool.not_true, Bool.not_false, e, List.length_map, List.length_append, List.length_singleton]
      rw [if_most (by omega)]
      simp only [evs1, evs2, evs3, evs4, evs5, evs6, evs7, evs8, evs9, evsF, evsH, if_true, if_false, Bool.false_eq_true, List.nil_append, Bool.not_true, Bool.not_false, rowD]
abbrev rowsBody : MSs := .cons (.asg (.pt (.nm 1)) (.lc2 false (.tup (.star (.var 3) (.cons (.var 4) .nil))) (.nm 3) (.seq (.var 1)) (.con (.bool true)) (.nm 4) (.seq (.var 2)) (.con (.bool true)) [3, 4] [4])) .nil
theorem rows_walk (w : Cl) (e0 e3 e4 : Option EV) : ∀ (ss acc : List (List Nat)) (e2 : Option EV), (∀ s ∈ ss, s.length ≤ 3) → (∀ r ∈ acc, r.length + ss.length < 100) → acc.length * 3 ^ ss.length < 1000 →
    ∃ e2', forL (fturn w (.nm 2) rowsBody) (ss.map rowD) [e0, some (.d (.list (acc.map rowD))), e2, e3, e4] h = some (.next, [e0, some (.d (.list ((ss.foldl rowStep acc).map rowD))), e2', e3, e4], h)
  | [], acc, e2, _, _, _ => ⟨e2, rfl⟩
  | s :: ss, acc, e2, h1, h2, h3 => by
    have hs := h1 s (List.mem_cons_self ..)
    have hp : 1 ≤ 3 ^ ss.length := Nat.pos_of_ne_zero (by simp)
    have h4 : acc.length * s.length * 3 ^ ss.length ≤ acc.length * 3 ^ (s :: ss).length := by
      rw [List.length_cons, Nat.pow_succ, Nat.mul_comm (3 ^ ss.length) 3, ← Nat.mul_assoc]
      exact Nat.mul_le_mul_right _ (Nat.mul_le_mul_left _ hs)
    have h5 : acc.length * s.length ≤ acc.length * s.length * 3 ^ ss.length := Nat.le_mul_of_pos_right _ hp
    obtain ⟨e2', ih⟩ := rows_walk w e0 e3 e4 ss (rowStep acc s) (some (.d (rowD s))) (fun t ht => h1 t (List.mem_cons_of_mem _ ht)) (fun r hr => by
      obtain ⟨p, hp, q⟩ := List.mem_flatMap.mp hr
      obtain ⟨x, _, e⟩ := List.mem_map.mp q
      have := h2 p hp
      rw [← e, List.length_append, List.length_singleton]
      rw [List.length_cons] at this
      omega) (by rw [rowStep_len]; omega)
    refine ⟨e2', ?_⟩
    rw [List.map_cons]
    unfold forL
    rw [fturn_nm]
    simp only [evs8]
    have hst := rows_step (h := h) w s hs e0 e3 e4 e0 acc (fun r hr => by have := h2 r hr; omega) (by omega)
    rw [hst]
    exact ih
theorem s_rows_among (ss : List (List Nat)) (h1 : ∀ s ∈ ss, s.length ≤ 3) (h2 : ss.length ≤ 2) : callN tab scr (n + 1) "rows_among" none [.d (.list (ss.map rowD))] h = some (.d (.list ((rowsA ss).map rowD)), h) := by
  rw [callN_eq fd_rows_among rfl]
  show kEnd _ _ (evSs _ f_rows_among.body [some _, none, none, none, none] h) = _
  have h3 : 3 ^ ss.length ≤ 3 ^ 2 := Nat.pow_le_pow_right (by omega) h2
  obtain ⟨e2', e⟩ := rows_walk (h := h) ⟨callN tab scr n, scr, h.length⟩ (some (.d (.list (ss.map rowD)))) none none ss [[]] none h1 (fun r hr => by rw [List.mem_singleton.mp hr]; simp; omega) (by simp; omega)
  have e0 : ([[]] : List (List Nat)).map rowD = [.tuple []] := rfl
  rw [e0] at e
  simp only [f_rows_among, evs1, evs2, evs3, evs4, evs5, evs6, evs7, evs8, evs9, evsF, evsH, if_true, if_false, Bool.false_eq_true, List.nil_append, Bool.not_true, Bool.not_false, List.length_nil, List.length_singleton, show 0 ≤ most from by rw [most_eq]; omega, show 1 ≤ most from by rw [most_eq]; omega]
  rw [e]
  simp only [evs1, evs2, evs3, evs4, evs5, evs6, evs7, evs8, evs9, evsF, evsH, if_true, if_false, Bool.false_eq_true, List.nil_append, Bool.not_true, Bool.not_false]
  rfl
/-- the sets of a field's watched ones -/
theorem eyes_le (w : WF hs) (o : BoxOk hs b) (f : Fd) : ∀ s ∈ f.ey.map (bAt b), s.length ≤ 3 := fun s hs => by
  obtain ⟨e, _, q⟩ := List.mem_map.mp hs
  rw [← q]
  exact o.len_le w e
theorem s_rows_inside (w : WF hs) (o : BoxOk hs b) (hf : hs[j]? = some f) : callN tab scr (n + 2) "rows_inside" none [.d (hsD hs), .d (boxD b), .d (.int j)] h = some (.d (.list ((rowsA (f.ey.map (bAt b))).map rowD)), h) := by
  have hm := List.mem_of_getElem? hf
  have hey := w.ey f hm
  rw [callN_eq fd_rows_inside rfl]
  show kEnd _ _ (evSs _ f_rows_inside.body [some _, some _, some _, none] h) = _
  have e4 : atI ((hs).map fdD) (j : Int) = some (fdD f) := by rw [at_map, hf]; rfl
  have e5 := s_rows_among (scr := scr) (n := n) (h := h) (f.ey.map (bAt b)) (eyes_le w o f) (by rw [List.length_map]; exact hey.1)
  simp only [f_rows_inside, evs1, evs2, evs3, evs4, evs5, evs6, evs7, evs8, evs9, evsF, evsH, if_true, if_false, Bool.false_eq_true, List.nil_append, Bool.not_true, Bool.not_false, hsD, boxD, e4, fdD]
  have hr : rowD f.ey = .tuple (f.ey.map fun (n : Nat) => .int (n : Int)) := rfl
  simp only [hr, evs1, evs2, evs3, evs4, evs5, evs6, evs7, evs8, evs9, evsF, evsH, if_true, if_false, Bool.false_eq_true, List.nil_append, Bool.not_true, Bool.not_false]
  rw [compL_map (g := fun e => rowD (bAt b e))]
  · simp only [evs1, evs2, evs3, evs4, evs5, evs6, evs7, evs8, evs9, evsF, evsH, if_true, if_false, Bool.false_eq_true, List.nil_append, Bool.not_true, Bool.not_false, List.length_map]
    rw [if_most (by omega)]
    rw [List.map_map] at e5
    simp only [evs1, evs2, evs3, evs4, evs5, evs6, evs7, evs8, evs9, evsF, evsH, if_true, if_false, Bool.false_eq_true, List.nil_append, Bool.not_true, Bool.not_false]
    rw [show (f.ey.map fun e => rowD (bAt b e)) = f.ey.map (rowD ∘ bAt b) from rfl, e5]
    simp only [evs1, evs2, evs3, evs4, evs5, evs6, evs7, evs8, evs9, evsF, evsH, if_true, if_false, Bool.false_eq_true, List.nil_append, Bool.not_true, Bool.not_false]
  · intro e he acc
    have hl : e < b.length := by rw [o.len]; exact hey.2 e he
    simp only [evs1, evs2, evs3, evs4, evs5, evs6, evs7, evs8, evs9, evsF, evsH, if_true, if_false, Bool.false_eq_true, List.nil_append, Bool.not_true, Bool.not_false, at_map, at_bAt hl, Option.map_some]
theorem s_set_of (l : List Nat) (hl : l.length < 64) : callN tab scr (n + 1) "set_of" none [.d (.list (l.map fun (n : Nat) => .int (n : Int)))] h = some (.d (rowD (sortN l)), h) := by
  rw [callN_eq fd_set_of rfl]
  show kEnd _ _ (evSs _ f_set_of.body [some _] h) = _
  simp only [f_set_of, evs1, evs2, evs3, evs4, evs5, evs6, evs7, evs8, evs9, evsF, evsH, if_true, if_false, Bool.false_eq_true, List.nil_append, Bool.not_true, Bool.not_false, sset_nat _ _ _ hl, lstD, rowD]
theorem rowsA_len (w : WF hs) (o : BoxOk hs b) (hf : f ∈ hs) : (rowsA (f.ey.map (bAt b))).length ≤ 9 := by
  have h1 := rows_len 3 (f.ey.map (bAt b)) [[]] (eyes_le w o f)
  have h2 : 3 ^ (f.ey.map (bAt b)).length ≤ 3 ^ 2 := Nat.pow_le_pow_right (by omega) (by rw [List.length_map]; exact (w.ey f hf).1)
  show (List.foldl rowStep [[]] _).length ≤ 9
  simp only [List.length_singleton, Nat.one_mul] at h1
  omega
theorem s_told_part (w : WF hs) (o : BoxOk hs b) (hf : hs[j]? = some f) : callN tab scr (n + 3) "told_part" none [.d (hsD hs), .d (boxD b), .d (.int j)] h = some (.d (rowD (toldP hs b f)), h) := by
  have hm := List.mem_of_getElem? hf
  rw [callN_eq fd_told_part rfl]
  show kEnd _ _ (evSs _ f_told_part.body [some _, some _, some _, none] h) = _
  have e5 := s_rows_inside (scr := scr) (n := n) (h := h) w o hf
  have hl := rowsA_len w o hm
  have e6 := s_set_of (scr := scr) (n := n + 1) (h := h) ((rowsA (f.ey.map (bAt b))).map (tAt hs f)) (by rw [List.length_map]; omega)
  rw [List.map_map] at e6
  simp only [f_told_part, evs1, evs2, evs3, evs4, evs5, evs6, evs7, evs8, evs9, evsF, evsH, if_true, if_false, Bool.false_eq_true, List.nil_append, Bool.not_true, Bool.not_false, e5]
  rw [compL_map (g := fun r => .int (tAt hs f r : Nat))]
  · simp only [evs1, evs2, evs3, evs4, evs5, evs6, evs7, evs8, evs9, evsF, evsH, if_true, if_false, Bool.false_eq_true, List.nil_append, Bool.not_true, Bool.not_false, List.length_map]
    rw [if_most (by omega)]
    simp only [evs1, evs2, evs3, evs4, evs5, evs6, evs7, evs8, evs9, evsF, evsH, if_true, if_false, Bool.false_eq_true, List.nil_append, Bool.not_true, Bool.not_false]
    have e7 : ((rowsA (f.ey.map (bAt b))).map fun r => PyData.int (tAt hs f r : Nat)) = (rowsA (f.ey.map (bAt b))).map ((fun (n : Nat) => PyData.int (n : Int)) ∘ tAt hs f) := rfl
    rw [e7, e6]
    simp only [evs1, evs2, evs3, evs4, evs5, evs6, evs7, evs8, evs9, evsF, evsH, if_true, if_false, Bool.false_eq_true, List.nil_append, Bool.not_true, Bool.not_false]
    rfl
  · intro r hr acc
    have := s_table_at (scr := scr) (n := n) (h := h) w hf (rowIn_of o (mem_rowsA.mp hr))
    simp only [evs1, evs2, evs3, evs4, evs5, evs6, evs7, evs8, evs9, evsF, evsH, if_true, if_false, Bool.false_eq_true, List.nil_append, Bool.not_true, Bool.not_false, this]
theorem s_told_box (w : WF hs) (o : BoxOk hs b) : callN tab scr (n + 4) "told_box" none [.d (hsD hs), .d (boxD b)] h = some (.d (boxD (toldB hs b)), h) := by
  rw [callN_eq fd_told_box rfl]
  show kEnd _ _ (evSs _ f_told_box.body [some _, some _, none] h) = _
  have hl := w.ln
  have eh : unOp ⟨callN tab scr (n + 3), scr, h.length⟩ .len (.d (hsD hs)) h = some (.d (.int (hs.length : Nat)), h) := by simp only [hsD, evs1, evs2, evs3, evs4, evs5, evs6, evs7, evs8, evs9, evsF, evsH, if_true, if_false, Bool.false_eq_true, List.nil_append, Bool.not_true, Bool.not_false, List.length_map]
  simp only [f_told_box, evs1, evs2, evs3, evs4, evs5, evs6, evs7, evs8, evs9, evsF, evsH, if_true, if_false, Bool.false_eq_true, List.nil_append, Bool.not_true, Bool.not_false, eh]
  rw [if_pos (by rw [most_eq]; omega)]
  simp only [evs1, evs2, evs3, evs4, evs5, evs6, evs7, evs8, evs9, evsF, evsH, if_true, if_false, Bool.false_eq_true, List.nil_append, Bool.not_true, Bool.not_false, Int.toNat_natCast, rng_nat]
  rw [compL_map (g := fun j => rowD (bAt (toldB hs b) j))]
  · simp only [evs1, evs2, evs3, evs4, evs5, evs6, evs7, evs8, evs9, evsF, evsH, if_true, if_false, Bool.false_eq_true, List.nil_append, Bool.not_true, Bool.not_false, List.length_map, List.length_range]
    rw [if_most (by omega)]
    simp only [evs1, evs2, evs3, evs4, evs5, evs6, evs7, evs8, evs9, evsF, evsH, if_true, if_false, Bool.false_eq_true, List.nil_append, Bool.not_true, Bool.not_false]
    congr 3
    unfold boxD
    congr 1
    refine List.ext_getElem? fun j => ?_
    rw [List.getElem?_map, List.getElem?_map]
    by_cases q : j < hs.length
    · rw [List.getElem?_range q, at_bAt (by unfold toldB; rw [List.length_map]; exact q)]
      rfl
    · rw [List.getElem?_eq_none (by rw [List.length_range]; omega), List.getElem?_eq_none (by unfold toldB; rw [List.length_map]; omega)]
      rfl
  · intro j hj acc
    have hj := List.mem_range.mp hj
    have hf := List.getElem?_eq_getElem hj
    have e5 := s_told_part (scr := scr) (n := n) (h := h) w o hf
    simp only [evs1, evs2, evs3, evs4, evs5, evs6, evs7, evs8, evs9, evsF, evsH, if_true, if_false, Bool.false_eq_true, List.nil_append, Bool.not_true, Bool.not_false, e5, toldB_at hf]
end
end K87
set_option Elab.async false
set_option linter.all false
set_option maxRecDepth 100000
set_option maxHeartbeats 1000000
/-! Sc: boxes: lying in, points, rounds. -/
namespace K87
open PySem Mp Hs
section
variable {scr : List Int} {n : Nat} {h : Hm} {hs : House} {b c : Box} {f : Fd} {j : Nat}
/-! ### tupled -/
mutual
def plainT : D → Bool
  | .none => true
  | .bool _ => true
  | .int _ => true
  | .str _ => true
  | .tuple xs => decide (xs.length < 100000) && plainTs xs
  | _ => false
def plainTs : List D → Bool
  | [] => true
  | x :: xs => plainT x && plainTs xs
end
theorem plainTs_mem : ∀ {xs : List D}, plainTs xs = true → ∀ x ∈ xs, plainT x = true
  | [], _, x, hx => by cases hx
  | y :: ys, h, x, hx => by
    unfold plainTs at h
    rw [Bool.and_eq_true] at h
    rcases List.mem_cons.mp hx with e | e
    · rw [e]; exact h.1
    · exact plainTs_mem h.2 x e
theorem plainTs_of : ∀ {xs : List D}, (∀ x ∈ xs, plainT x = true) → plainTs xs = true
  | [], _ => rfl
  | y :: ys, h => by
    unfold plainTs
    rw [h y (List.mem_cons_self ..), plainTs_of fun x hx => h x (List.mem_cons_of_mem _ hx)]
    rfl
theorem depth_mem : ∀ {xs : List D}, ∀ x ∈ xs, PyData.depth x ≤ PyData.depthAll xs
  | [], x, hx => by cases hx
  | y :: ys, x, hx => by
    unfold PyData.depthAll
    rcases List.mem_cons.mp hx with e | e
    · rw [e]; omega
    · have := depth_mem (xs := ys) x e
      omega
theorem s_tupled : ∀ (k n : Nat) (v : D) (h : Hm), plainT v = true → v.depth ≤ k → callN tab scr (n + k + 1) "tupled" none [.d v] h = some (.d v, h) := by
  intro k
  induction k with
  | zero =>
    intro n v h hp hd
    rw [callN_eq fd_tupled rfl]
    show kEnd _ _ (evSs _ f_tupled.body [some (.d v), none] h) = _
    cases v with
    | tuple xs => simp [PyData.depth] at hd
    | list xs => cases hp
    | dict xs => cases hp
    | none => simp only [f_tupled, evs1, evs2, evs3, evs4, evs5, evs6, evs7, evs8, evs9, evsF, evsH, if_true, if_false, Bool.false_eq_true, List.nil_append, Bool.not_true, Bool.not_false, show ∀ c, unOp c (.isi ["list", "tuple"]) (.d .none) h = some (.d (.bool false), h) from fun _ => rfl]
    | bool b => simp only [f_tupled, evs1, evs2, evs3, evs4, evs5, evs6, evs7, evs8, evs9, evsF, evsH, if_true, if_false, Bool.false_eq_true, List.nil_append, Bool.not_true, Bool.not_false, show ∀ c, unOp c (.isi ["list", "tuple"]) (.d (.bool b)) h = some (.d (.bool false), h) from fun _ => rfl]
    | int b => simp only [f_tupled, evs1, evs2, evs3, evs4, evs5, evs6, evs7, evs8, evs9, evsF, evsH, if_true, if_false, Bool.false_eq_true, List.nil_append, Bool.not_true, Bool.not_false, show ∀ c, unOp c (.isi ["list", "tuple"]) (.d (.int b)) h = some (.d (.bool false), h) from fun _ => rfl]
    | str b => simp only [f_tupled, evs1, evs2, evs3, evs4, evs5, evs6, evs7, evs8, evs9, evsF, evsH, if_true, if_false, Bool.false_eq_true, List.nil_append, Bool.not_true, Bool.not_false, show ∀ c, unOp c (.isi ["list", "tuple"]) (.d (.str b)) h = some (.d (.bool false), h) from fun _ => rfl]
  | succ k ih =>
    intro n v h hp hd
    rw [callN_eq fd_tupled rfl]
    show kEnd _ _ (evSs _ f_tupled.body [some (.d v), none] h) = _
    cases v with
    | tuple xs =>
      unfold plainT at hp
      rw [Bool.and_eq_true, decide_eq_true_eq] at hp
      simp only [f_tupled, evs1, evs2, evs3, evs4, evs5, evs6, evs7, evs8, evs9, evsF, evsH, if_true, if_false, Bool.false_eq_true, List.nil_append, Bool.not_true, Bool.not_false, show ∀ c, unOp c (.isi ["list", "tuple"]) (.d (.tuple xs)) h = some (.d (.bool true), h) from fun _ => rfl]
      have e := compL_map (step := turn ⟨callN tab scr (n + (k + 1)), scr, h.length⟩ (.call "tupled" (.cons (.var 1) .nil)) (.nm 1) (.con (.bool true)) [1] [some (.d (.tuple xs)), none]) (i := fun x : D => x) (g := fun x => x) (h := h) xs [] (fun x hx acc => by
        have hd2 : x.depth ≤ k := by
          have := depth_mem (xs := xs) x hx
          unfold PyData.depth at hd
          omega
        have := ih n x h (plainTs_mem hp.2 x hx) hd2
        rw [show n + k + 1 = n + (k + 1) from rfl] at this
        simp only [evs1, evs2, evs3, evs4, evs5, evs6, evs7, evs8, evs9, evsF, evsH, if_true, if_false, Bool.false_eq_true, List.nil_append, Bool.not_true, Bool.not_false, this])
      rw [List.map_id'] at e
      rw [e]
      simp only [evs1, evs2, evs3, evs4, evs5, evs6, evs7, evs8, evs9, evsF, evsH, if_true, if_false, Bool.false_eq_true, List.nil_append, Bool.not_true, Bool.not_false]
      rw [if_pos (by rw [most_eq]; omega)]
      simp only [evs1, evs2, evs3, evs4, evs5, evs6, evs7, evs8, evs9, evsF, evsH, if_true, if_false, Bool.false_eq_true, List.nil_append, Bool.not_true, Bool.not_false]
    | list xs => cases hp
    | dict xs => cases hp
    | none => simp only [f_tupled, evs1, evs2, evs3, evs4, evs5, evs6, evs7, evs8, evs9, evsF, evsH, if_true, if_false, Bool.false_eq_true, List.nil_append, Bool.not_true, Bool.not_false, show ∀ c, unOp c (.isi ["list", "tuple"]) (.d .none) h = some (.d (.bool false), h) from fun _ => rfl]
    | bool b => simp only [f_tupled, evs1, evs2, evs3, evs4, evs5, evs6, evs7, evs8, evs9, evsF, evsH, if_true, if_false, Bool.false_eq_true, List.nil_append, Bool.not_true, Bool.not_false, show ∀ c, unOp c (.isi ["list", "tuple"]) (.d (.bool b)) h = some (.d (.bool false), h) from fun _ => rfl]
    | int b => simp only [f_tupled, evs1, evs2, evs3, evs4, evs5, evs6, evs7, evs8, evs9, evsF, evsH, if_true, if_false, Bool.false_eq_true, List.nil_append, Bool.not_true, Bool.not_false, show ∀ c, unOp c (.isi ["list", "tuple"]) (.d (.int b)) h = some (.d (.bool false), h) from fun _ => rfl]
    | str b => simp only [f_tupled, evs1, evs2, evs3, evs4, evs5, evs6, evs7, evs8, evs9, evsF, evsH, if_true, if_false, Bool.false_eq_true, List.nil_append, Bool.not_true, Bool.not_false, show ∀ c, unOp c (.isi ["list", "tuple"]) (.d (.str b)) h = some (.d (.bool false), h) from fun _ => rfl]
theorem plain_row {r : List Nat} (hl : r.length < 100000) : plainT (rowD r) = true := by
  unfold rowD plainT
  rw [List.length_map, decide_eq_true hl]
  refine plainTs_of fun x hx => ?_
  obtain ⟨y, _, e⟩ := List.mem_map.mp hx
  rw [← e]
  rfl
theorem plain_box (hl : b.length < 100000) (hr : ∀ r ∈ b, r.length < 100000) : plainT (boxD b) = true := by
  unfold boxD plainT
  rw [List.length_map, decide_eq_true hl]
  refine plainTs_of fun x hx => ?_
  obtain ⟨y, hy, e⟩ := List.mem_map.mp hx
  rw [← e]
  exact plain_row (hr y hy)
theorem depth_box2 (b : Box) : PyData.depth (boxD b) ≤ 2 := by
  unfold boxD
  rw [PyData.depth]
  have := depth_rows b
  omega
theorem BoxOk.plain (w : WF hs) (o : BoxOk hs b) : plainT (boxD b) = true := plain_box (by rw [o.len]; have := w.ln; omega) fun r hr => by
  obtain ⟨j, hj⟩ := List.mem_iff_getElem?.mp hr
  have := o.len_le w j
  rw [bAt_at hj] at this
  omega
theorem s_tupled_box (w : WF hs) (o : BoxOk hs b) : callN tab scr (n + 3) "tupled" none [.d (boxD b)] h = some (.d (boxD b), h) := s_tupled 2 n _ h (BoxOk.plain w o) (depth_box2 b)
/-! ### lying in, points -/
def liesB (b c : Box) : Bool := (b.zip c).all fun p => p.1.all fun x => decide (x ∈ p.2)
theorem lies_sub (l : b.length = c.length) : liesB b c = true ↔ Sub b c := by
  unfold liesB
  rw [List.all_eq_true]
  constructor
  · intro h j x hx
    have hj := bAt_lt hx
    have hz : (b.zip c)[j]? = some (bAt b j, bAt c j) := by
      rw [List.getElem?_zip_eq_some]
      exact ⟨at_bAt hj, at_bAt (l ▸ hj)⟩
    have := List.all_eq_true.mp (h _ (List.mem_of_getElem? hz)) x hx
    exact of_decide_eq_true this
  · intro h p hp
    rw [List.all_eq_true]
    intro x hx
    obtain ⟨j, hj⟩ := List.mem_iff_getElem?.mp hp
    obtain ⟨h1, h2⟩ := List.getElem?_zip_eq_some.mp hj
    refine decide_eq_true ?_
    have := h j x (by rw [bAt_at h1]; exact hx)
    rw [bAt_at h2] at this
    exact this
theorem s_lies_in (hv : EV) (hl : b.length < 1000) (hr : ∀ r ∈ b, r.length < 1000) : callN tab scr (n + 1) "lies_in" none [hv, .d (boxD b), .d (boxD c)] h = some (.d (.bool (liesB b c)), h) := by
  rw [callN_eq fd_lies_in rfl]
  show kEnd _ _ (evSs _ f_lies_in.body [some _, some _, some _, none, none, none] h) = _
  have hz : zipD (b.map rowD) (c.map rowD) = (b.zip c).map fun p => PyData.tuple [rowD p.1, rowD p.2] := zip_maps _ _ _ _
  simp only [f_lies_in, evs1, evs2, evs3, evs4, evs5, evs6, evs7, evs8, evs9, evsF, evsH, if_true, if_false, Bool.false_eq_true, List.nil_append, Bool.not_true, Bool.not_false, boxD, hz]
  rw [compL_map (g := fun p => .bool (p.1.all fun x => decide (x ∈ p.2)))]
  · simp only [evs1, evs2, evs3, evs4, evs5, evs6, evs7, evs8, evs9, evsF, evsH, if_true, if_false, Bool.false_eq_true, List.nil_append, Bool.not_true, Bool.not_false, List.length_map]
    rw [if_most (by rw [List.length_zip]; omega)]
    have e : ((b.zip c).map fun p => PyData.bool (p.1.all fun x => decide (x ∈ p.2))) = ((b.zip c).map fun p => p.1.all fun x => decide (x ∈ p.2)).map PyData.bool := by rw [List.map_map]; rfl
    simp only [evs1, evs2, evs3, evs4, evs5, evs6, evs7, evs8, evs9, evsF, evsH, if_true, if_false, Bool.false_eq_true, List.nil_append, Bool.not_true, Bool.not_false, e, List.all_map]
    rfl
  · intro p hp acc
    have hp1 := hr p.1 (List.of_mem_zip hp).1
    have hd1 : rowD p.1 = .tuple (p.1.map fun (n : Nat) => .int (n : Int)) := rfl
    simp only [evs1, evs2, evs3, evs4, evs5, evs6, evs7, evs8, evs9, evsF, evsH, if_true, if_false, Bool.false_eq_true, List.nil_append, Bool.not_true, Bool.not_false, hd1]
    rw [compL_map (g := fun x => .bool (decide (x ∈ p.2)))]
    · simp only [evs1, evs2, evs3, evs4, evs5, evs6, evs7, evs8, evs9, evsF, evsH, if_true, if_false, Bool.false_eq_true, List.nil_append, Bool.not_true, Bool.not_false, List.length_map]
      rw [if_most (by omega)]
      have e : (p.1.map fun x => PyData.bool (decide (x ∈ p.2))) = (p.1.map fun x => decide (x ∈ p.2)).map PyData.bool := by rw [List.map_map]; rfl
      simp only [evs1, evs2, evs3, evs4, evs5, evs6, evs7, evs8, evs9, evsF, evsH, if_true, if_false, Bool.false_eq_true, List.nil_append, Bool.not_true, Bool.not_false, e, List.all_map]
      rfl
    · intro x hx acc
      have hd2 : rowD p.2 = .tuple (p.2.map fun (n : Nat) => .int (n : Int)) := rfl
      simp only [evs1, evs2, evs3, evs4, evs5, evs6, evs7, evs8, evs9, evsF, evsH, if_true, if_false, Bool.false_eq_true, List.nil_append, Bool.not_true, Bool.not_false, hd2, dok_ints, Hs.any_ints]
def isPoint (b : Box) : Bool := b.all fun r => decide (r.length = 1)
def ptOf (b : Box) : List Nat := b.map fun r => r.headD 0
def pointD (b : Box) : D := if isPoint b = true then rowD (ptOf b) else .none
theorem s_point_of (hv : EV) (hl : b.length < 1000) : callN tab scr (n + 1) "point_of" none [hv, .d (boxD b)] h = some (.d (pointD b), h) := by
  rw [callN_eq fd_point_of rfl]
  show kEnd _ _ (evSs _ f_point_of.body [some _, some _, none] h) = _
  simp only [f_point_of, evs1, evs2, evs3, evs4, evs5, evs6, evs7, evs8, evs9, evsF, evsH, if_true, if_false, Bool.false_eq_true, List.nil_append, Bool.not_true, Bool.not_false, boxD]
  rw [compL_map (g := fun r => .bool (decide (r.length = 1)))]
  · simp only [evs1, evs2, evs3, evs4, evs5, evs6, evs7, evs8, evs9, evsF, evsH, if_true, if_false, Bool.false_eq_true, List.nil_append, Bool.not_true, Bool.not_false, List.length_map]
    rw [if_most (by omega)]
    have e : (b.map fun r => PyData.bool (decide (r.length = 1))) = (b.map fun r => decide (r.length = 1)).map PyData.bool := by rw [List.map_map]; rfl
    simp only [evs1, evs2, evs3, evs4, evs5, evs6, evs7, evs8, evs9, evsF, evsH, if_true, if_false, Bool.false_eq_true, List.nil_append, Bool.not_true, Bool.not_false, e, List.all_map]
    unfold pointD isPoint
    cases q : (b.all fun r => decide (r.length = 1)) with
    | false =>
      simp only [show b.all (id ∘ fun r => decide (r.length = 1)) = false from q, evs1, evs2, evs3, evs4, evs5, evs6, evs7, evs8, evs9, evsF, evsH, if_true, if_false, Bool.false_eq_true, List.nil_append, Bool.not_true, Bool.not_false]
    | true =>
      simp only [show b.all (id ∘ fun r => decide (r.length = 1)) = true from q, evs1, evs2, evs3, evs4, evs5, evs6, evs7, evs8, evs9, evsF, evsH, if_true, if_false, Bool.false_eq_true, List.nil_append, Bool.not_true, Bool.not_false]
      rw [compL_map (g := fun r => .int (r.headD 0 : Nat))]
      · simp only [evs1, evs2, evs3, evs4, evs5, evs6, evs7, evs8, evs9, evsF, evsH, if_true, if_false, Bool.false_eq_true, List.nil_append, Bool.not_true, Bool.not_false, List.length_map]
        rw [if_most (by omega)]
        simp only [evs1, evs2, evs3, evs4, evs5, evs6, evs7, evs8, evs9, evsF, evsH, if_true, if_false, Bool.false_eq_true, List.nil_append, Bool.not_true, Bool.not_false, rowD, ptOf, List.map_map]
        rfl
      · intro r hr acc
        have := of_decide_eq_true (List.all_eq_true.mp q r hr)
        match r, this with
        | [x], _ =>
          simp only [rowD, evs1, evs2, evs3, evs4, evs5, evs6, evs7, evs8, evs9, evsF, evsH, if_true, if_false, Bool.false_eq_true, List.nil_append, Bool.not_true, Bool.not_false, List.map_cons, List.map_nil, atI_0, List.getElem?_cons_zero, List.headD_cons]
  · intro r hr acc
    have e : ((r.length : Int) == 1) = decide (r.length = 1) := by
      by_cases q : r.length = 1
      · rw [q]; rfl
      · rw [decide_eq_false q]
        exact beq_false_of_ne (by omega)
    simp only [evs1, evs2, evs3, evs4, evs5, evs6, evs7, evs8, evs9, evsF, evsH, if_true, if_false, Bool.false_eq_true, List.nil_append, Bool.not_true, Bool.not_false, rowD, List.length_map, PyData.depth, show (0 : Nat) ≤ 64 from by omega, PyData.eqv, e]
end
end K87
set_option Elab.async false
set_option linter.all false
set_option maxRecDepth 100000
set_option maxHeartbeats 2000000
/-! Sd: growing, rounds, ends. -/
namespace K87
open PySem Mp Hs
section
variable {scr : List Int} {n : Nat} {h : Hm} {hs : House} {b c : Box} {f : Fd} {j : Nat}
/-- the test that both loops make -/
abbrev stillT (i : Nat) : ME := .or (.bin .lt (.un .len (.var i)) (.gl "PAIR" (.int 2))) (.bin .ne (.bin .ix (.var i) (.un .neg (.con (.int 1)))) (.bin .ix (.var i) (.un .neg (.gl "PAIR" (.int 2)))))
theorem two_last {α : Type} (g : α → D) (c : List α) (x y : α) : atI ((c ++ [x, y]).map g) (-1) = some (g y) ∧ atI ((c ++ [x, y]).map g) (-2) = some (g x) := by
  have h1 := atI_neg ((c ++ [x, y]).map g) 1 (Nat.le_refl _) (by simp)
  have h2 := atI_neg ((c ++ [x, y]).map g) 2 (by omega) (by simp)
  rw [show (-1 : Int) = -((1 : Nat) : Int) from rfl, show (-2 : Int) = -((2 : Nat) : Int) from rfl, h1, h2]
  simp
theorem one_last {α : Type} (g : α → D) (c : List α) (x : α) : atI ((c ++ [x]).map g) (-1) = some (g x) := by
  rw [List.map_append]
  exact atI_last _ _
theorem still1 (c : Cl) (i : Nat) (env : Ev) (he : env[i]? = some (some (.ref h.length))) (x : D) : wtest c (stillT i) env (h ++ [.lst [x]]) = some (true, h ++ [.lst [x]]) := by
  have e := app_at0 h (.lst [x]) []
  simp only [evs1, evs2, evs3, evs4, evs5, evs6, evs7, evs8, evs9, evsF, evsH, if_true, if_false, Bool.false_eq_true, List.nil_append, Bool.not_true, Bool.not_false, he, len_ref e, List.length_singleton, show decide (((1 : Nat) : Int) < 2) = true from rfl]
theorem still2 (c : Cl) (i : Nat) (env : Ev) (he : env[i]? = some (some (.ref h.length))) (l : List Box) (x y : Box) : wtest c (stillT i) env (h ++ [.lst ((l ++ [x, y]).map boxD)]) = some (decide (y ≠ x), h ++ [.lst ((l ++ [x, y]).map boxD)]) := by
  have e := app_at0 h (.lst ((l ++ [x, y]).map boxD)) []
  obtain ⟨e1, e2⟩ := two_last boxD l x y
  have hl : decide ((((l ++ [x, y]).map boxD).length : Int) < 2) = false := decide_eq_false (by rw [List.length_map, List.length_append]; simp only [List.length_cons, List.length_nil]; omega)
  simp only [evs1, evs2, evs3, evs4, evs5, evs6, evs7, evs8, evs9, evsF, evsH, if_true, if_false, Bool.false_eq_true, List.nil_append, Bool.not_true, Bool.not_false, he, len_ref e, hl, ix_ref e, e1, e2, depth_box, eqv_box]
  rw [decide_not]
theorem growB_map : ((b.zip (toldB hs b)).map fun p => sortN (p.1 ++ p.2)) = growB hs b := by
  unfold growB
  rw [← List.map_uncurry_zip_eq_zipWith]
  rfl
theorem told_list (o : BoxOk hs b) : ((List.range hs.length).map fun j => rowD (bAt (toldB hs b) j)) = (toldB hs b).map rowD := by
  refine List.ext_getElem? fun j => ?_
  rw [List.getElem?_map, List.getElem?_map]
  by_cases q : j < hs.length
  · rw [List.getElem?_range q, at_bAt (by unfold toldB; rw [List.length_map]; exact q)]
    rfl
  · rw [List.getElem?_eq_none (by rw [List.length_range]; omega), List.getElem?_eq_none (by unfold toldB; rw [List.length_map]; omega)]
    rfl
abbrev growBody : MSs := (.cons (.asg (.pt (.nm 4)) (.bin .ix (.var 3) (.un .neg (.con (.int 1))))) (.cons (.asg (.pt (.nm 5)) (.lc false (.ite (.bin .isin (.var 6) (.var 2)) (.tup .nil) (.call "told_part" (.cons (.var 0) (.cons (.var 4) (.cons (.var 6) .nil))))) (.nm 6) (.rng (.un .len (.var 0))) (.con (.bool true)) [6])) (.cons (.expr (.bin .apnd (.var 3) (.un .tuple (.lc false (.call "set_of" (.cons (.lst false (.star (.var 7) (.star (.var 8) .nil))) .nil)) (.tup (.cons (.nm 7) (.cons (.nm 8) .nil))) (.zip (.var 4) (.var 5)) (.con (.bool true)) [7, 8])))) .nil)))
theorem grow_step (w : WF hs) (e1 e2 : Option EV) (hb : e2 = some (.d (.tuple []))) (l : List Box) (x : Box) (o : BoxOk hs x) (hl : l.length < 100) (x4 x5 : Option EV) :
    ∃ y4 y5, evSs ⟨callN tab scr (n + 3), scr, h.length⟩ growBody [some (.d (hsD hs)), e1, e2, some (.ref h.length), x4, x5, none, none, none] (h ++ [.lst ((l ++ [x]).map boxD)]) =
      some (.next, [some (.d (hsD hs)), e1, e2, some (.ref h.length), y4, y5, none, none, none], h ++ [.lst ((l ++ [x, growB hs x]).map boxD)]) := by
  subst hb
  have e := app_at0 h (.lst ((l ++ [x]).map boxD)) []
  have e3 := one_last boxD l x
  have hl3 := w.ln
  have eh : ∀ c h, unOp c .len (.d (hsD hs)) h = some (.d (.int (hs.length : Nat)), h) := fun c h => by simp only [hsD, evs1, evs2, evs3, evs4, evs5, evs6, evs7, evs8, evs9, evsF, evsH, if_true, if_false, Bool.false_eq_true, List.nil_append, Bool.not_true, Bool.not_false, List.length_map]
  refine ⟨some (.d (boxD x)), some (.d (.list ((toldB hs x).map rowD))), ?_⟩
  simp only [evs1, evs2, evs3, evs4, evs5, evs6, evs7, evs8, evs9, evsF, evsH, if_true, if_false, Bool.false_eq_true, List.nil_append, Bool.not_true, Bool.not_false, ix_ref e, e3, eh]
  rw [if_pos (by rw [most_eq]; omega)]
  simp only [evs1, evs2, evs3, evs4, evs5, evs6, evs7, evs8, evs9, evsF, evsH, if_true, if_false, Bool.false_eq_true, List.nil_append, Bool.not_true, Bool.not_false, Int.toNat_natCast, rng_nat]
  rw [compL_map (g := fun j => rowD (bAt (toldB hs x) j))]
  · simp only [evs1, evs2, evs3, evs4, evs5, evs6, evs7, evs8, evs9, evsF, evsH, if_true, if_false, Bool.false_eq_true, List.nil_append, Bool.not_true, Bool.not_false, List.length_map, List.length_range]
    rw [if_most (by omega)]
    have hx : boxD x = .tuple (x.map rowD) := rfl
    have hz : zipD (x.map rowD) ((toldB hs x).map rowD) = (x.zip (toldB hs x)).map fun p => PyData.tuple [rowD p.1, rowD p.2] := zip_maps _ _ _ _
    have hlx := o.len
    simp only [evs1, evs2, evs3, evs4, evs5, evs6, evs7, evs8, evs9, evsF, evsH, if_true, if_false, Bool.false_eq_true, List.nil_append, Bool.not_true, Bool.not_false, told_list o, preA_ref e, hx, hz]
    rw [compL_map (g := fun p => rowD (sortN (p.1 ++ p.2)))]
    · have hg : ((x.zip (toldB hs x)).map fun p => rowD (sortN (p.1 ++ p.2))) = (growB hs x).map rowD := by rw [← growB_map, List.map_map]; rfl
      simp only [evs1, evs2, evs3, evs4, evs5, evs6, evs7, evs8, evs9, evsF, evsH, if_true, if_false, Bool.false_eq_true, List.nil_append, Bool.not_true, Bool.not_false, List.length_map]
      rw [if_most (by rw [List.length_zip]; omega)]
      simp only [evs1, evs2, evs3, evs4, evs5, evs6, evs7, evs8, evs9, evsF, evsH, if_true, if_false, Bool.false_eq_true, List.nil_append, Bool.not_true, Bool.not_false, hg, apnd_ref e, List.length_map, List.length_append, List.length_singleton]
      rw [if_pos (by rw [most_eq]; omega)]
      simp only [evs1, evs2, evs3, evs4, evs5, evs6, evs7, evs8, evs9, evsF, evsH, if_true, if_false, Bool.false_eq_true, List.nil_append, Bool.not_true, Bool.not_false, evsA]
      simp [boxD]
    · intro p hp acc
      have hp1 : p.1.length ≤ 3 := by
        obtain ⟨j, hj⟩ := List.mem_iff_getElem?.mp (List.of_mem_zip hp).1
        have := o.len_le w j
        rw [bAt_at hj] at this
        exact this
      have hp2 : p.2.length ≤ 3 := by
        obtain ⟨j, hj⟩ := List.mem_iff_getElem?.mp (List.of_mem_zip hp).2
        have := (told_ok w o).len_le w j
        rw [bAt_at hj] at this
        exact this
      have h1 : rowD p.1 = .tuple (p.1.map fun (n : Nat) => .int (n : Int)) := rfl
      have h2 : rowD p.2 = .tuple (p.2.map fun (n : Nat) => .int (n : Int)) := rfl
      have e6 := s_set_of (scr := scr) (n := n + 2) (h := h ++ [.lst ((l ++ [x]).map boxD)]) (p.1 ++ p.2) (by rw [List.length_append]; omega)
      rw [List.map_append] at e6
      simp only [evs1, evs2, evs3, evs4, evs5, evs6, evs7, evs8, evs9, evsF, evsH, if_true, if_false, Bool.false_eq_true, List.nil_append, Bool.not_true, Bool.not_false, h1, h2, List.append_nil, List.length_append, List.length_map]
      rw [if_most (by omega)]
      simp only [evs1, evs2, evs3, evs4, evs5, evs6, evs7, evs8, evs9, evsF, evsH, if_true, if_false, Bool.false_eq_true, List.nil_append, Bool.not_true, Bool.not_false, e6]
  · intro j hj acc
    have hj := List.mem_range.mp hj
    have hf := List.getElem?_eq_getElem hj
    have e5 := s_told_part (scr := scr) (n := n) (h := h ++ [.lst ((l ++ [x]).map boxD)]) w o hf
    simp only [evs1, evs2, evs3, evs4, evs5, evs6, evs7, evs8, evs9, evsF, evsH, if_true, if_false, Bool.false_eq_true, List.nil_append, Bool.not_true, Bool.not_false, e5, toldB_at hf, show depthOk [] = true from rfl, List.any_nil]
theorem s_laps_grown (w : WF hs) (o : BoxNe hs b) : callN tab scr (n + 4) "laps_grown" none [.d (hsD hs), .d (boxD b), .d (.tuple [])] h = some (.d (.list ((lapsL hs b).map boxD)), h) := by
  rw [callN_eq fd_laps_grown rfl]
  show kEnd _ _ (evSs _ f_laps_grown.body [some _, some _, some _, none, none, none, none, none, none] h) = _
  obtain ⟨env', d, z, ⟨y4, y5, ee⟩, hc, hw⟩ := chain_while (α := Box) (f := growB hs) (P := fun x => BoxNe hs x) (μ := fun x => 9 - total x) (enc := boxD) (fun x h => grow_ne w h) (fun x h e => grow_mu w h e)
    (test := wtest ⟨callN tab scr (n + 3), scr, h.length⟩ (stillT 3)) (body := evSs ⟨callN tab scr (n + 3), scr, h.length⟩ growBody)
    (E := fun env => ∃ x4 x5, env = [some (.d (hsD hs)), some (.d (boxD b)), some (.d (.tuple [])), some (.ref h.length), x4, x5, none, none, none]) (h := h)
    (fun env ⟨x4, x5, he⟩ x => still1 _ 3 env (by rw [he]; rfl) _) (fun env ⟨x4, x5, he⟩ c x y => still2 _ 3 env (by rw [he]; rfl) c x y)
    (fun env ⟨x4, x5, he⟩ c x px hc => by
      obtain ⟨y4, y5, q⟩ := grow_step (scr := scr) (n := n) (h := h) w (some (.d (boxD b))) (some (.d (.tuple []))) rfl c x px.toBoxOk hc x4 x5
      exact ⟨_, ⟨y4, y5, rfl⟩, by rw [he]; exact q⟩) 30 b [some (.d (hsD hs)), some (.d (boxD b)), some (.d (.tuple [])), some (.ref h.length), none, none, none, none, none] (by omega) o (by omega) ⟨none, none, rfl⟩
  subst ee
  simp only [f_laps_grown, evs1, evs2, evs3, evs4, evs5, evs6, evs7, evs8, evs9, evsF, evsH, if_true, if_false, Bool.false_eq_true, List.nil_append, Bool.not_true, Bool.not_false, s_tupled_box w o.toBoxOk, List.length_singleton, show 1 ≤ most from by rw [most_eq]; omega]
  rw [hw]
  have e := app_at0 h (.lst ((d ++ [z, growB hs z]).map boxD)) []
  have ec : cutD ((d ++ [z, growB hs z]).map boxD) none (some (-1)) = (lapsL hs b).map boxD := by
    unfold lapsL
    rw [hc, show d ++ [z, growB hs z] = (d ++ [z]) ++ [growB hs z] by simp, List.map_append]
    exact cut_last _ _
  simp only [evs1, evs2, evs3, evs4, evs5, evs6, evs7, evs8, evs9, evsF, evsH, if_true, if_false, Bool.false_eq_true, List.nil_append, Bool.not_true, Bool.not_false, sl_ref e, ec]
theorem s_grown (w : WF hs) (o : BoxNe hs b) : callN tab scr (n + 5) "grown" none [.d (hsD hs), .d (boxD b)] h = some (.d (boxD (grownB hs b)), h) := by
  rw [callN_eq fd_grown rfl]
  show kEnd _ _ (evSs _ f_grown.body [some _, some _] h) = _
  have e := at_lastM boxD (lapsL hs b) _ (last_is (chain_ne 30 b))
  simp only [f_grown, evs1, evs2, evs3, evs4, evs5, evs6, evs7, evs8, evs9, evsF, evsH, if_true, if_false, Bool.false_eq_true, List.nil_append, Bool.not_true, Bool.not_false, List.length_nil, show 0 ≤ most from by rw [most_eq]; omega, s_laps_grown w o, e]
  rfl
abbrev roundBody : MSs := (.cons (.expr (.bin .apnd (.var 2) (.call "told_box" (.cons (.var 0) (.cons (.bin .ix (.var 2) (.un .neg (.con (.int 1)))) .nil))))) .nil)
theorem s_rounds (w : WF hs) (o : BoxNe hs b) : callN tab scr (n + 6) "rounds" none [.d (hsD hs), .d (boxD b)] h = some (.d (.list ((roundsL hs b).map boxD)), h) := by
  rw [callN_eq fd_rounds rfl]
  show kEnd _ _ (evSs _ f_rounds.body [some _, some _, none] h) = _
  obtain ⟨env', d, z, ee, hc, hw⟩ := chain_while (α := Box) (f := toldB hs) (P := fun x => Shut hs x) (μ := total) (enc := boxD) (fun x h => h.told w) (fun x h e => told_mu w h e)
    (test := wtest ⟨callN tab scr (n + 5), scr, h.length⟩ (stillT 2)) (body := evSs ⟨callN tab scr (n + 5), scr, h.length⟩ roundBody)
    (E := fun env => env = [some (.d (hsD hs)), some (.d (boxD b)), some (.ref h.length)]) (h := h)
    (fun env he x => still1 _ 2 env (by rw [he]; rfl) _) (fun env he c x y => still2 _ 2 env (by rw [he]; rfl) c x y)
    (fun env he c x px hc => by
      subst he
      refine ⟨_, rfl, ?_⟩
      have e := app_at0 h (.lst ((c ++ [x]).map boxD)) []
      have e3 := one_last boxD c x
      have e4 := s_told_box (scr := scr) (n := n + 1) (h := h ++ [.lst ((c ++ [x]).map boxD)]) w px.toBoxOk
      rw [show n + 1 + 4 = n + 5 from rfl] at e4
      simp only [evs1, evs2, evs3, evs4, evs5, evs6, evs7, evs8, evs9, evsF, evsH, if_true, if_false, Bool.false_eq_true, List.nil_append, Bool.not_true, Bool.not_false, preA_ref e, ix_ref e, e3, e4, apnd_ref e, List.length_map, List.length_append, List.length_singleton]
      rw [if_pos (by rw [most_eq]; omega)]
      simp only [evs1, evs2, evs3, evs4, evs5, evs6, evs7, evs8, evs9, evsF, evsH, if_true, if_false, Bool.false_eq_true, List.nil_append, Bool.not_true, Bool.not_false, evsA]
      simp) 30 (grownB hs b) [some (.d (hsD hs)), some (.d (boxD b)), some (.ref h.length)] (by omega) (grown_ok w o) (Nat.le_trans (total_9 w (grown_ok w o).toBoxOk) (by omega)) rfl
  subst ee
  simp only [f_rounds, evs1, evs2, evs3, evs4, evs5, evs6, evs7, evs8, evs9, evsF, evsH, if_true, if_false, Bool.false_eq_true, List.nil_append, Bool.not_true, Bool.not_false, s_grown w o, List.length_singleton, show 1 ≤ most from by rw [most_eq]; omega]
  rw [hw]
  have e := app_at0 h (.lst ((d ++ [z, toldB hs z]).map boxD)) []
  have ec : cutD ((d ++ [z, toldB hs z]).map boxD) none (some (-1)) = (roundsL hs b).map boxD := by
    unfold roundsL
    rw [hc, show d ++ [z, toldB hs z] = (d ++ [z]) ++ [toldB hs z] by simp, List.map_append]
    exact cut_last _ _
  simp only [evs1, evs2, evs3, evs4, evs5, evs6, evs7, evs8, evs9, evsF, evsH, if_true, if_false, Bool.false_eq_true, List.nil_append, Bool.not_true, Bool.not_false, sl_ref e, ec]
theorem rounds_lastD : atI ((roundsL hs b).map boxD) (-1) = some (boxD (limB hs b)) := at_lastM boxD (roundsL hs b) _ (last_is rounds_ne)
theorem s_limit (w : WF hs) (o : BoxNe hs b) : callN tab scr (n + 7) "limit" none [.d (hsD hs), .d (boxD b)] h = some (.d (boxD (limB hs b)), h) := by
  rw [callN_eq fd_limit rfl]
  show kEnd _ _ (evSs _ f_limit.body [some _, some _] h) = _
  simp only [f_limit, evs1, evs2, evs3, evs4, evs5, evs6, evs7, evs8, evs9, evsF, evsH, if_true, if_false, Bool.false_eq_true, List.nil_append, Bool.not_true, Bool.not_false, s_rounds w o, rounds_lastD]
theorem lim_small (w : WF hs) (o : BoxNe hs b) : (limB hs b).length < 1000 := by
  have := (rounds_all w o _ lim_mem).len
  have := w.ln
  omega
theorem s_end_from (w : WF hs) (o : BoxNe hs b) : callN tab scr (n + 8) "end_from" none [.d (hsD hs), .d (boxD b)] h = some (.d (pointD (limB hs b)), h) := by
  rw [callN_eq fd_end_from rfl]
  show kEnd _ _ (evSs _ f_end_from.body [some _, some _] h) = _
  simp only [f_end_from, evs1, evs2, evs3, evs4, evs5, evs6, evs7, evs8, evs9, evsF, evsH, if_true, if_false, Bool.false_eq_true, List.nil_append, Bool.not_true, Bool.not_false, s_limit w o, s_point_of _ (lim_small w o)]
def highD (hs : House) (b : Box) : D := if isPoint (limB hs b) = true then .tuple ((roundsL hs b).map boxD) else .none
theorem s_heights (w : WF hs) (o : BoxNe hs b) : callN tab scr (n + 8) "heights" none [.d (hsD hs), .d (boxD b)] h = some (.d (highD hs b), h) := by
  rw [callN_eq fd_heights rfl]
  show kEnd _ _ (evSs _ f_heights.body [some _, some _, none] h) = _
  simp only [f_heights, evs1, evs2, evs3, evs4, evs5, evs6, evs7, evs8, evs9, evsF, evsH, if_true, if_false, Bool.false_eq_true, List.nil_append, Bool.not_true, Bool.not_false, s_rounds w o, rounds_lastD, s_point_of _ (lim_small w o)]
  unfold highD pointD
  cases q : isPoint (limB hs b) with
  | true =>
    simp only [rowD, evs1, evs2, evs3, evs4, evs5, evs6, evs7, evs8, evs9, evsF, evsH, if_true, if_false, Bool.false_eq_true, List.nil_append, Bool.not_true, Bool.not_false]
  | false => simp only [evs1, evs2, evs3, evs4, evs5, evs6, evs7, evs8, evs9, evsF, evsH, if_true, if_false, Bool.false_eq_true, List.nil_append, Bool.not_true, Bool.not_false]
def renewD (hs : House) (b : Box) : D := if isPoint (limB hs b) = true then .int (((roundsL hs b).length - 1 : Nat) : Int) else .none
theorem rounds_pos : 1 ≤ (roundsL hs b).length := List.length_pos_iff.mpr rounds_ne
theorem s_renewals (w : WF hs) (o : BoxNe hs b) : callN tab scr (n + 8) "renewals" none [.d (hsD hs), .d (boxD b)] h = some (.d (renewD hs b), h) := by
  rw [callN_eq fd_renewals rfl]
  show kEnd _ _ (evSs _ f_renewals.body [some _, some _, none] h) = _
  simp only [f_renewals, evs1, evs2, evs3, evs4, evs5, evs6, evs7, evs8, evs9, evsF, evsH, if_true, if_false, Bool.false_eq_true, List.nil_append, Bool.not_true, Bool.not_false, s_rounds w o, rounds_lastD, s_point_of _ (lim_small w o)]
  unfold renewD pointD
  cases q : isPoint (limB hs b) with
  | true =>
    have := rounds_pos (hs := hs) (b := b)
    have e : ((roundsL hs b).length : Int) - 1 = (((roundsL hs b).length - 1 : Nat) : Int) := by omega
    simp only [rowD, evs1, evs2, evs3, evs4, evs5, evs6, evs7, evs8, evs9, evsF, evsH, if_true, if_false, Bool.false_eq_true, List.nil_append, Bool.not_true, Bool.not_false, List.length_map, e]
  | false => simp only [evs1, evs2, evs3, evs4, evs5, evs6, evs7, evs8, evs9, evsF, evsH, if_true, if_false, Bool.false_eq_true, List.nil_append, Bool.not_true, Bool.not_false]
end
end K87
set_option Elab.async false
set_option linter.all false
set_option maxRecDepth 100000
set_option maxHeartbeats 2000000
/-! Se: a Board as an instance: fields, methods. -/
namespace Hs
open PySem Mp
abbrev Ver := List (Nat × Nat)
def pairD (p : Nat × Nat) : D := .tuple [.int (p.1 : Int), .int (p.2 : Int)]
def verD (r : Ver) : D := .tuple (r.map pairD)
def versD (vs : List Ver) : D := .tuple (vs.map verD)
structure Bd where
  hs : House
  st : D
  vs : List Ver
  ps : List (List Nat)
  mv : List D
  fr : Bool
  pa : List D
def setVs (b : Bd) (v : List Ver) : Bd := { b with vs := v }
def setPs (b : Bd) (v : List (List Nat)) : Bd := { b with ps := v }
def setMv (b : Bd) (v : List D) : Bd := { b with mv := v }
def setFr (b : Bd) (v : Bool) : Bd := { b with fr := v }
def setPa (b : Bd) (v : List D) : Bd := { b with pa := v }
def fs (b : Bd) : List (Str × D) := [("own_house", hsD b.hs), ("own_start", b.st), ("own_versions", versD b.vs), ("own_pictures", boxD b.ps), ("own_moves", .tuple b.mv), ("own_free", .bool b.fr), ("own_past", .tuple b.pa)]
abbrev insB (b : Bd) : MO := .ins (Str.ofString "Board") (fs b)
abbrev Bat (h : Hm) (k : Nat) (b : Bd) : Prop := h[k]? = some (insB b)
section
variable {c : Cl} {h : Hm} {k : Nat} {b : Bd} {env : Ev}
theorem fld_ref {cl : Str} {l : List (Str × D)} {f : Str} {x : D} (e : h[k]? = some (.ins cl l)) (q : l.lookup f = some x) : unOp c (.fld f) (.ref k) h = some (.d x, h) := by simp only [unOp, e, q]
theorem fl_house (e : Bat h k b) : unOp c (.fld "own_house") (.ref k) h = some (.d (hsD b.hs), h) := fld_ref e rfl
theorem fl_start (e : Bat h k b) : unOp c (.fld "own_start") (.ref k) h = some (.d b.st, h) := fld_ref e rfl
theorem fl_vers (e : Bat h k b) : unOp c (.fld "own_versions") (.ref k) h = some (.d (versD b.vs), h) := fld_ref e rfl
theorem fl_pics (e : Bat h k b) : unOp c (.fld "own_pictures") (.ref k) h = some (.d (boxD b.ps), h) := fld_ref e rfl
theorem fl_moves (e : Bat h k b) : unOp c (.fld "own_moves") (.ref k) h = some (.d (.tuple b.mv), h) := fld_ref e rfl
theorem fl_free (e : Bat h k b) : unOp c (.fld "own_free") (.ref k) h = some (.d (.bool b.fr), h) := fld_ref e rfl
theorem fl_past (e : Bat h k b) : unOp c (.fld "own_past") (.ref k) h = some (.d (.tuple b.pa), h) := fld_ref e rfl
theorem st_fld {f : Str} {x : D} {b' : Bd} (q : stA.putF f x (fs b) = fs b') : kFl2 "Board" f k env x h (some (.ins "Board" (fs b))) = some (env, h.set k (insB b')) := by
  rw [show kFl2 "Board" f k env x h (some (.ins "Board" (fs b))) = if (Str.ofString "Board") = Str.ofString "Board" ∧ (fs b).length < 900 then some (env, h.set k (.ins "Board" (stA.putF f x (fs b)))) else none from rfl, if_pos ⟨rfl, by show 7 < 900; omega⟩, q]
theorem evsB : (∀ k env (v : List Ver) h b, kFl2 "Board" "own_versions" k env (versD v) h (some (.ins "Board" (fs b))) = some (env, h.set k (insB (setVs b v)))) ∧
    (∀ k env (v : List (List Nat)) h b, kFl2 "Board" "own_pictures" k env (boxD v) h (some (.ins "Board" (fs b))) = some (env, h.set k (insB (setPs b v)))) ∧
    (∀ k env (v : List D) h b, kFl2 "Board" "own_moves" k env (.tuple v) h (some (.ins "Board" (fs b))) = some (env, h.set k (insB (setMv b v)))) ∧
    (∀ k env (v : Bool) h b, kFl2 "Board" "own_free" k env (.bool v) h (some (.ins "Board" (fs b))) = some (env, h.set k (insB (setFr b v)))) ∧
    (∀ k env (v : List D) h b, kFl2 "Board" "own_past" k env (.tuple v) h (some (.ins "Board" (fs b))) = some (env, h.set k (insB (setPa b v)))) :=
  ⟨fun _ _ _ _ _ => st_fld rfl, fun _ _ _ _ _ => st_fld rfl, fun _ _ _ _ _ => st_fld rfl, fun _ _ _ _ _ => st_fld rfl, fun _ _ _ _ _ => st_fld rfl⟩
theorem set_at {o : MO} (e : h[k]? = some o) (o' : MO) : (h.set k o')[k]? = some o' := by
  rw [List.getElem?_set_self (List.getElem?_eq_some_iff.mp e).1]
theorem evsS : (∀ (h : Hm) (k : Nat) (o o' : MO), (h.set k o).set k o' = h.set k o') ∧ (∀ (h : Hm) (k : Nat) (o : MO), (h.set k o).length = h.length) := ⟨fun _ _ _ _ => List.set_set _, fun _ _ _ => List.length_set⟩
end
abbrev natD (n : Nat) : D := .int (n : Int)
theorem evsD : (∀ c h (b : Box) (j : Nat), binOp c .ix (.d (boxD b)) (.d (.int (j : Int))) h = match b[j]? with | some r => some (.d (rowD r), h) | none => none) ∧
    (∀ c h (r : List Nat) (j : Nat), binOp c .ix (.d (rowD r)) (.d (.int (j : Int))) h = match r[j]? with | some x => some (.d (.int (x : Int)), h) | none => none) ∧
    (∀ c h (hs : House) (j : Nat), binOp c .ix (.d (hsD hs)) (.d (.int (j : Int))) h = match hs[j]? with | some f => some (.d (fdD f), h) | none => none) ∧
    (∀ c h (vs : List Ver) (j : Nat), binOp c .ix (.d (versD vs)) (.d (.int (j : Int))) h = match vs[j]? with | some r => some (.d (verD r), h) | none => none) ∧
    (∀ c h (f : Fd), binOp c .ix (.d (fdD f)) (.d (.int 0)) h = some (.d (.tuple (f.nm.map PyData.str)), h)) ∧ (∀ c h (f : Fd), binOp c .ix (.d (fdD f)) (.d (.int 1)) h = some (.d (rowD f.ey), h)) ∧ (∀ c h (f : Fd), binOp c .ix (.d (fdD f)) (.d (.int 2)) h = some (.d (rowD f.tb), h)) ∧
    (∀ c h (p : Nat × Nat), binOp c .ix (.d (pairD p)) (.d (.int 0)) h = some (.d (.int (p.1 : Int)), h)) ∧ (∀ c h (p : Nat × Nat), binOp c .ix (.d (pairD p)) (.d (.int 1)) h = some (.d (.int (p.2 : Int)), h)) ∧
    (∀ c h (b : Box), unOp c .len (.d (boxD b)) h = some (.d (.int (b.length : Nat)), h)) ∧ (∀ c h (r : List Nat), unOp c .len (.d (rowD r)) h = some (.d (.int (r.length : Nat)), h)) ∧ (∀ c h (hs : House), unOp c .len (.d (hsD hs)) h = some (.d (.int (hs.length : Nat)), h)) ∧ (∀ c h (vs : List Ver), unOp c .len (.d (versD vs)) h = some (.d (.int (vs.length : Nat)), h)) ∧ (∀ c h (r : Ver), unOp c .len (.d (verD r)) h = some (.d (.int (r.length : Nat)), h)) ∧
    (∀ h (b : Box), frz (.d (boxD b)) h = some (b.map rowD, h)) ∧ (∀ h (r : List Nat), frz (.d (rowD r)) h = some (r.map natD, h)) ∧ (∀ h (hs : House), frz (.d (hsD hs)) h = some (hs.map fdD, h)) ∧ (∀ h (vs : List Ver), frz (.d (versD vs)) h = some (vs.map verD, h)) ∧ (∀ h (r : Ver), frz (.d (verD r)) h = some (r.map pairD, h)) ∧
    (∀ c h (b : Box), unOp c .tuple (.d (boxD b)) h = some (.d (boxD b), h)) ∧ (∀ c h (r : List Nat), unOp c .tuple (.d (rowD r)) h = some (.d (rowD r), h)) := by
  refine ⟨fun c h b j => ?_, fun c h r j => ?_, fun c h hs j => ?_, fun c h vs j => ?_, fun _ _ _ => rfl, fun _ _ _ => rfl, fun _ _ _ => rfl, fun _ _ _ => rfl, fun _ _ _ => rfl, fun c h b => ?_, fun c h b => ?_, fun c h b => ?_, fun c h b => ?_, fun c h b => ?_, fun _ _ => rfl, fun _ _ => rfl, fun _ _ => rfl, fun _ _ => rfl, fun _ _ => rfl, fun _ _ _ => rfl, fun _ _ _ => rfl⟩
  · simp only [boxD, evs5, at_map]; cases b[j]? <;> rfl
  · simp only [rowD, evs5, at_map]; cases r[j]? <;> rfl
  · simp only [hsD, evs5, at_map]; cases hs[j]? <;> rfl
  · simp only [versD, evs5, at_map]; cases vs[j]? <;> rfl
  · simp only [boxD, evs4, List.length_map]
  · simp only [rowD, evs4, List.length_map]
  · simp only [hsD, evs4, List.length_map]
  · simp only [versD, evs4, List.length_map]
  · simp only [verD, evs4, List.length_map]
/-- the value of a number: of the last pair that has it -/
def worthN (k : Nat) : Ver → Option Nat
  | [] => none
  | (j, v) :: r => match worthN k r with
    | some w => some w
    | none => if j = k then some v else none
theorem pairAt_row (k : Nat) : ∀ (r : Ver), pairAt (k : Int) (r.map pairD) = some ((worthN k r).map fun (v : Nat) => PyData.int (v : Int))
  | [] => rfl
  | (j, v) :: r => by
    rw [List.map_cons]
    unfold pairD
    rw [pairAt, show (r.map fun p => PyData.tuple [.int (p.1 : Int), .int (p.2 : Int)]) = r.map pairD from rfl, pairAt_row k r]
    rw [worthN]
    cases q : worthN k r with
    | some w => rfl
    | none =>
      simp only [Option.map_none]
      by_cases e : j = k
      · rw [if_pos (by omega : (j : Int) = k), if_pos e]; rfl
      · rw [if_neg (by omega : ¬ (j : Int) = k), if_neg e]; rfl
theorem worth_mem {k v : Nat} : ∀ {r : Ver}, worthN k r = some v → (k, v) ∈ r
  | [], h => by cases h
  | (j, w) :: r, h => by
    rw [worthN] at h
    cases q : worthN k r with
    | some x =>
      rw [q] at h
      cases h
      exact List.mem_cons_of_mem _ (worth_mem q)
    | none =>
      rw [q] at h
      simp only at h
      split at h
      · rename_i e
        cases h
        subst e
        exact List.mem_cons_self ..
      · cases h
theorem worth_some {k : Nat} : ∀ {r : Ver}, k ∈ r.map (·.1) → ∃ v, worthN k r = some v
  | [], h => by cases h
  | (j, w) :: r, h => by
    rw [worthN]
    cases q : worthN k r with
    | some x => exact ⟨x, rfl⟩
    | none =>
      rcases List.mem_cons.mp h with e | e
      · simp only [e, if_true]
        exact ⟨w, rfl⟩
      · obtain ⟨v, hv⟩ := worth_some e
        rw [q] at hv
        cases hv
theorem pairsOk_row : ∀ (r : Ver), Mp.pairsOk (r.map pairD) = true
  | [] => rfl
  | p :: r => by
    rw [List.map_cons]
    unfold pairD Mp.pairsOk
    exact pairsOk_row r
end Hs
namespace K87
open PySem Mp Hs
section
variable {scr : List Int} {n : Nat} {h : Hm} {hs : House} {f : Fd} {j k : Nat} {b : Bd}
theorem s_put_at (xs : List D) (t : D) (hj : j < xs.length) (hl : xs.length < 1000000) : callN tab scr (n + 1) "put_at" none [.d (.tuple xs), .d (.int j), .d t] h = some (.d (.tuple (xs.set j t)), h) := by
  rw [callN_eq fd_put_at rfl]
  show kEnd _ _ (evSs _ f_put_at.body [some _, some _, some _] h) = _
  have e1 : cutD xs none (some (j : Int)) = xs.take j := cut_to xs j
  have e2 : cutD xs (some ((j : Int) + 1)) none = xs.drop (j + 1) := cut_from xs (j + 1)
  have e3 : xs.take j ++ t :: (xs.drop (j + 1) ++ []) = xs.set j t := by
    rw [List.append_nil, List.set_eq_take_append_cons_drop, if_pos hj]
  simp only [f_put_at, evs1, evs2, evs3, evs4, evs5, evs6, evs7, evs8, evs9, evsF, evsH, if_true, if_false, Bool.false_eq_true, List.nil_append, Bool.not_true, Bool.not_false, sl_tuple, e1, e2, e3, List.length_set]
  rw [if_pos (by rw [most_eq]; omega)]
  simp only [evs1, evs2, evs3, evs4, evs5, evs6, evs7, evs8, evs9, evsF, evsH, if_true, if_false, Bool.false_eq_true, List.nil_append, Bool.not_true, Bool.not_false]
def keptD (b : Bd) : D := .tuple [hsD b.hs, versD b.vs, boxD b.ps, .tuple b.mv, .bool b.fr]
def noteB (b : Bd) : Bd := setPa b (b.pa ++ [keptD b])
theorem s_note (e : Bat h k b) (hl : b.pa.length < 1000000) : callN tab scr (n + 1) "Board" (some "note") [.ref k] h = some (.d .none, h.set k (insB (noteB b))) := by
  rw [callN_eq fd_Board_note rfl]
  show kEnd _ _ (evSs _ f_Board_note.body [some _, none] h) = _
  simp only [f_Board_note, evs1, evs2, evs3, evs4, evs5, evs6, evs7, evs8, evs9, evsF, evsH, if_true, if_false, Bool.false_eq_true, List.nil_append, Bool.not_true, Bool.not_false, fl_house e, fl_vers e, fl_pics e, fl_moves e, fl_free e, fl_past e, List.length_cons, List.length_nil, show 0 + 1 + 1 + 1 + 1 + 1 ≤ most from by rw [most_eq]; omega, List.length_append, List.append_nil]
  rw [if_pos (by rw [most_eq]; omega)]
  simp only [evs1, evs2, evs3, evs4, evs5, evs6, evs7, evs8, evs9, evsF, evsH, if_true, if_false, Bool.false_eq_true, List.nil_append, Bool.not_true, Bool.not_false, e, evsB]
  rfl
theorem s_bcheck_place (e : Bat h k b) (hj : j < b.hs.length) : callN tab scr (n + 2) "Board" (some "check_place") [.ref k, .d (.int j)] h = some (.d .none, h) := by
  rw [callN_eq fd_Board_check_place rfl]
  show kEnd _ _ (evSs _ f_Board_check_place.body [some _, some _] h) = _
  have h0 : (0 : Int) ≤ j := by omega
  have h1 : (j : Int) < b.hs.length := by omega
  simp only [f_Board_check_place, evs1, evs2, evs3, evs4, evs5, evs6, evs7, evs8, evs9, evsF, evsH, if_true, if_false, Bool.false_eq_true, List.nil_append, Bool.not_true, Bool.not_false, s_is_number, fl_house e, hsD, List.length_map, decide_eq_true h0, decide_eq_true h1]
theorem s_bcheck_spot (e : Bat h k b) (hf : b.hs[j]? = some f) {s : Nat} (hsp : s < f.ey.length) : callN tab scr (n + 3) "Board" (some "check_spot") [.ref k, .d (.int j), .d (.int s)] h = some (.d .none, h) := by
  rw [callN_eq fd_Board_check_spot rfl]
  show kEnd _ _ (evSs _ f_Board_check_spot.body [some _, some _, some _] h) = _
  have h0 : (0 : Int) ≤ s := by omega
  have h1 : (s : Int) < f.ey.length := by omega
  have hj := (List.getElem?_eq_some_iff.mp hf).1
  have e4 : atI ((b.hs).map fdD) (j : Int) = some (fdD f) := by rw [at_map, hf]; rfl
  simp only [f_Board_check_spot, evs1, evs2, evs3, evs4, evs5, evs6, evs7, evs8, evs9, evsF, evsH, if_true, if_false, Bool.false_eq_true, List.nil_append, Bool.not_true, Bool.not_false, e, s_bcheck_place e hj, s_is_number, fl_house e, hsD, e4, fdD, rowD, List.length_map, decide_eq_true h0, decide_eq_true h1]
def keys (r : Ver) : List Nat := r.map (·.1)
theorem s_bcheck_version (e : Bat h k b) {r : Ver} (hr : b.vs[j]? = some r) {x : Nat} (hx : x ∈ keys r) (hl : r.length < 1000000) : callN tab scr (n + 2) "Board" (some "check_version") [.ref k, .d (.int j), .d (.int x)] h = some (.d .none, h) := by
  rw [callN_eq fd_Board_check_version rfl]
  show kEnd _ _ (evSs _ f_Board_check_version.body [some _, some _, some _, none] h) = _
  have e4 : atI ((b.vs).map verD) (j : Int) = some (verD r) := by rw [at_map, hr]; rfl
  simp only [f_Board_check_version, evs1, evs2, evs3, evs4, evs5, evs6, evs7, evs8, evs9, evsF, evsH, if_true, if_false, Bool.false_eq_true, List.nil_append, Bool.not_true, Bool.not_false, e, s_is_number, fl_vers e, versD, e4, verD]
  rw [compL_map (g := fun p => .int (p.1 : Int))]
  · simp only [evs1, evs2, evs3, evs4, evs5, evs6, evs7, evs8, evs9, evsF, evsH, if_true, if_false, Bool.false_eq_true, List.nil_append, Bool.not_true, Bool.not_false, List.length_map]
    rw [if_most (by omega)]
    have e5 : (r.map fun p => PyData.int (p.1 : Int)) = (keys r).map fun (n : Nat) => PyData.int (n : Int) := by unfold keys; rw [List.map_map]; rfl
    simp only [evs1, evs2, evs3, evs4, evs5, evs6, evs7, evs8, evs9, evsF, evsH, if_true, if_false, Bool.false_eq_true, List.nil_append, Bool.not_true, Bool.not_false, e5, dok_ints, Hs.any_ints, decide_eq_true hx]
  · intro p hp acc
    simp only [evs1, evs2, evs3, evs4, evs5, evs6, evs7, evs8, evs9, evsF, evsH, if_true, if_false, Bool.false_eq_true, List.nil_append, Bool.not_true, Bool.not_false, pairD]
theorem s_worth (e : Bat h k b) {r : Ver} (hr : b.vs[j]? = some r) {x v : Nat} (hx : worthN x r = some v) (hl : r.length < 1000000) : callN tab scr (n + 1) "Board" (some "worth") [.ref k, .d (.int j), .d (.int x)] h = some (.d (.int v), h) := by
  rw [callN_eq fd_Board_worth rfl]
  show kEnd _ _ (evSs _ f_Board_worth.body [some _, some _, some _] h) = _
  have e4 : atI ((b.vs).map verD) (j : Int) = some (verD r) := by rw [at_map, hr]; rfl
  have e5 : pre .dget (.d (.tuple (r.map pairD))) h = true := by
    show (Mp.pairsOk (r.map pairD) && decide ((r.map pairD).length ≤ most)) = true
    rw [pairsOk_row, List.length_map, decide_eq_true (by rw [most_eq]; omega)]
    rfl
  have e6 : ∀ c, binOp c .dget (.d (.tuple (r.map pairD))) (.d (.int (x : Int))) h = some (.d (.int (v : Int)), h) := fun c => by
    simp only [binOp, rd, Option.bind_some, seqD, pairAt_row, hx, Option.map_some, List.length_map, if_pos (show r.length ≤ most by rw [most_eq]; omega)]
  simp only [f_Board_worth, evs1, evs2, evs3, evs4, evs5, evs6, evs7, evs8, evs9, evsF, evsH, if_true, if_false, Bool.false_eq_true, List.nil_append, Bool.not_true, Bool.not_false, fl_vers e, versD, e4, verD, e5, e6]
def putB (b : Bd) (j v : Nat) : Bd := setVs b (b.vs.set j ((b.vs.getD j []) ++ [(((b.vs.getD j []).getLast?.getD (0, 0)).1 + 1, v)]))
theorem s_put (e : Bat h k b) {r : Ver} (hr : b.vs[j]? = some r) (hn : r ≠ []) (v : Nat) (hl : r.length < 1000000) (hv : b.vs.length < 1000000) : callN tab scr (n + 2) "Board" (some "put") [.ref k, .d (.int j), .d (.int v)] h = some (.d .none, h.set k (insB (putB b j v))) := by
  rw [callN_eq fd_Board_put rfl]
  show kEnd _ _ (evSs _ f_Board_put.body [some _, some _, some _, none] h) = _
  have hj := (List.getElem?_eq_some_iff.mp hr).1
  obtain ⟨p, hp⟩ : ∃ p, r.getLast? = some p := by
    cases q : r.getLast? with
    | none => rw [List.getLast?_eq_none_iff] at q; exact absurd q hn
    | some p => exact ⟨p, rfl⟩
  have e4 : atI ((b.vs).map verD) (j : Int) = some (verD r) := by rw [at_map, hr]; rfl
  have e5 : atI (r.map pairD) (-1) = some (pairD p) := at_lastM pairD r p hp
  have e6 : r.map pairD ++ [PyData.tuple [PyData.int ((p.1 : Int) + 1), PyData.int (v : Int)]] = (r ++ [(p.1 + 1, v)]).map pairD := by simp [pairD]
  have e7 : (b.vs.map verD).set j (verD (r ++ [(p.1 + 1, v)])) = (b.vs.set j (r ++ [(p.1 + 1, v)])).map verD := by rw [List.map_set]
  have e8 := s_put_at (scr := scr) (n := n) (h := h) (b.vs.map verD) (verD (r ++ [(p.1 + 1, v)])) (by rw [List.length_map]; exact hj) (by rw [List.length_map]; exact hv)
  rw [e7] at e8
  have e9 : putB b j v = setVs b (b.vs.set j (r ++ [(p.1 + 1, v)])) := by
    unfold putB
    rw [List.getD_eq_getElem?_getD, hr, Option.getD_some, hp, Option.getD_some]
  simp only [f_Board_put, evs1, evs2, evs3, evs4, evs5, evs6, evs7, evs8, evs9, evsF, evsH, if_true, if_false, Bool.false_eq_true, List.nil_append, Bool.not_true, Bool.not_false, fl_vers e, versD, e4, verD, e5, pairD, List.length_cons, List.length_nil, show 0 + 1 + 1 ≤ most from by rw [most_eq]; omega]
  rw [e6]
  simp only [List.length_map, List.length_append, List.length_singleton]
  rw [if_pos (by rw [most_eq]; omega)]
  simp only [evs1, evs2, evs3, evs4, evs5, evs6, evs7, evs8, evs9, evsF, evsH, if_true, if_false, Bool.false_eq_true, List.nil_append, Bool.not_true, Bool.not_false]
  rw [show PyData.tuple ((r ++ [(p.1 + 1, v)]).map pairD) = verD (r ++ [(p.1 + 1, v)]) from rfl, e8]
  simp only [evs1, evs2, evs3, evs4, evs5, evs6, evs7, evs8, evs9, evsF, evsH, if_true, if_false, Bool.false_eq_true, List.nil_append, Bool.not_true, Bool.not_false]
  rw [show PyData.tuple ((b.vs.set j (r ++ [(p.1 + 1, v)])).map verD) = versD (b.vs.set j (r ++ [(p.1 + 1, v)])) from rfl]
  simp only [evs1, evs2, evs3, evs4, evs5, evs6, evs7, evs8, evs9, evsF, evsH, if_true, if_false, Bool.false_eq_true, List.nil_append, Bool.not_true, Bool.not_false, e, evsB, e9]
end
end K87
set_option Elab.async false
set_option linter.all false
set_option maxRecDepth 100000
set_option maxHeartbeats 2000000
/-! Sf: a Board's methods: pictures, acts, losses, what it tells. -/
namespace K87
open PySem Mp Hs
theorem zp_gone (h : Hm) (a b c d e : MO) : (((((h ++ [a, b, c, d, e]).set h.length .gone).set (h.length + 1) .gone).set (h.length + 2) .gone).set (h.length + 3) .gone).set (h.length + 4) .gone = h ++ [.gone, .gone, .gone, .gone, .gone] := by
  simp
def vAt (vs : List Ver) (e : Nat) : Ver := vs.getD e []
theorem vAt_at {vs : List Ver} {e : Nat} (h : e < vs.length) : vs[e]? = some (vAt vs e) := by
  unfold vAt
  rw [List.getD_eq_getElem?_getD, List.getElem?_eq_getElem h]
  rfl
theorem vAt_is {vs : List Ver} {e : Nat} {r : Ver} (h : vs[e]? = some r) : vAt vs e = r := by
  unfold vAt
  rw [List.getD_eq_getElem?_getD, h]
  rfl
/-- pictures: each number is that of a version that is there -/
def PicOk (vs : List Ver) : List Nat → List Nat → Prop
  | [], [] => True
  | e :: es, x :: xs => x ∈ keys (vAt vs e) ∧ PicOk vs es xs
  | _, _ => False
theorem PicOk.len {vs : List Ver} : ∀ {es p : List Nat}, PicOk vs es p → p.length = es.length
  | [], [], _ => rfl
  | _ :: _, _ :: _, h => congrArg Nat.succ (PicOk.len h.2)
  | [], _ :: _, h => h.elim
  | _ :: _, [], h => h.elim
theorem PicOk.get {vs : List Ver} : ∀ {es p : List Nat}, PicOk vs es p → ∀ q ∈ es.zip p, q.1 ∈ es ∧ q.2 ∈ keys (vAt vs q.1)
  | [], [], _, q, hq => by cases hq
  | e :: es, x :: xs, h, q, hq => by
    rw [List.zip_cons_cons] at hq
    rcases List.mem_cons.mp hq with z | z
    · rw [z]
      exact ⟨List.mem_cons_self .., h.1⟩
    · have := PicOk.get h.2 q z
      exact ⟨List.mem_cons_of_mem _ this.1, this.2⟩
  | [], _ :: _, h, _, _ => h.elim
  | _ :: _, [], h, _, _ => h.elim
/-- the values of pictures -/
def wRow (vs : List Ver) (es p : List Nat) : List Nat := (es.zip p).map fun q => (worthN q.2 (vAt vs q.1)).getD 0
structure BdOk (b : Bd) : Prop where
  w : WF b.hs
  lv : b.vs.length = b.hs.length
  lp : b.ps.length = b.hs.length
  asc : ∀ r ∈ b.vs, r.Pairwise fun p q => p.1 < q.1
  ne : ∀ r ∈ b.vs, r ≠ []
  val : ∀ (j : Nat) (r : Ver), b.vs[j]? = some r → ∀ p ∈ r, p.2 < sz b.hs j
  pic : ∀ (j : Nat) (f : Fd) (p : List Nat), b.hs[j]? = some f → b.ps[j]? = some p → PicOk b.vs f.ey p
/-- how much there is -/
structure Few (b : Bd) (M : Nat) : Prop where
  rw_ : ∀ r ∈ b.vs, r.length ≤ M
  pa : b.pa.length ≤ M
  mv : b.mv.length ≤ M
section
variable {scr : List Int} {n : Nat} {h : Hm} {f : Fd} {j k M : Nat} {b : Bd}
theorem worthD {r : Ver} {x : Nat} (hx : x ∈ keys r) : ∃ v, worthN x r = some v ∧ (x, v) ∈ r := by
  obtain ⟨v, hv⟩ := worth_some hx
  exact ⟨v, hv, worth_mem hv⟩
theorem wRow_in (vs : List Ver) (S : Nat → List Nat) (hS : ∀ e, ∀ p ∈ vAt vs e, p.2 ∈ S e) : ∀ {es p : List Nat}, PicOk vs es p → RowIn (es.map S) (wRow vs es p)
  | [], [], _ => trivial
  | e :: es, x :: xs, h => by
    obtain ⟨v, h1, h2⟩ := worthD h.1
    show RowIn (S e :: es.map S) ((worthN x (vAt vs e)).getD 0 :: wRow vs es xs)
    rw [h1]
    exact ⟨hS e _ h2, wRow_in vs S hS h.2⟩
  | [], _ :: _, h => h.elim
  | _ :: _, [], h => h.elim
theorem wRow_ok (o : BdOk b) : ∀ {es p : List Nat}, (∀ e ∈ es, e < b.hs.length) → PicOk b.vs es p → RowOk b.hs es (wRow b.vs es p)
  | [], [], _, _ => trivial
  | e :: es, x :: xs, he, h => by
    obtain ⟨v, h1, h2⟩ := worthD h.1
    show RowOk b.hs (e :: es) ((worthN x (vAt b.vs e)).getD 0 :: wRow b.vs es xs)
    rw [h1]
    exact ⟨o.val e _ (vAt_at (by rw [o.lv]; exact he e (List.mem_cons_self ..))) _ h2, wRow_ok o (fun e' h' => he e' (List.mem_cons_of_mem _ h')) h.2⟩
  | [], _ :: _, _, h => h.elim
  | _ :: _, [], _, h => h.elim
/-! ### show -/
def showB (b : Bd) (j s x : Nat) : Bd := setPs (noteB b) (b.ps.set j ((b.ps.getD j []).set s x))
theorem s_show (o : BdOk b) (m : Few b M) (hM : M < 100000) (e : Bat h k b) (hf : b.hs[j]? = some f) {s e' x : Nat} (hs : f.ey[s]? = some e') (hx : x ∈ keys (vAt b.vs e')) :
    callN tab scr (n + 4) "Board" (some "show") [.ref k, .d (.int j), .d (.int s), .d (.int x)] h = some (.d .none, h.set k (insB (showB b j s x))) := by
  rw [callN_eq fd_Board_show rfl]
  show kEnd _ _ (evSs _ f_Board_show.body [some _, some _, some _, some _] h) = _
  have hm := List.mem_of_getElem? hf
  have hey := o.w.ey f hm
  have hj := (List.getElem?_eq_some_iff.mp hf).1
  have hs1 := (List.getElem?_eq_some_iff.mp hs).1
  have he' := hey.2 e' (List.mem_of_getElem? hs)
  have hv := vAt_at (vs := b.vs) (e := e') (by rw [o.lv]; exact he')
  have hp : b.ps[j]? = some (b.ps.getD j []) := by rw [List.getD_eq_getElem?_getD, List.getElem?_eq_getElem (by rw [o.lp]; exact hj)]; rfl
  have hpl := (o.pic j f _ hf hp).len
  have e1 := set_at e (insB (noteB b))
  have e6 := s_put_at (scr := scr) (n := n + 2) (h := h.set k (insB (noteB b))) (j := s) ((b.ps.getD j []).map natD) (.int (x : Int)) (by rw [List.length_map, hpl]; exact hs1) (by rw [List.length_map, hpl]; omega)
  have e7 := s_put_at (scr := scr) (n := n + 2) (h := h.set k (insB (noteB b))) (j := j) (b.ps.map rowD) (rowD ((b.ps.getD j []).set s x)) (by rw [List.length_map, o.lp]; exact hj) (by rw [List.length_map, o.lp]; have := o.w.ln; omega)
  have e8 : (((b.ps.getD j []).map natD).set s (.int (x : Int))) = ((b.ps.getD j []).set s x).map natD := by rw [List.map_set]
  have e9 : (b.ps.map rowD).set j (rowD ((b.ps.getD j []).set s x)) = (b.ps.set j ((b.ps.getD j []).set s x)).map rowD := by rw [List.map_set]
  have e10 : (noteB b).ps = b.ps := rfl
  rw [e8] at e6
  rw [e9] at e7
  change callN tab scr (n + 3) "put_at" none [.d (rowD (b.ps.getD j [])), .d (.int (s : Int)), .d (.int (x : Int))] _ = some (.d (rowD ((b.ps.getD j []).set s x)), _) at e6
  change callN tab scr (n + 3) "put_at" none [.d (boxD b.ps), .d (.int (j : Int)), .d (rowD ((b.ps.getD j []).set s x))] _ = some (.d (boxD (b.ps.set j ((b.ps.getD j []).set s x))), _) at e7
  simp only [f_Board_show, evs1, evs2, evs3, evs4, evs5, evs6, evs7, evs8, evs9, evsF, evsH, if_true, if_false, Bool.false_eq_true, List.nil_append, Bool.not_true, Bool.not_false, evsD, e, s_bcheck_spot e hf hs1, fl_house e, hf, hs, s_bcheck_version e hv hx (by have := m.rw_ _ (List.mem_of_getElem? hv); omega), s_note e (by have := m.pa; omega), e1, fl_pics e1, e10, hp, e6, e7, evsB, evsS]
  rfl
theorem s_would (o : BdOk b) (m : Few b M) (hM : M < 100000) (e : Bat h k b) (hf : b.hs[j]? = some f) {p : List Nat} (hp : b.ps[j]? = some p) :
    callN tab scr (n + 6) "Board" (some "would") [.ref k, .d (.int j)] h = some (.d (.int (tAt b.hs f (wRow b.vs f.ey p) : Nat)), h) := by
  rw [callN_eq fd_Board_would rfl]
  show kEnd _ _ (evSs _ f_Board_would.body [some _, some _, none, none, none] h) = _
  have hm := List.mem_of_getElem? hf
  have hey := o.w.ey f hm
  have hj := (List.getElem?_eq_some_iff.mp hf).1
  have pk := o.pic j f p hf hp
  have hpl := pk.len
  have hz : zipD (f.ey.map natD) (p.map natD) = (f.ey.zip p).map fun q => PyData.tuple [natD q.1, natD q.2] := zip_maps _ _ _ _
  have e0 := app_at0 h (.zp (f.ey.map natD) (p.map natD)) [.aux, .aux, .aux, .aux]
  have e1 : Bat (h ++ [.gone, .gone, .gone, .gone, .gone]) k b := app_old e _
  have e2 := s_tells (scr := scr) (n := n) (h := h ++ [.gone, .gone, .gone, .gone, .gone]) o.w hf (wRow_ok o hey.2 pk)
  simp only [f_Board_would, evs1, evs2, evs3, evs4, evs5, evs6, evs7, evs8, evs9, evsF, evsH, if_true, if_false, Bool.false_eq_true, List.nil_append, Bool.not_true, Bool.not_false, evsD, e, s_bcheck_place e hj, fl_house e, fl_pics e, hf, hp, e0, Nat.le_refl, hz, evsA, fl_house (app_old e [.zp (f.ey.map natD) (p.map natD), .aux, .aux, .aux, .aux])]
  rw [compL_map (g := fun q => natD ((worthN q.2 (vAt b.vs q.1)).getD 0))]
  · simp only [evs1, evs2, evs3, evs4, evs5, evs6, evs7, evs8, evs9, evsF, evsH, if_true, if_false, Bool.false_eq_true, List.nil_append, Bool.not_true, Bool.not_false, List.length_map]
    rw [if_most (by rw [List.length_zip]; omega)]
    have e3 : PyData.tuple ((f.ey.zip p).map fun q => natD ((worthN q.2 (vAt b.vs q.1)).getD 0)) = rowD (wRow b.vs f.ey p) := by
      unfold rowD wRow
      rw [List.map_map]
      rfl
    simp only [evs1, evs2, evs3, evs4, evs5, evs6, evs7, evs8, evs9, evsF, evsH, if_true, if_false, Bool.false_eq_true, List.nil_append, Bool.not_true, Bool.not_false, e3, fl_house e1, e2]
  · intro q hq acc
    obtain ⟨q1, q2⟩ := pk.get q hq
    obtain ⟨v, v1, v2⟩ := worthD q2
    have hv := vAt_at (vs := b.vs) (e := q.1) (by rw [o.lv]; exact hey.2 _ q1)
    have := s_worth (scr := scr) (n := n + 4) e1 hv v1 (by have := m.rw_ _ (List.mem_of_getElem? hv); omega)
    simp only [evs1, evs2, evs3, evs4, evs5, evs6, evs7, evs8, evs9, evsF, evsH, if_true, if_false, Bool.false_eq_true, List.nil_append, Bool.not_true, Bool.not_false, e1, this, v1, Option.getD_some]
def valB (b : Bd) (j : Nat) : Nat := match b.hs[j]? with
  | some f => tAt b.hs f (wRow b.vs f.ey (b.ps.getD j []))
  | none => 0
def actB (b : Bd) (j : Nat) : Bd := setMv (putB (noteB b) j (valB b j)) (b.mv ++ [.tuple [natD j, rowD (b.ps.getD j [])]])
theorem s_act (o : BdOk b) (m : Few b M) (hM : M < 100000) (e : Bat h k b) (hj : j < b.hs.length) :
    callN tab scr (n + 7) "Board" (some "act") [.ref k, .d (.int j)] h = some (.d (.int (valB b j : Nat)), h.set k (insB (actB b j))) := by
  rw [callN_eq fd_Board_act rfl]
  show kEnd _ _ (evSs _ f_Board_act.body [some _, some _, none] h) = _
  have hf := List.getElem?_eq_getElem hj
  have hp : b.ps[j]? = some (b.ps.getD j []) := by rw [List.getD_eq_getElem?_getD, List.getElem?_eq_getElem (by rw [o.lp]; exact hj)]; rfl
  have hv := vAt_at (vs := b.vs) (e := j) (by rw [o.lv]; exact hj)
  have hn := o.ne _ (List.mem_of_getElem? hv)
  have e1 := set_at e (insB (noteB b))
  have e3 : valB b j = tAt b.hs b.hs[j] (wRow b.vs b.hs[j].ey (b.ps.getD j [])) := by unfold valB; rw [hf]
  have e4 := s_would (scr := scr) (n := n) o m hM e hf hp
  rw [← e3] at e4
  have e5 := s_put (scr := scr) (n := n + 4) e1 (j := j) (r := vAt b.vs j) hv hn (valB b j) (by have := m.rw_ _ (List.mem_of_getElem? hv); omega) (by show b.vs.length < 1000000; rw [o.lv]; have := o.w.ln; omega)
  have e6 : Bat ((h.set k (insB (noteB b))).set k (insB (putB (noteB b) j (valB b j)))) k (putB (noteB b) j (valB b j)) := set_at e1 _
  rw [List.set_set] at e6 e5
  have e7 : (putB (noteB b) j (valB b j)).mv = b.mv := rfl
  have e8 : (putB (noteB b) j (valB b j)).ps = b.ps := rfl
  have hmv := m.mv
  simp only [f_Board_act, evs1, evs2, evs3, evs4, evs5, evs6, evs7, evs8, evs9, evsF, evsH, if_true, if_false, Bool.false_eq_true, List.nil_append, Bool.not_true, Bool.not_false, evsD, e, e4, s_note e (by have := m.pa; omega), e1, e5, e6, fl_moves e6, fl_pics e6, e7, e8, hp, List.length_cons, List.length_nil, show 0 + 1 + 1 ≤ most from by rw [most_eq]; omega, List.length_append]
  rw [if_pos (by rw [most_eq]; omega)]
  simp only [evs1, evs2, evs3, evs4, evs5, evs6, evs7, evs8, evs9, evsF, evsH, if_true, if_false, Bool.false_eq_true, List.nil_append, Bool.not_true, Bool.not_false, e6, evsB, evsS]
  rfl
/-! ### lose -/
def freshR (es p : List Nat) (j x : Nat) : List Nat := (es.zip p).map fun q => if q.1 = j then max q.2 x else q.2
def losePs (hs : House) (ps : List (List Nat)) (j x : Nat) : List (List Nat) := (hs.zip ps).map fun q => freshR q.1.ey q.2 j x
def loseV (b : Bd) (j x : Nat) : Bd := setVs (noteB b) (b.vs.set j ((vAt b.vs j).filter fun p => decide (x ≤ p.1)))
def loseB (b : Bd) (j x : Nat) : Bd := setPs (loseV b j x) (losePs b.hs b.ps j x)
theorem losePs_at {hs : House} {ps : List (List Nat)} {x i : Nat} (hl : ps.length = hs.length) (hf : hs[i]? = some f) : (losePs hs ps j x)[i]? = some (freshR f.ey (ps.getD i []) j x) := by
  have hi := (List.getElem?_eq_some_iff.mp hf).1
  have hp : ps[i]? = some (ps.getD i []) := by rw [List.getD_eq_getElem?_getD, List.getElem?_eq_getElem (by omega)]; rfl
  unfold losePs
  rw [List.getElem?_map, show (hs.zip ps)[i]? = some (f, ps.getD i []) from List.getElem?_zip_eq_some.mpr ⟨hf, hp⟩]
  rfl
theorem losePs_len {hs : House} {ps : List (List Nat)} {x : Nat} (hl : ps.length = hs.length) : (losePs hs ps j x).length = hs.length := by
  unfold losePs
  rw [List.length_map, List.length_zip, hl, Nat.min_self]
abbrev loseBody : MSs := (.cons (.asg (.pt (.nm 6)) (.zip (.bin .ix (.var 5) (.gl "WATCHED_board" (.int 1))) (.bin .ix (.un (.fld "own_pictures") (.var 0)) (.var 4)))) (.cons (.asg (.pt (.nm 7)) (.un .tuple (.lc false (.ite (.bin .eq (.var 9) (.var 1)) (.bin .max (.var 8) (.var 2)) (.var 8)) (.tup (.cons (.nm 9) (.cons (.nm 8) .nil))) (.var 6) (.con (.bool true)) [9, 8]))) (.cons (.asg (.fld 0 "Board" "own_pictures") (.call "put_at" (.cons (.un (.fld "own_pictures") (.var 0)) (.cons (.var 4) (.cons (.var 7) .nil))))) .nil)))
theorem lose_turn (o : BdOk b) {c : Bd} (hc : c.ps.length = b.ps.length) (x i : Nat) (hf : b.hs[i]? = some f) {p : List Nat} (hp : c.ps[i]? = some p) (hpl : p.length = f.ey.length) {h0 h1 : Hm} (e : Bat h1 k c) (hb : h0.length ≤ h1.length) (kept y4 y5 y6 y7 : Option EV) :
    ∃ z4 z5 z6 z7, fturn ⟨callN tab scr (n + 1), scr, h0.length⟩ (.tup (.cons (.nm 4) (.cons (.nm 5) .nil))) loseBody (.tuple [.int (i : Int), fdD f]) [some (.ref k), some (.d (.int (j : Int))), some (.d (.int (x : Int))), kept, y4, y5, y6, y7, none, none] h1 =
      some (.next, [some (.ref k), some (.d (.int (j : Int))), some (.d (.int (x : Int))), kept, z4, z5, z6, z7, none, none], (h1.set k (insB (setPs c (c.ps.set i (freshR f.ey p j x))))) ++ [.gone, .gone, .gone, .gone, .gone]) := by
  have hm := List.mem_of_getElem? hf
  have hey := o.w.ey f hm
  have hi := (List.getElem?_eq_some_iff.mp hp).1
  have hz : zipD (f.ey.map natD) (p.map natD) = (f.ey.zip p).map fun q => PyData.tuple [natD q.1, natD q.2] := zip_maps _ _ _ _
  have e0 := app_at0 h1 (.zp (f.ey.map natD) (p.map natD)) [.aux, .aux, .aux, .aux]
  have e1 : Bat (h1 ++ [.gone, .gone, .gone, .gone, .gone]) k c := app_old e _
  refine ⟨some (.d (.int i)), some (.d (fdD f)), some (.ref h1.length), some (.d (rowD (freshR f.ey p j x))), ?_⟩
  have e6 := s_put_at (scr := scr) (n := n) (h := h1 ++ [.gone, .gone, .gone, .gone, .gone]) (j := i) (c.ps.map rowD) (rowD (freshR f.ey p j x)) (by rw [List.length_map]; exact hi) (by rw [List.length_map, hc, o.lp]; have := o.w.ln; omega)
  have e7 : (c.ps.map rowD).set i (rowD (freshR f.ey p j x)) = (c.ps.set i (freshR f.ey p j x)).map rowD := by rw [List.map_set]
  rw [e7] at e6
  change callN tab scr (n + 1) "put_at" none [.d (boxD c.ps), .d (.int (i : Int)), .d (rowD (freshR f.ey p j x))] _ = some (.d (boxD (c.ps.set i (freshR f.ey p j x))), _) at e6
  simp only [evs1, evs2, evs3, evs4, evs5, evs6, evs7, evs8, evs9, evsF, evsH, if_true, if_false, Bool.false_eq_true, List.nil_append, Bool.not_true, Bool.not_false, evsD, e, fl_pics e, hp, e0, hb, hz, evsA, fl_pics e1]
  rw [compL_map (g := fun q => natD (if q.1 = j then max q.2 x else q.2))]
  · simp only [evs1, evs2, evs3, evs4, evs5, evs6, evs7, evs8, evs9, evsF, evsH, if_true, if_false, Bool.false_eq_true, List.nil_append, Bool.not_true, Bool.not_false, List.length_map]
    rw [if_most (by rw [List.length_zip]; omega)]
    have e3 : PyData.tuple ((f.ey.zip p).map fun q => natD (if q.1 = j then max q.2 x else q.2)) = rowD (freshR f.ey p j x) := by
      unfold rowD freshR
      rw [List.map_map]
      rfl
    simp only [evs1, evs2, evs3, evs4, evs5, evs6, evs7, evs8, evs9, evsF, evsH, if_true, if_false, Bool.false_eq_true, List.nil_append, Bool.not_true, Bool.not_false, e3, fl_pics e1, e6, e1, evsB]
    rw [set_old e]
  · intro q hq acc
    have e8 : ((q.1 : Int) == (j : Int)) = decide (q.1 = j) := by
      by_cases z : q.1 = j
      · rw [z]; simp
      · rw [decide_eq_false z]
        exact beq_false_of_ne (by omega)
    by_cases z : q.1 = j
    · simp only [evs1, evs2, evs3, evs4, evs5, evs6, evs7, evs8, evs9, evsF, evsH, if_true, if_false, Bool.false_eq_true, List.nil_append, Bool.not_true, Bool.not_false, PyData.depth, PyData.eqv, Nat.zero_le, e8, decide_eq_true z, if_pos z]
      congr 4
      by_cases y : (q.2 : Int) < (x : Int)
      · rw [if_pos (show (x : Int) > (q.2 : Int) from y), Nat.max_eq_right (by omega)]
      · rw [if_neg (show ¬ (x : Int) > (q.2 : Int) from y), Nat.max_eq_left (by omega)]
    · simp only [evs1, evs2, evs3, evs4, evs5, evs6, evs7, evs8, evs9, evsF, evsH, if_true, if_false, Bool.false_eq_true, List.nil_append, Bool.not_true, Bool.not_false, PyData.depth, PyData.eqv, Nat.zero_le, e8, decide_eq_false z, if_neg z]
theorem s_lose (o : BdOk b) (m : Few b M) (hM : M < 100000) (e : Bat h k b) (hj : j < b.hs.length) {x : Nat} (hx : x ∈ keys (vAt b.vs j)) :
    callN tab scr (n + 3) "Board" (some "lose") [.ref k, .d (.int j), .d (.int x)] h = some (.d .none, h.set k (insB (loseB b j x))) := by
  rw [callN_eq fd_Board_lose rfl]
  show kEnd _ _ (evSs _ f_Board_lose.body [some _, some _, some _, none, none, none, none, none, none, none] h) = _
  have hf := List.getElem?_eq_getElem hj
  have hv := vAt_at (vs := b.vs) (e := j) (by rw [o.lv]; exact hj)
  have hvl := m.rw_ _ (List.mem_of_getElem? hv)
  have e1 := set_at e (insB (noteB b))
  have e2 : Bat (h.set k (insB (loseV b j x))) k (loseV b j x) := set_at e _
  have n1 : (noteB b).vs = b.vs := rfl
  have l1 : (loseV b j x).hs = b.hs := rfl
  have hk := (List.getElem?_eq_some_iff.mp e).1
  have e6 := s_put_at (scr := scr) (n := n + 1) (h := h.set k (insB (noteB b))) (j := j) (b.vs.map verD) (verD ((vAt b.vs j).filter fun p => decide (x ≤ p.1))) (by rw [List.length_map, o.lv]; exact hj) (by rw [List.length_map, o.lv]; have := o.w.ln; omega)
  have e7 : (b.vs.map verD).set j (verD ((vAt b.vs j).filter fun p => decide (x ≤ p.1))) = (b.vs.set j ((vAt b.vs j).filter fun p => decide (x ≤ p.1))).map verD := by rw [List.map_set]
  rw [e7] at e6
  change callN tab scr (n + 2) "put_at" none [.d (versD b.vs), .d (.int (j : Int)), .d (verD ((vAt b.vs j).filter fun p => decide (x ≤ p.1)))] _ = some (.d (versD (b.vs.set j ((vAt b.vs j).filter fun p => decide (x ≤ p.1)))), _) at e6
  simp only [f_Board_lose, evs1, evs2, evs3, evs4, evs5, evs6, evs7, evs8, evs9, evsF, evsH, if_true, if_false, Bool.false_eq_true, List.nil_append, Bool.not_true, Bool.not_false, evsD, e, s_bcheck_place e hj, s_bcheck_version e hv hx (by omega), s_note e (by have := m.pa; omega), fl_vers e1, n1, hv]
  have e3 := compL_filter (step := turn ⟨callN tab scr (n + 2), scr, h.length⟩ (.var 8) (.nm 8) (.bin .ge (.bin .ix (.var 8) (.con (.int 0))) (.var 2)) [8] [some (.ref k), some (.d (.int (j : Int))), some (.d (.int (x : Int))), none, none, none, none, none, none, none]) (i := pairD) (p := fun p => decide (x ≤ p.1)) (g := pairD) (h := h.set k (insB (noteB b))) (vAt b.vs j) [] (fun p hp acc => by
    have : decide ((x : Int) ≤ (p.1 : Int)) = decide (x ≤ p.1) := decide_eq_decide.mpr (by omega)
    simp only [evs1, evs2, evs3, evs4, evs5, evs6, evs7, evs8, evs9, evsF, evsH, if_true, if_false, Bool.false_eq_true, List.nil_append, Bool.not_true, Bool.not_false, evsD, this]
    cases decide (x ≤ p.1) <;> simp only [evs1, evs2, evs3, evs4, evs5, evs6, evs7, evs8, evs9, evsF, evsH, if_true, if_false, Bool.false_eq_true, List.nil_append, Bool.not_true, Bool.not_false])
  rw [e3]
  have hfl : ((vAt b.vs j).filter fun p => decide (x ≤ p.1)).length ≤ (vAt b.vs j).length := List.length_filter_le _ _
  simp only [evs1, evs2, evs3, evs4, evs5, evs6, evs7, evs8, evs9, evsF, evsH, if_true, if_false, Bool.false_eq_true, List.nil_append, Bool.not_true, Bool.not_false, List.length_map]
  rw [if_most (by omega)]
  simp only [evs1, evs2, evs3, evs4, evs5, evs6, evs7, evs8, evs9, evsF, evsH, if_true, if_false, Bool.false_eq_true, List.nil_append, Bool.not_true, Bool.not_false, show PyData.tuple (((vAt b.vs j).filter fun p => decide (x ≤ p.1)).map pairD) = verD ((vAt b.vs j).filter fun p => decide (x ≤ p.1)) from rfl, e6, e1, fl_vers e1, n1, evsB, evsS]
  rw [show setVs (noteB b) (b.vs.set j ((vAt b.vs j).filter fun p => decide (x ≤ p.1))) = loseV b j x from rfl]
  simp only [fl_house e2, l1, evs1, evs2, evs3, evs4, evs5, evs6, evs7, evs8, evs9, evsF, evsH, if_true, if_false, Bool.false_eq_true, List.nil_append, Bool.not_true, Bool.not_false, evsD]
  rw [enum_map]
  have hl := losePs_len (hs := b.hs) (ps := b.ps) (j := j) (x := x) o.lp
  have lp : (loseV b j x).ps = b.ps := rfl
  obtain ⟨⟨out, env', h'⟩, q1, q2, ⟨z4, z5, z6, z7, junk, q3, q4⟩⟩ := forL_inv (step := fturn ⟨callN tab scr (n + 2), scr, h.length⟩ (.tup (.cons (.nm 4) (.cons (.nm 5) .nil))) loseBody)
    (I := fun i env h1 => ∃ y4 y5 y6 y7 junk, env = [some (.ref k), some (.d (.int (j : Int))), some (.d (.int (x : Int))), some (.d (verD ((vAt b.vs j).filter fun p => decide (x ≤ p.1)))), y4, y5, y6, y7, none, none] ∧
      h1 = (h.set k (insB (setPs (loseV b j x) ((losePs b.hs b.ps j x).take i ++ b.ps.drop i)))) ++ junk)
    (b.hs.zipIdx.map fun p => PyData.tuple [.int (p.2 : Int), fdD p.1]) 0 [some (.ref k), some (.d (.int (j : Int))), some (.d (.int (x : Int))), some (.d (verD ((vAt b.vs j).filter fun p => decide (x ≤ p.1)))), none, none, none, none, none, none] (h.set k (insB (loseV b j x)))
    ⟨none, none, none, none, [], rfl, by simp; rfl⟩ (fun i y hy env h1 ⟨y4, y5, y6, y7, junk, a1, a2⟩ => by
      rw [Nat.zero_add] at a2 ⊢
      rw [List.getElem?_map, List.getElem?_zipIdx] at hy
      have hi : i < b.hs.length := by
        by_cases hi : i < b.hs.length
        · exact hi
        · rw [List.getElem?_eq_none (by omega)] at hy
          cases hy
      have hfi := List.getElem?_eq_getElem hi
      rw [hfi] at hy
      simp only [Option.map_some, Nat.zero_add, Option.some.injEq] at hy
      subst hy a1 a2
      have hpi : b.ps[i]? = some (b.ps.getD i []) := by rw [List.getD_eq_getElem?_getD, List.getElem?_eq_getElem (by rw [o.lp]; exact hi)]; rfl
      have hlt : ((losePs b.hs b.ps j x).take i).length = i := by rw [List.length_take, hl]; omega
      have hcp : ((losePs b.hs b.ps j x).take i ++ b.ps.drop i)[i]? = some (b.ps.getD i []) := by
        rw [List.getElem?_append_right (by omega), hlt, Nat.sub_self, List.getElem?_drop, Nat.add_zero]
        exact hpi
      have ec : Bat ((h.set k (insB (setPs (loseV b j x) ((losePs b.hs b.ps j x).take i ++ b.ps.drop i)))) ++ junk) k (setPs (loseV b j x) ((losePs b.hs b.ps j x).take i ++ b.ps.drop i)) := app_old (set_at e _) _
      obtain ⟨w4, w5, w6, w7, q⟩ := lose_turn (scr := scr) (n := n + 1) (j := j) (h0 := h) o (c := setPs (loseV b j x) ((losePs b.hs b.ps j x).take i ++ b.ps.drop i)) (by
        show ((losePs b.hs b.ps j x).take i ++ b.ps.drop i).length = b.ps.length
        rw [List.length_append, hlt, List.length_drop, o.lp]; omega) x i hfi hcp ((o.pic i _ _ hfi hpi).len) ec (by simp) (some (.d (verD ((vAt b.vs j).filter fun p => decide (x ≤ p.1))))) y4 y5 y6 y7
      have hat := losePs_at (j := j) (x := x) o.lp hfi
      have hset : ((losePs b.hs b.ps j x).take i ++ b.ps.drop i).set i (freshR b.hs[i].ey (b.ps.getD i []) j x) = (losePs b.hs b.ps j x).take (i + 1) ++ b.ps.drop (i + 1) := by
        refine List.ext_getElem? fun a => ?_
        have hlt2 : ((losePs b.hs b.ps j x).take (i + 1)).length = i + 1 := by rw [List.length_take, hl]; omega
        rw [List.getElem?_set]
        by_cases c1 : i = a
        · subst c1
          rw [if_pos rfl, if_pos (by rw [List.length_append, hlt, List.length_drop, o.lp]; omega), List.getElem?_append_left (by omega), List.getElem?_take_of_lt (by omega), hat]
        · rw [if_neg c1]
          by_cases c2 : a < i
          · rw [List.getElem?_append_left (by omega), List.getElem?_append_left (by omega), List.getElem?_take_of_lt c2, List.getElem?_take_of_lt (by omega)]
          · rw [List.getElem?_append_right (by omega), List.getElem?_append_right (by omega), hlt, hlt2, List.getElem?_drop, List.getElem?_drop]
            congr 1
            omega
      refine ⟨_, q, rfl, w4, w5, w6, w7, junk ++ [.gone, .gone, .gone, .gone, .gone], rfl, ?_⟩
      rw [set_old (set_at e _), List.set_set, List.append_assoc]
      show List.set h k (insB (setPs (loseV b j x) (((losePs b.hs b.ps j x).take i ++ b.ps.drop i).set i (freshR b.hs[i].ey (b.ps.getD i []) j x)))) ++ _ = _
      rw [hset])
  simp only at q2 q3 q4
  subst q2 q3 q4
  rw [q1]
  simp only [evs1, evs2, evs3, evs4, evs5, evs6, evs7, evs8, evs9, evsF, evsH, if_true, if_false, Bool.false_eq_true, List.nil_append, Bool.not_true, Bool.not_false, take_appS]
  congr 4
  unfold loseB
  congr 1
  rw [Nat.zero_add, List.length_map, List.length_zipIdx, ← hl, List.take_length, hl, ← o.lp, List.drop_length, List.append_nil]
/-! ### what a Board tells -/
def lastV (r : Ver) : Nat := (r.getLast?.getD (0, 0)).2
def lastN (r : Ver) : Nat := (r.getLast?.getD (0, 0)).1
theorem last_at {r : Ver} (hn : r ≠ []) : atI (r.map pairD) (-1) = some (pairD (lastN r, lastV r)) := by
  cases q : r.getLast? with
  | none => rw [List.getLast?_eq_none_iff] at q; exact absurd q hn
  | some p =>
    unfold lastN lastV
    rw [q]
    exact at_lastM pairD r p q
def stateB (b : Bd) : List Nat := b.vs.map lastV
def boxB (b : Bd) : Box := b.vs.map fun r => sortN (r.map (·.2))
theorem s_state (o : BdOk b) (e : Bat h k b) : callN tab scr (n + 1) "Board" (some "state") [.ref k] h = some (.d (rowD (stateB b)), h) := by
  rw [callN_eq fd_Board_state rfl]
  show kEnd _ _ (evSs _ f_Board_state.body [some _, none] h) = _
  simp only [f_Board_state, evs1, evs2, evs3, evs4, evs5, evs6, evs7, evs8, evs9, evsF, evsH, if_true, if_false, Bool.false_eq_true, List.nil_append, Bool.not_true, Bool.not_false, evsD, fl_vers e]
  rw [compL_map (g := fun r => natD (lastV r))]
  · simp only [evs1, evs2, evs3, evs4, evs5, evs6, evs7, evs8, evs9, evsF, evsH, if_true, if_false, Bool.false_eq_true, List.nil_append, Bool.not_true, Bool.not_false, List.length_map]
    rw [if_most (by rw [o.lv]; have := o.w.ln; omega)]
    simp only [evs1, evs2, evs3, evs4, evs5, evs6, evs7, evs8, evs9, evsF, evsH, if_true, if_false, Bool.false_eq_true, List.nil_append, Bool.not_true, Bool.not_false]
    rw [show PyData.tuple (b.vs.map fun r => natD (lastV r)) = rowD (stateB b) from by unfold rowD stateB; rw [List.map_map]; rfl]
  · intro r hr acc
    simp only [evs1, evs2, evs3, evs4, evs5, evs6, evs7, evs8, evs9, evsF, evsH, if_true, if_false, Bool.false_eq_true, List.nil_append, Bool.not_true, Bool.not_false, verD, last_at (o.ne r hr), evsD]
theorem s_box (o : BdOk b) (hl : ∀ r ∈ b.vs, r.length < 64) (e : Bat h k b) : callN tab scr (n + 2) "Board" (some "box") [.ref k] h = some (.d (boxD (boxB b)), h) := by
  rw [callN_eq fd_Board_box rfl]
  show kEnd _ _ (evSs _ f_Board_box.body [some _, none, none, none] h) = _
  simp only [f_Board_box, evs1, evs2, evs3, evs4, evs5, evs6, evs7, evs8, evs9, evsF, evsH, if_true, if_false, Bool.false_eq_true, List.nil_append, Bool.not_true, Bool.not_false, evsD, fl_vers e]
  rw [compL_map (g := fun r => rowD (sortN (r.map (·.2))))]
  · simp only [evs1, evs2, evs3, evs4, evs5, evs6, evs7, evs8, evs9, evsF, evsH, if_true, if_false, Bool.false_eq_true, List.nil_append, Bool.not_true, Bool.not_false, List.length_map]
    rw [if_most (by rw [o.lv]; have := o.w.ln; omega)]
    simp only [evs1, evs2, evs3, evs4, evs5, evs6, evs7, evs8, evs9, evsF, evsH, if_true, if_false, Bool.false_eq_true, List.nil_append, Bool.not_true, Bool.not_false]
    rw [show PyData.tuple (b.vs.map fun r => rowD (sortN (r.map (·.2)))) = boxD (boxB b) from by unfold boxD boxB; rw [List.map_map]; rfl]
  · intro r hr acc
    have := hl r hr
    have e6 := s_set_of (scr := scr) (n := n) (h := h) (r.map (·.2)) (by rw [List.length_map]; omega)
    rw [List.map_map] at e6
    simp only [evs1, evs2, evs3, evs4, evs5, evs6, evs7, evs8, evs9, evsF, evsH, if_true, if_false, Bool.false_eq_true, List.nil_append, Bool.not_true, Bool.not_false, evsD]
    rw [compL_map (g := fun p => natD p.2)]
    · simp only [evs1, evs2, evs3, evs4, evs5, evs6, evs7, evs8, evs9, evsF, evsH, if_true, if_false, Bool.false_eq_true, List.nil_append, Bool.not_true, Bool.not_false, List.length_map]
      rw [if_most (by omega)]
      simp only [evs1, evs2, evs3, evs4, evs5, evs6, evs7, evs8, evs9, evsF, evsH, if_true, if_false, Bool.false_eq_true, List.nil_append, Bool.not_true, Bool.not_false]
      rw [show (r.map fun p => natD p.2) = r.map ((fun (n : Nat) => PyData.int (n : Int)) ∘ fun p => p.2) from rfl, e6]
      simp only [evs1, evs2, evs3, evs4, evs5, evs6, evs7, evs8, evs9, evsF, evsH, if_true, if_false, Bool.false_eq_true, List.nil_append, Bool.not_true, Bool.not_false]
    · intro p hp acc
      simp only [evs1, evs2, evs3, evs4, evs5, evs6, evs7, evs8, evs9, evsF, evsH, if_true, if_false, Bool.false_eq_true, List.nil_append, Bool.not_true, Bool.not_false, pairD]
theorem s_versions (e : Bat h k b) (hj : j < b.hs.length) (hv : b.vs.length = b.hs.length) : callN tab scr (n + 3) "Board" (some "versions") [.ref k, .d (.int j)] h = some (.d (verD (vAt b.vs j)), h) := by
  rw [callN_eq fd_Board_versions rfl]
  show kEnd _ _ (evSs _ f_Board_versions.body [some _, some _] h) = _
  simp only [f_Board_versions, evs1, evs2, evs3, evs4, evs5, evs6, evs7, evs8, evs9, evsF, evsH, if_true, if_false, Bool.false_eq_true, List.nil_append, Bool.not_true, Bool.not_false, evsD, e, s_bcheck_place e hj, fl_vers e, vAt_at (vs := b.vs) (e := j) (by omega)]
theorem state_ok (o : BdOk b) : StOk b.hs (stateB b) where
  len := by unfold stateB; rw [List.length_map, o.lv]
  lt := fun j hj => by
    have hv := vAt_at (vs := b.vs) (e := j) (by rw [o.lv]; exact hj)
    have hn := o.ne _ (List.mem_of_getElem? hv)
    unfold sAt stateB
    rw [List.getD_eq_getElem?_getD, List.getElem?_map, hv]
    show lastV (vAt b.vs j) < _
    unfold lastV
    cases q : (vAt b.vs j).getLast? with
    | none => rw [List.getLast?_eq_none_iff] at q; exact absurd q hn
    | some p => exact o.val j _ hv p (List.mem_of_getLast? q)
theorem s_is_still (o : BdOk b) (e : Bat h k b) : callN tab scr (n + 6) "Board" (some "is_still") [.ref k] h = some (.d (.bool (decide (actS b.hs (stateB b) = stateB b))), h) := by
  rw [callN_eq fd_Board_is_still rfl]
  show kEnd _ _ (evSs _ f_Board_is_still.body [some _] h) = _
  simp only [f_Board_is_still, evs1, evs2, evs3, evs4, evs5, evs6, evs7, evs8, evs9, evsF, evsH, if_true, if_false, Bool.false_eq_true, List.nil_append, Bool.not_true, Bool.not_false, e, fl_house e, s_state o e, s_is_rest o.w (state_ok o)]
theorem s_blen (e : Bat h k b) : callN tab scr (n + 1) "Board" (some "__len__") [.ref k] h = some (.d (.int (b.pa.length : Nat)), h) := by
  rw [callN_eq fd_Board___len__ rfl]
  show kEnd _ _ (evSs _ f_Board___len__.body [some _] h) = _
  simp only [f_Board___len__, evs1, evs2, evs3, evs4, evs5, evs6, evs7, evs8, evs9, evsF, evsH, if_true, if_false, Bool.false_eq_true, List.nil_append, Bool.not_true, Bool.not_false, fl_past e]
end
end K87
set_option Elab.async false
set_option linter.all false
set_option maxRecDepth 100000
set_option maxHeartbeats 2000000
/-! Sg: a Board stays a Board; values within boxes. -/
namespace K87
open PySem Mp Hs
theorem vAt_set {vs : List Ver} {i e : Nat} {r : Ver} (hi : i < vs.length) : vAt (vs.set i r) e = if i = e then r else vAt vs e := by
  unfold vAt
  rw [List.getD_eq_getElem?_getD, List.getElem?_set, List.getD_eq_getElem?_getD]
  by_cases q : i = e
  · subst q
    simp [hi]
  · simp [q]
theorem vAt_mem {vs : List Ver} {e : Nat} {p : Nat × Nat} (h : p ∈ vAt vs e) : e < vs.length := by
  by_cases q : e < vs.length
  · exact q
  · unfold vAt at h
    rw [List.getD_eq_getElem?_getD, List.getElem?_eq_none (by omega)] at h
    cases h
theorem PicOk.mono {vs vs' : List Ver} : ∀ {es p : List Nat}, (∀ e ∈ es, ∀ x ∈ keys (vAt vs e), x ∈ keys (vAt vs' e)) → PicOk vs es p → PicOk vs' es p
  | [], [], _, _ => trivial
  | e :: es, x :: xs, h, q => ⟨h e (List.mem_cons_self ..) x q.1, PicOk.mono (fun e he => h e (List.mem_cons_of_mem _ he)) q.2⟩
  | [], _ :: _, _, q => q.elim
  | _ :: _, [], _, q => q.elim
theorem PicOk.set {vs : List Ver} {x : Nat} : ∀ {es p : List Nat} {s e : Nat}, PicOk vs es p → es[s]? = some e → x ∈ keys (vAt vs e) → PicOk vs es (p.set s x)
  | [], [], s, e, _, h, _ => by simp at h
  | e0 :: es, x0 :: xs, 0, e, q, h, hx => by
    simp only [List.getElem?_cons_zero, Option.some.injEq] at h
    subst h
    exact ⟨hx, q.2⟩
  | e0 :: es, x0 :: xs, s + 1, e, q, h, hx => by
    simp only [List.getElem?_cons_succ] at h
    exact ⟨q.1, PicOk.set q.2 h hx⟩
  | [], _ :: _, _, _, q, _, _ => q.elim
  | _ :: _, [], _, _, q, _, _ => q.elim
theorem PicOk.fresh {vs vs' : List Ver} {j x : Nat} (h1 : ∀ e, e ≠ j → vAt vs' e = vAt vs e) (h2 : ∀ y ∈ keys (vAt vs j), max y x ∈ keys (vAt vs' j)) : ∀ {es p : List Nat}, PicOk vs es p → PicOk vs' es (freshR es p j x)
  | [], [], _ => trivial
  | e :: es, y :: ys, q => by
    show (if e = j then max y x else y) ∈ keys (vAt vs' e) ∧ PicOk vs' es (freshR es ys j x)
    refine ⟨?_, PicOk.fresh h1 h2 q.2⟩
    by_cases z : e = j
    · rw [if_pos z, z]
      rw [z] at q
      exact h2 y q.1
    · rw [if_neg z, h1 e z]
      exact q.1
  | [], _ :: _, q => q.elim
  | _ :: _, [], q => q.elim
section
variable {f : Fd} {j k M : Nat} {b : Bd}
theorem note_ok (o : BdOk b) : BdOk (noteB b) := ⟨o.w, o.lv, o.lp, o.asc, o.ne, o.val, o.pic⟩
theorem show_ok (o : BdOk b) (hf : b.hs[j]? = some f) {s e x : Nat} (hs : f.ey[s]? = some e) (hx : x ∈ keys (vAt b.vs e)) : BdOk (showB b j s x) where
  w := o.w
  lv := o.lv
  lp := by show (b.ps.set j _).length = _; rw [List.length_set]; exact o.lp
  asc := o.asc
  ne := o.ne
  val := o.val
  pic := fun i g p h1 h2 => by
    have h2 : (b.ps.set j ((b.ps.getD j []).set s x))[i]? = some p := h2
    have hj := (List.getElem?_eq_some_iff.mp hf).1
    rw [List.getElem?_set] at h2
    by_cases q : j = i
    · subst q
      rw [if_pos rfl, if_pos (by rw [o.lp]; exact hj)] at h2
      cases h2
      have h1 : b.hs[j]? = some g := h1
      rw [hf] at h1
      cases h1
      have hp : b.ps[j]? = some (b.ps.getD j []) := by rw [List.getD_eq_getElem?_getD, List.getElem?_eq_getElem (by rw [o.lp]; exact hj)]; rfl
      exact PicOk.set (o.pic j f _ hf hp) hs hx
    · rw [if_neg q] at h2
      exact o.pic i g p h1 h2
theorem show_few (m : Few b M) {s x : Nat} : Few (showB b j s x) (M + 1) where
  rw_ := fun r hr => Nat.le_succ_of_le (m.rw_ r hr)
  pa := by show (b.pa ++ [keptD b]).length ≤ _; rw [List.length_append]; exact Nat.succ_le_succ m.pa
  mv := Nat.le_succ_of_le m.mv
/-- values within a box -/
def InB (b : Bd) (B : Box) : Prop := ∀ e, ∀ p ∈ vAt b.vs e, p.2 ∈ bAt B e
theorem val_in (o : BdOk b) {B : Box} (i : InB b B) (hj : j < b.hs.length) : valB b j ∈ bAt (toldB b.hs B) j := by
  have hf := List.getElem?_eq_getElem hj
  have hp : b.ps[j]? = some (b.ps.getD j []) := by rw [List.getD_eq_getElem?_getD, List.getElem?_eq_getElem (by rw [o.lp]; exact hj)]; rfl
  unfold valB
  rw [hf]
  exact mem_toldB.mpr ⟨_, _, hf, wRow_in b.vs (bAt B) i (o.pic j _ _ hf hp), rfl⟩
theorem val_lt (o : BdOk b) (hj : j < b.hs.length) : valB b j < sz b.hs j := by
  have hf := List.getElem?_eq_getElem hj
  have hp : b.ps[j]? = some (b.ps.getD j []) := by rw [List.getD_eq_getElem?_getD, List.getElem?_eq_getElem (by rw [o.lp]; exact hj)]; rfl
  have hm := List.mem_of_getElem? hf
  unfold valB
  rw [hf, sz_at hf]
  exact (o.w.tAt_lt hm (wRow_ok o (o.w.ey _ hm).2 (o.pic j _ _ hf hp))).2
theorem act_vs (hj : j < b.vs.length) (e : Nat) : vAt (actB b j).vs e = if j = e then vAt b.vs j ++ [(lastN (vAt b.vs j) + 1, valB b j)] else vAt b.vs e :=
  vAt_set (vs := b.vs) (r := vAt b.vs j ++ [(lastN (vAt b.vs j) + 1, valB b j)]) hj
theorem asc_last {r : Ver} (h : r.Pairwise fun p q => p.1 < q.1) : ∀ p ∈ r, p.1 ≤ lastN r := by
  intro p hp
  have hn : r ≠ [] := List.ne_nil_of_mem hp
  have e : r = r.dropLast ++ [r.getLast hn] := (List.dropLast_concat_getLast hn).symm
  unfold lastN
  rw [List.getLast?_eq_some_getLast hn]
  show p.1 ≤ (r.getLast hn).1
  rw [e] at h hp
  rcases List.mem_append.mp hp with q | q
  · exact Nat.le_of_lt ((List.pairwise_append.mp h).2.2 p q _ (List.mem_singleton.mpr rfl))
  · rw [List.mem_singleton.mp q]
    exact Nat.le_refl _
theorem act_row {r : Ver} {v : Nat} (h : r.Pairwise fun p q => p.1 < q.1) : (r ++ [(lastN r + 1, v)]).Pairwise fun p q => p.1 < q.1 := by
  refine List.pairwise_append.mpr ⟨h, List.pairwise_singleton _ _, fun p hp q hq => ?_⟩
  rw [List.mem_singleton.mp hq]
  exact Nat.lt_succ_of_le (asc_last h p hp)
theorem rows_of {vs : List Ver} {P : Ver → Prop} (h : ∀ e, e < vs.length → P (vAt vs e)) : ∀ r ∈ vs, P r := fun r hr => by
  obtain ⟨e, he⟩ := List.mem_iff_getElem?.mp hr
  have := h e (List.getElem?_eq_some_iff.mp he).1
  rw [vAt_is he] at this
  exact this
theorem at_rows {vs : List Ver} {P : Ver → Prop} (h : ∀ r ∈ vs, P r) {e : Nat} (he : e < vs.length) : P (vAt vs e) := h _ (List.mem_of_getElem? (vAt_at he))
theorem act_ok (o : BdOk b) (hj : j < b.hs.length) : BdOk (actB b j) := by
  have hjv : j < b.vs.length := by rw [o.lv]; exact hj
  have hl : (actB b j).vs.length = b.vs.length := List.length_set
  have av := act_vs (b := b) hjv
  refine ⟨o.w, hl.trans o.lv, o.lp, rows_of fun e he => ?_, rows_of fun e he => ?_, fun e r hr p hp => ?_, fun i g p h1 h2 => PicOk.mono (fun e he x hx => ?_) (o.pic i g p h1 h2)⟩
  · rw [av e]
    split
    · exact act_row (at_rows o.asc hjv)
    · exact at_rows o.asc (by rw [← hl]; exact he)
  · rw [av e]
    split
    · simp
    · exact at_rows o.ne (by rw [← hl]; exact he)
  · have he := (List.getElem?_eq_some_iff.mp hr).1
    rw [← vAt_is hr, av e] at hp
    show p.2 < sz b.hs e
    split at hp
    · rename_i q
      subst q
      rcases List.mem_append.mp hp with z | z
      · exact o.val j _ (vAt_at hjv) p z
      · rw [List.mem_singleton.mp z]
        exact val_lt o hj
    · exact o.val e _ (vAt_at (by rw [← hl]; exact he)) p hp
  · rw [av e]
    split
    · rename_i q
      subst q
      unfold keys at hx ⊢
      rw [List.map_append]
      exact List.mem_append.mpr (.inl hx)
    · exact hx
theorem act_few (o : BdOk b) (hj : j < b.hs.length) (m : Few b M) : Few (actB b j) (M + 1) where
  rw_ := by
    have hjv : j < b.vs.length := by rw [o.lv]; exact hj
    have hl : (actB b j).vs.length = b.vs.length := List.length_set
    refine rows_of fun e he => ?_
    rw [act_vs hjv e]
    split
    · rw [List.length_append]
      exact Nat.succ_le_succ (at_rows m.rw_ hjv)
    · exact Nat.le_succ_of_le (at_rows m.rw_ (by rw [← hl]; exact he))
  pa := by show (b.pa ++ [keptD b]).length ≤ _; rw [List.length_append]; exact Nat.succ_le_succ m.pa
  mv := by show (b.mv ++ [_]).length ≤ _; rw [List.length_append]; exact Nat.succ_le_succ m.mv
theorem act_in (o : BdOk b) (hj : j < b.hs.length) {B : Box} (i : InB b B) (s : Sub (toldB b.hs B) B) : InB (actB b j) B := fun e p hp => by
  have hjv : j < b.vs.length := by rw [o.lv]; exact hj
  rw [act_vs hjv e] at hp
  split at hp
  · rename_i q
    subst q
    rcases List.mem_append.mp hp with z | z
    · exact i j p z
    · rw [List.mem_singleton.mp z]
      exact s _ _ (val_in o i hj)
  · exact i e p hp
theorem act_lastV (o : BdOk b) (hj : j < b.hs.length) (e : Nat) : lastV (vAt (actB b j).vs e) = if j = e then valB b j else lastV (vAt b.vs e) := by
  have hjv : j < b.vs.length := by rw [o.lv]; exact hj
  rw [act_vs hjv e]
  split
  · unfold lastV
    simp
  · rfl
/-! losses -/
theorem lose_vs {x : Nat} (hj : j < b.vs.length) (e : Nat) : vAt (loseB b j x).vs e = if j = e then (vAt b.vs j).filter (fun p => decide (x ≤ p.1)) else vAt b.vs e :=
  vAt_set (vs := b.vs) (r := (vAt b.vs j).filter fun p => decide (x ≤ p.1)) hj
theorem lose_ok (o : BdOk b) (hj : j < b.hs.length) {x : Nat} (hx : x ∈ keys (vAt b.vs j)) : BdOk (loseB b j x) := by
  have hjv : j < b.vs.length := by rw [o.lv]; exact hj
  have hl : (loseB b j x).vs.length = b.vs.length := List.length_set
  have av := lose_vs (b := b) (x := x) hjv
  obtain ⟨p0, hp0, e0⟩ := List.mem_map.mp hx
  have mem0 : p0 ∈ (vAt b.vs j).filter fun p => decide (x ≤ p.1) := List.mem_filter.mpr ⟨hp0, decide_eq_true (Nat.le_of_eq e0.symm)⟩
  refine ⟨o.w, hl.trans o.lv, losePs_len o.lp, rows_of fun e he => ?_, rows_of fun e he => ?_, fun e r hr p hp => ?_, fun i g p h1 h2 => ?_⟩
  · rw [av e]
    split
    · exact (at_rows o.asc hjv).sublist List.filter_sublist
    · exact at_rows o.asc (by rw [← hl]; exact he)
  · rw [av e]
    split
    · exact List.ne_nil_of_mem mem0
    · exact at_rows o.ne (by rw [← hl]; exact he)
  · have he := (List.getElem?_eq_some_iff.mp hr).1
    rw [← vAt_is hr, av e] at hp
    show p.2 < sz b.hs e
    split at hp
    · rename_i q
      subst q
      exact o.val j _ (vAt_at hjv) p (List.mem_filter.mp hp).1
    · exact o.val e _ (vAt_at (by rw [← hl]; exact he)) p hp
  · have h1 : b.hs[i]? = some g := h1
    have h2 : (losePs b.hs b.ps j x)[i]? = some p := h2
    rw [losePs_at o.lp h1] at h2
    cases h2
    have hi := (List.getElem?_eq_some_iff.mp h1).1
    have hp : b.ps[i]? = some (b.ps.getD i []) := by rw [List.getD_eq_getElem?_getD, List.getElem?_eq_getElem (by rw [o.lp]; exact hi)]; rfl
    refine PicOk.fresh (fun e he => by rw [av e, if_neg (Ne.symm he)]) (fun y hy => ?_) (o.pic i g _ h1 hp)
    rw [av j, if_pos rfl]
    obtain ⟨q, hq, e⟩ := List.mem_map.mp hy
    unfold keys
    by_cases z : x ≤ y
    · rw [Nat.max_eq_left z]
      exact List.mem_map.mpr ⟨q, List.mem_filter.mpr ⟨hq, decide_eq_true (e ▸ z)⟩, e⟩
    · rw [Nat.max_eq_right (by omega)]
      exact List.mem_map.mpr ⟨p0, mem0, e0⟩
theorem lose_few (o : BdOk b) (hj : j < b.hs.length) {x : Nat} (m : Few b M) : Few (loseB b j x) (M + 1) where
  rw_ := by
    have hjv : j < b.vs.length := by rw [o.lv]; exact hj
    have hl : (loseB b j x).vs.length = b.vs.length := List.length_set
    refine rows_of fun e he => ?_
    rw [lose_vs hjv e]
    split
    · exact Nat.le_succ_of_le (Nat.le_trans (List.length_filter_le _ _) (at_rows m.rw_ hjv))
    · exact Nat.le_succ_of_le (at_rows m.rw_ (by rw [← hl]; exact he))
  pa := by show (b.pa ++ [keptD b]).length ≤ _; rw [List.length_append]; exact Nat.succ_le_succ m.pa
  mv := Nat.le_succ_of_le m.mv
theorem lose_in (o : BdOk b) (hj : j < b.hs.length) {x : Nat} {B : Box} (i : InB b B) : InB (loseB b j x) B := fun e p hp => by
  have hjv : j < b.vs.length := by rw [o.lv]; exact hj
  rw [lose_vs hjv e] at hp
  split at hp
  · rename_i q
    subst q
    exact i j p (List.mem_filter.mp hp).1
  · exact i e p hp
/-- losing what is ahead of the last one leaves the last one -/
theorem filter_last : ∀ {r : Ver}, r.Pairwise (fun p q => p.1 < q.1) → r ≠ [] → r.filter (fun p => decide (lastN r ≤ p.1)) = [(lastN r, lastV r)] := by
  intro r h hn
  have e : r = r.dropLast ++ [r.getLast hn] := (List.dropLast_concat_getLast hn).symm
  have hN : lastN r = (r.getLast hn).1 := by unfold lastN; rw [List.getLast?_eq_some_getLast hn]; rfl
  have hV : lastV r = (r.getLast hn).2 := by unfold lastV; rw [List.getLast?_eq_some_getLast hn]; rfl
  rw [hN, hV]
  generalize r.getLast hn = l at e
  generalize r.dropLast = d at e
  subst e
  rw [List.filter_append, List.filter_eq_nil_iff.mpr, List.nil_append]
  · simp
  · intro p hp
    have := (List.pairwise_append.mp h).2.2 p hp l (List.mem_singleton.mpr rfl)
    simp only [decide_eq_true_eq]
    omega
theorem lastN_mem {r : Ver} (hn : r ≠ []) : lastN r ∈ keys r := by
  unfold lastN keys
  rw [List.getLast?_eq_some_getLast hn]
  exact List.mem_map.mpr ⟨_, List.getLast_mem hn, rfl⟩
theorem lastV_mem {r : Ver} (hn : r ≠ []) : (lastN r, lastV r) ∈ r := by
  unfold lastN lastV
  rw [List.getLast?_eq_some_getLast hn]
  exact List.getLast_mem hn
theorem loseL_vs (o : BdOk b) (hj : j < b.hs.length) (e : Nat) : vAt (loseB b j (lastN (vAt b.vs j))).vs e = if j = e then [(lastN (vAt b.vs j), lastV (vAt b.vs j))] else vAt b.vs e := by
  have hjv : j < b.vs.length := by rw [o.lv]; exact hj
  rw [lose_vs hjv e, filter_last (at_rows o.asc hjv) (at_rows o.ne hjv)]
end
end K87
set_option Elab.async false
set_option linter.all false
set_option maxRecDepth 100000
set_option maxHeartbeats 2000000
/-! Sh: draws. -/
namespace Hs
open PySem Mp
def tinO (a b : Int) (c : Nat) : MO := .lst [.int a, .int b, .int (c : Int)]
def Tin (k M : Nat) (h : Hm) : Prop := ∃ (a b : Int) (c : Nat), h[k]? = some (tinO a b c) ∧ c ≤ M
/-- draws have been taken -/
def Aft (k M : Nat) (h h' : Hm) : Prop := ∃ (a b : Int) (c : Nat), c ≤ M ∧ h' = h.set k (tinO a b c)
section
variable {k M M' : Nat} {h h' h2 : Hm}
theorem Tin.lt (t : Tin k M h) : k < h.length := by
  obtain ⟨a, b, c, e, _⟩ := t
  exact (List.getElem?_eq_some_iff.mp e).1
theorem Aft.tin (t : k < h.length) (a : Aft k M h h') : Tin k M h' := by
  obtain ⟨a, b, c, l, rfl⟩ := a
  exact ⟨a, b, c, by rw [List.getElem?_set_self t], l⟩
theorem Aft.trans (a : Aft k M h h') (b : Aft k M' h' h2) : Aft k M' h h2 := by
  obtain ⟨_, _, _, _, rfl⟩ := a
  obtain ⟨x, y, z, l, rfl⟩ := b
  exact ⟨x, y, z, l, List.set_set _⟩
theorem Aft.len (a : Aft k M h h') : h'.length = h.length := by
  obtain ⟨_, _, _, _, rfl⟩ := a
  exact List.length_set
theorem Aft.get (a : Aft k M h h') {j : Nat} (hj : j ≠ k) : h'[j]? = h[j]? := by
  obtain ⟨_, _, _, _, rfl⟩ := a
  rw [List.getElem?_set_ne (Ne.symm hj)]
theorem Aft.mono (a : Aft k M h h') (l : M ≤ M') : Aft k M' h h' := by
  obtain ⟨x, y, z, q, e⟩ := a
  exact ⟨x, y, z, Nat.le_trans q l, e⟩
theorem Tin.mono (a : Tin k M h) (l : M ≤ M') : Tin k M' h := by
  obtain ⟨x, y, z, e, q⟩ := a
  exact ⟨x, y, z, e, Nat.le_trans q l⟩
theorem Tin.refl (t : Tin k M h) : Aft k M h h := by
  obtain ⟨a, b, c, e, l⟩ := t
  refine ⟨a, b, c, l, ?_⟩
  refine List.ext_getElem? fun j => ?_
  rw [List.getElem?_set]
  by_cases q : k = j
  · subst q
    rw [if_pos rfl, if_pos (List.getElem?_eq_some_iff.mp e).1, e]
  · rw [if_neg q]
theorem Aft.take (a : Aft k M h h') {l : Hm} : (h' ++ l).take h.length = h' := by
  rw [← a.len]
  exact List.take_left ..
theorem Aft.take0 (a : Aft k M h h') : h'.take h.length = h' := by
  rw [← a.len]
  exact List.take_length
/-- with things behind -/
theorem Aft.split {l : Hm} (t : k < h.length) (a : Aft k M (h ++ l) h2) : ∃ h', Aft k M h h' ∧ h2 = h' ++ l := by
  obtain ⟨x, y, z, q, rfl⟩ := a
  exact ⟨h.set k (tinO x y z), ⟨x, y, z, q, rfl⟩, List.set_append_left _ _ t⟩
theorem Tin.app {l : Hm} (t : Tin k M h) : Tin k M (h ++ l) := by
  obtain ⟨a, b, c, e, q⟩ := t
  exact ⟨a, b, c, app_old e l, q⟩
end
theorem map_erase {α β : Type} (f : α → β) : ∀ (l : List α) (v : Nat), (l.eraseIdx v).map f = (l.map f).eraseIdx v
  | [], _ => rfl
  | x :: l, 0 => rfl
  | x :: l, v + 1 => by
    show f x :: (l.eraseIdx v).map f = f x :: (l.map f).eraseIdx v
    rw [map_erase f l v]
theorem perm_erase {α : Type} : ∀ (l : List α) (v : Nat) (h : v < l.length), (l[v] :: l.eraseIdx v).Perm l
  | [], v, h => absurd h (Nat.not_lt_zero _)
  | x :: l, 0, h => List.Perm.refl _
  | x :: l, v + 1, h => by
    show (l[v]'(Nat.lt_of_succ_lt_succ h) :: x :: l.eraseIdx v).Perm (x :: l)
    exact (List.Perm.swap ..).trans ((perm_erase l v (Nat.lt_of_succ_lt_succ h)).cons x)
theorem ixN3 : (∀ x y z : D, ixN [x, y, z].length 0 = some 0) ∧ (∀ x y z : D, ixN [x, y, z].length 2 = some 2) := ⟨fun _ _ _ => rfl, fun _ _ _ => rfl⟩
theorem set3 : (∀ x y z w : D, [x, y, z].set 0 w = [w, y, z]) ∧ (∀ x y z w : D, [x, y, z].set 2 w = [x, y, w]) := ⟨fun _ _ _ _ => rfl, fun _ _ _ _ => rfl⟩
end Hs
namespace K87
open PySem Mp Hs
section
variable {scr : List Int} {n : Nat} {h : Hm} {j k M : Nat}
theorem s_take (t : Tin k M h) (hM : M < 2 ^ 60) {q : Nat} (h0 : 0 < q) (h1 : q < 1000000) : ∃ v h', v < q ∧ Aft k (M + 1) h h' ∧ callN tab scr (n + 1) "_law_take" none [.ref k, .d (.int q)] h = some (.d (.int (v : Nat)), h') := by
  obtain ⟨a, b, c, e, hc⟩ := t
  have e : h[k]? = some (.lst [.int a, .int b, .int (c : Int)]) := e
  rw [callN_eq fd__law_take rfl]
  show ∃ v h', v < q ∧ Aft k (M + 1) h h' ∧ kEnd _ _ (evSs _ f__law_take.body [some _, some _, none, none, none, none] h) = _
  by_cases ha : 0 < a
  · refine ⟨(a % q).toNat, h.set k (tinO (a / q) b c), ?_, ⟨a / q, b, c, by omega, rfl⟩, ?_⟩
    · have := Int.emod_lt_of_pos a (show (0 : Int) < q by omega)
      have := Int.emod_nonneg a (show (q : Int) ≠ 0 by omega)
      omega
    · have := Int.emod_nonneg a (show (q : Int) ≠ 0 by omega)
      simp only [f__law_take, evs1, evs2, evs3, evs4, evs5, evs6, evs7, evs8, evs9, evsF, evsH, if_true, if_false, Bool.false_eq_true, List.nil_append, Bool.not_true, Bool.not_false, ix_ref e, decide_eq_true ha]
      rw [if_pos (show (0 : Int) < (q : Int) by omega)]
      simp only [evs1, evs2, evs3, evs4, evs5, evs6, evs7, evs8, evs9, evsF, evsH, if_true, if_false, Bool.false_eq_true, List.nil_append, Bool.not_true, Bool.not_false, ix_ref e]
      rw [if_pos (show (0 : Int) < (q : Int) ∧ (q : Int) < 1073741824 by omega)]
      simp only [evs1, evs2, evs3, evs4, evs5, evs6, evs7, evs8, evs9, evsF, evsH, if_true, if_false, Bool.false_eq_true, List.nil_append, Bool.not_true, Bool.not_false, e, ixN3, set3]
      rw [Int.toNat_of_nonneg this]
      rfl
  · have e2 : (h.set k (.lst [.int a, .int b, .int ((c : Int) + 1)]))[k]? = some (.lst [.int a, .int b, .int ((c : Int) + 1)]) := set_at e _
    simp only [f__law_take, evs1, evs2, evs3, evs4, evs5, evs6, evs7, evs8, evs9, evsF, evsH, if_true, if_false, Bool.false_eq_true, List.nil_append, Bool.not_true, Bool.not_false, ix_ref e, decide_eq_false ha, e, ixN3, set3, ix_ref e2]
    have hb1 : ∀ x : Int, (-(2 ^ 64) < (48271 : Int) ∧ (48271 : Int) < 2 ^ 64) ∨ (-(2 ^ 64) < x ∧ x < 2 ^ 64) := fun x => .inl (by omega)
    simp only [if_pos (hb1 _), evs1, evs2, evs3, evs4, evs5, evs6, evs7, evs8, evs9, evsF, evsH, if_true, if_false, Bool.false_eq_true, List.nil_append, Bool.not_true, Bool.not_false, ix_ref e2]
    rw [if_pos (.inr (by omega))]
    simp only [evs1, evs2, evs3, evs4, evs5, evs6, evs7, evs8, evs9, evsF, evsH, if_true, if_false, Bool.false_eq_true, List.nil_append, Bool.not_true, Bool.not_false, if_pos (show (0 : Int) < 2147483647 by omega), if_pos (show (0 : Int) < 40009 by omega), ix_ref e2, if_pos (show (0 : Int) < 1000003 ∧ (1000003 : Int) < 1073741824 by omega)]
    generalize (b + 48271 * ((c : Int) + 1)) * (39373 + ((c : Int) + 1)) % 2147483647 = on
    rw [if_pos (.inr (by omega))]
    simp only [evs1, evs2, evs3, evs4, evs5, evs6, evs7, evs8, evs9, evsF, evsH, if_true, if_false, Bool.false_eq_true, List.nil_append, Bool.not_true, Bool.not_false, if_pos (show (0 : Int) < 2147483629 by omega)]
    generalize (on + ((c : Int) + 1) + b / 1000003) * (on % 40009 + 7) % 2147483629 = tw
    rw [if_pos (.inr (by omega))]
    simp only [evs1, evs2, evs3, evs4, evs5, evs6, evs7, evs8, evs9, evsF, evsH, if_true, if_false, Bool.false_eq_true, List.nil_append, Bool.not_true, Bool.not_false, if_pos (show (0 : Int) < 2147483587 by omega), if_pos (show (0 : Int) < 64 ∧ (64 : Int) < 1073741824 by omega), if_pos (show (0 : Int) < (q : Int) by omega)]
    generalize (tw * 48271 + on) % 2147483587 / 64 = u
    refine ⟨(u % q).toNat, h.set k (tinO a b (c + 1)), ?_, ⟨a, b, c + 1, by omega, rfl⟩, ?_⟩
    · have := Int.emod_lt_of_pos u (show (0 : Int) < q by omega)
      have := Int.emod_nonneg u (show (q : Int) ≠ 0 by omega)
      omega
    · have := Int.emod_nonneg u (show (q : Int) ≠ 0 by omega)
      rw [Int.toNat_of_nonneg this]
      rfl
theorem s_of (t : Tin k M h) (hM : M < 2 ^ 60) (g : List D) (h0 : g ≠ []) (h1 : g.length < 1000000) : ∃ x h', x ∈ g ∧ Aft k (M + 1) h h' ∧ callN tab scr (n + 2) "_law_of" none [.ref k, .d (.list g)] h = some (.d x, h') := by
  obtain ⟨v, h', v1, v2, v3⟩ := s_take (scr := scr) (n := n) t hM (List.length_pos_iff.mpr h0) h1
  obtain ⟨x, hx⟩ : ∃ x, g[v]? = some x := ⟨_, List.getElem?_eq_getElem v1⟩
  refine ⟨x, h', List.mem_of_getElem? hx, v2, ?_⟩
  rw [callN_eq fd__law_of rfl]
  show kEnd _ _ (evSs _ f__law_of.body [some _, some _] h) = _
  simp only [f__law_of, evs1, evs2, evs3, evs4, evs5, evs6, evs7, evs8, evs9, evsF, evsH, if_true, if_false, Bool.false_eq_true, List.nil_append, Bool.not_true, Bool.not_false, v3, atI_nat, hx, v2.take0]
abbrev pickBody : MSs := (.cons (.expr (.bin .apnd (.var 5) (.bin .popat (.var 4) (.call "_law_take" (.cons (.var 0) (.cons (.un .len (.var 4)) .nil)))))) .nil)
theorem s_pick (t : Tin k M h) (g : List Nat) (q : Nat) (hM : M + q < 2 ^ 60) (h1 : g.length < 1000) : ∃ (r rest : List Nat) (h' : Hm), (r ++ rest).Perm g ∧ r.length = min q g.length ∧ Aft k (M + q) h h' ∧ callN tab scr (n + 2) "_law_pick" none [.ref k, .d (.list (g.map natD)), .d (.int q)] h = some (.d (.list (r.map natD)), h') := by
  have hk := t.lt
  rw [callN_eq fd__law_pick rfl]
  show ∃ (r rest : List Nat) (h' : Hm), (r ++ rest).Perm g ∧ r.length = min q g.length ∧ Aft k (M + q) h h' ∧ kEnd _ _ (evSs _ f__law_pick.body [some _, some _, some _, none, none, none] h) = _
  have e0 : (h ++ [MO.lst (g.map natD), .lst []])[h.length]? = some (.lst (g.map natD)) := app_at0 ..
  have hmin : (if ((g.map natD).length : Int) < (q : Int) then ((g.map natD).length : Int) else (q : Int)) = ((min q g.length : Nat) : Int) := by
    rw [List.length_map]
    split <;> omega
  simp only [f__law_pick, evs1, evs2, evs3, evs4, evs5, evs6, evs7, evs8, evs9, evsF, evsH, if_true, if_false, Bool.false_eq_true, List.nil_append, Bool.not_true, Bool.not_false, List.length_nil, Nat.zero_le, evsA, len_ref e0, hmin]
  rw [if_pos (show ((min q g.length : Nat) : Int) ≤ (most : Nat) ∧ -(2 ^ 62) ≤ ((min q g.length : Nat) : Int) by rw [most_eq]; omega)]
  simp only [evs1, evs2, evs3, evs4, evs5, evs6, evs7, evs8, evs9, evsF, evsH, if_true, if_false, Bool.false_eq_true, List.nil_append, Bool.not_true, Bool.not_false, Int.toNat_natCast, rng_nat]
  obtain ⟨⟨out, env', h'⟩, q1, q2, ⟨x3, pool, found, h3, a1, a2, a3, a4, a5, a6⟩⟩ := forL_inv (step := fturn ⟨callN tab scr (n + 1), scr, h.length⟩ (.nm 3) pickBody)
    (I := fun i env h1 => ∃ (x3 : Option EV) (pool found : List Nat) (h2 : Hm), env = [some (.ref k), some (.d (.list (g.map natD))), some (.d (.int (q : Int))), x3, some (.ref h.length), some (.ref (h.length + 1))] ∧ h1 = h2 ++ [.lst (pool.map natD), .lst (found.map natD)] ∧ Aft k (M + i) h h2 ∧ (found ++ pool).Perm g ∧ found.length = i ∧ pool.length + i = g.length)
    ((List.range (min q g.length)).map fun (i : Nat) => PyData.int (i : Int)) 0 [some (.ref k), some (.d (.list (g.map natD))), some (.d (.int (q : Int))), none, some (.ref h.length), some (.ref (h.length + 1))] (h ++ [.lst (g.map natD), .lst []])
    ⟨none, g, [], h, rfl, rfl, t.refl, List.Perm.refl _, rfl, rfl⟩ (fun i y hy env h1 ⟨x3, pool, found, h2, a1, a2, a3, a4, a5, a6⟩ => by
      rw [Nat.zero_add] at a3 a5 a6 ⊢
      have hi : i < min q g.length := by
        by_cases hi : i < min q g.length
        · exact hi
        · rw [List.getElem?_map, List.getElem?_eq_none (by rw [List.length_range]; omega)] at hy
          cases hy
      subst a1 a2
      have hl2 := a3.len
      have hp0 : 0 < pool.length := by omega
      have t2 := (a3.tin hk).app (l := [MO.lst (pool.map natD), .lst (found.map natD)])
      obtain ⟨v, h5, v1, v2, v3⟩ := s_take (scr := scr) (n := n) t2 (by omega) hp0 (by omega)
      obtain ⟨h6, w1, w2⟩ := v2.split (by rw [hl2]; exact hk)
      subst w2
      have hl6 := w1.len
      have b1 : (h2 ++ [MO.lst (pool.map natD), .lst (found.map natD)])[h.length]? = some (.lst (pool.map natD)) := by rw [← hl2]; exact app_at0 ..
      have b2 : (h2 ++ [MO.lst (pool.map natD), .lst (found.map natD)])[h.length + 1]? = some (.lst (found.map natD)) := by rw [← hl2]; exact app_at1 ..
      have b3 : (h6 ++ [MO.lst (pool.map natD), .lst (found.map natD)])[h.length]? = some (.lst (pool.map natD)) := by rw [← hl2, ← hl6]; exact app_at0 ..
      have b4 : (h6 ++ [MO.lst ((pool.eraseIdx v).map natD), .lst (found.map natD)])[h.length + 1]? = some (.lst (found.map natD)) := by rw [← hl2, ← hl6]; exact app_at1 ..
      have b5 : (h6 ++ [MO.lst (pool.map natD), .lst (found.map natD)]).set h.length (.lst ((pool.map natD).eraseIdx v)) = h6 ++ [MO.lst ((pool.eraseIdx v).map natD), .lst (found.map natD)] := by
        rw [← hl2, ← hl6, set_app0]
        congr 3
        exact (map_erase natD pool v).symm
      have b6 : (h6 ++ [MO.lst ((pool.eraseIdx v).map natD), .lst (found.map natD)]).set (h.length + 1) (.lst (found.map natD ++ [natD pool[v]])) = h6 ++ [MO.lst ((pool.eraseIdx v).map natD), .lst ((found ++ [pool[v]]).map natD)] := by
        rw [← hl2, ← hl6, set_app1]
        simp
      have hx : (pool.map natD)[v]? = some (natD pool[v]) := by rw [List.getElem?_map, List.getElem?_eq_getElem v1]; rfl
      refine ⟨(.next, [some (.ref k), some (.d (.list (g.map natD))), some (.d (.int (q : Int))), some (.d y), some (.ref h.length), some (.ref (h.length + 1))], h6 ++ [.lst ((pool.eraseIdx v).map natD), .lst ((found ++ [pool[v]]).map natD)]), ?_, rfl, some (.d y), pool.eraseIdx v, found ++ [pool[v]], h6, rfl, rfl, ?_, ?_, ?_, ?_⟩
      rotate_left
      · rw [show M + (i + 1) = M + i + 1 by omega]
        exact a3.trans w1
      · refine List.Perm.trans ?_ a4
        rw [List.append_assoc]
        refine List.Perm.append_left _ ?_
        exact perm_erase pool v v1
      · rw [List.length_append, a5]; rfl
      · rw [List.length_eraseIdx_of_lt v1]; omega
      · rw [fturn_nm]
        simp only [evs1, evs2, evs3, evs4, evs5, evs6, evs7, evs8, evs9, evsF, evsH, if_true, if_false, Bool.false_eq_true, List.nil_append, Bool.not_true, Bool.not_false, preA_ref b2, preP_ref b1, len_ref b1, List.length_map, v3, popat_ref b3 hx (by rw [List.length_map, most_eq]; omega), b5, apnd_ref b4]
        rw [if_pos (by rw [most_eq]; omega)]
        simp only [evs1, evs2, evs3, evs4, evs5, evs6, evs7, evs8, evs9, evsF, evsH, if_true, if_false, Bool.false_eq_true, List.nil_append, Bool.not_true, Bool.not_false, b6])
  simp only at q2 a1 a2 a3 a4 a5 a6 q1
  subst q2 a1 a2
  rw [List.length_map, List.length_range] at a3 a5 a6
  rw [Nat.zero_add] at a3 a5 a6
  rw [q1]
  refine ⟨found, pool, h3, a4, a5, a3.mono (by omega), ?_⟩
  have b4 : (h3 ++ [MO.lst (pool.map natD), .lst (found.map natD)])[h.length + 1]? = some (.lst (found.map natD)) := by rw [← a3.len]; exact app_at1 ..
  simp only [evs1, evs2, evs3, evs4, evs5, evs6, evs7, evs8, evs9, evsF, evsH, if_true, if_false, Bool.false_eq_true, List.nil_append, Bool.not_true, Bool.not_false, fin_list b4 (show h.length ≤ h.length + 1 by omega), a3.take]
end
end K87
set_option Elab.async false
set_option linter.all false
set_option maxRecDepth 100000
set_option maxHeartbeats 2000000
/-! Si: drawn houses, states, starts. -/
namespace Hs
open PySem Mp
def insS (k : Nat) : List Nat → List Nat
  | [] => [k]
  | x :: r => if k ≤ x then k :: x :: r else x :: insS k r
def isortN : List Nat → List Nat
  | [] => []
  | x :: r => insS x (isortN r)
theorem insS_perm (k : Nat) : ∀ (l : List Nat), (insS k l).Perm (k :: l)
  | [] => List.Perm.refl _
  | x :: r => by
    unfold insS
    split
    · exact List.Perm.refl _
    · exact ((insS_perm k r).cons x).trans (List.Perm.swap ..)
theorem isortN_perm : ∀ (l : List Nat), (isortN l).Perm l
  | [] => List.Perm.refl _
  | x :: r => (insS_perm x _).trans ((isortN_perm r).cons x)
theorem insJ_cast (k : Nat) : ∀ (l : List Nat), insJ (k : Int) (l.map fun (n : Nat) => (n : Int)) = (insS k l).map fun (n : Nat) => (n : Int)
  | [] => rfl
  | x :: r => by
    simp only [List.map_cons, insJ, insS, insJ_cast k r]
    by_cases h1 : k ≤ x
    · rw [if_pos h1, if_pos (by omega)]; rfl
    · rw [if_neg h1, if_neg (by omega)]; rfl
theorem isort_cast : ∀ (l : List Nat), isortI (l.map fun (n : Nat) => (n : Int)) = (isortN l).map fun (n : Nat) => (n : Int)
  | [] => rfl
  | x :: r => by simp only [List.map_cons, isortI, isortN, isort_cast r, insJ_cast]
theorem natD_int (l : List Nat) : l.map natD = (l.map fun (n : Nat) => (n : Int)).map PyData.int := by rw [List.map_map]; rfl
theorem sorted_nat (c : Cl) (h : Hm) (l : List Nat) (hl : l.length < 64) : unOp c .sorted (.d (.list (l.map natD))) h = some (.d (.list ((isortN l).map natD)), h) := by
  rw [natD_int, show unOp c .sorted (.d (.list ((l.map fun (n : Nat) => (n : Int)).map PyData.int))) h = (if (l.map fun (n : Nat) => (n : Int)).length < 64 then some (.d (.list ((isortI (l.map fun (n : Nat) => (n : Int))).map PyData.int)), h) else none) from by simp only [evs4], List.length_map, if_pos hl, isort_cast, ← natD_int]
/-- sizes of the watched ones -/
def volS (sizes : List Nat) : List Nat → Nat
  | [] => 1
  | e :: r => sizes.getD e 0 * volS sizes r
theorem volS_le {sizes : List Nat} (hs : ∀ s ∈ sizes, s ≤ 3) : ∀ {es : List Nat}, volS sizes es ≤ 3 ^ es.length
  | [] => Nat.le_refl _
  | e :: r => by
    have h0 : sizes.getD e 0 ≤ 3 := by
      rw [List.getD_eq_getElem?_getD]
      cases q : sizes[e]? with
      | none => exact Nat.zero_le _
      | some s => exact hs s (List.mem_of_getElem? q)
    show sizes.getD e 0 * volS sizes r ≤ 3 ^ (r.length + 1)
    rw [Nat.pow_succ, Nat.mul_comm (3 ^ r.length)]
    exact Nat.mul_le_mul h0 (volS_le hs)
end Hs
namespace K87
open PySem Mp Hs
section
variable {scr : List Int} {n : Nat} {h : Hm} {j k M : Nat}
def names3 : List Str := ["no", "yes", "zeal"]
/-- a drawn field -/
structure FdOk (sizes : List Nat) (many i : Nat) (f : Fd) : Prop where
  nm : f.nm.length = sizes.getD i 0
  ey : f.ey.length ≤ 2 ∧ ∀ e ∈ f.ey, e < many
  tb : f.tb.length = volS sizes f.ey
  vl : ∀ v ∈ f.tb, v < f.nm.length
abbrev eyeBody : MSs := (.cons (.asg (.pt (.nm 7)) (.bin .mul (.var 7) (.bin .ix (.var 4) (.var 8)))) .nil)
theorem eye_walk (c : Cl) {h : Hm} {sizes : List Nat} (hs : ∀ s ∈ sizes, s ≤ 3) (w0 w1 w2 w3 w5 w6 w9 w10 : Option EV) : ∀ (es : List Nat) (a : Nat) (x8 : Option EV), (∀ e ∈ es, e < sizes.length) →
    ∃ y8, forL (fturn c (.nm 8) eyeBody) (es.map natD) [w0, w1, w2, w3, some (.d (.list (sizes.map natD))), w5, w6, some (.d (.int (a : Int))), x8, w9, w10] h =
      some (.next, [w0, w1, w2, w3, some (.d (.list (sizes.map natD))), w5, w6, some (.d (.int ((a * volS sizes es : Nat) : Int))), y8, w9, w10], h)
  | [], a, x8, _ => ⟨x8, by simp [forL, volS]⟩
  | e :: es, a, x8, he => by
    obtain ⟨y8, ih⟩ := eye_walk c hs w0 w1 w2 w3 w5 w6 w9 w10 es (a * sizes.getD e 0) (some (.d (natD e))) fun e he' => he e (List.mem_cons_of_mem _ he')
    have hl := he e (List.mem_cons_self ..)
    have hx : sizes[e]? = some (sizes.getD e 0) := by rw [List.getD_eq_getElem?_getD, List.getElem?_eq_getElem hl]; rfl
    have h3 := hs _ (List.mem_of_getElem? hx)
    refine ⟨y8, ?_⟩
    rw [List.map_cons]
    unfold forL
    rw [fturn_nm]
    simp only [evs1, evs2, evs3, evs4, evs5, evs6, evs7, evs8, evs9, evsF, evsH, if_true, if_false, Bool.false_eq_true, List.nil_append, Bool.not_true, Bool.not_false, at_map, hx, Option.map_some]
    rw [if_pos (.inr (by omega))]
    simp only [evs1, evs2, evs3, evs4, evs5, evs6, evs7, evs8, evs9, evsF, evsH, if_true, if_false, Bool.false_eq_true, List.nil_append, Bool.not_true, Bool.not_false]
    rw [show ((a : Int) * ((sizes.getD e 0 : Nat) : Int)) = ((a * sizes.getD e 0 : Nat) : Int) by simp]
    rw [show a * volS sizes (e :: es) = a * sizes.getD e 0 * volS sizes es from (Nat.mul_assoc ..).symm]
    exact ih
/-- draws in a comprehension -/
theorem takes (t : Tin k M h) (c : Cl) (hc : c.call = callN tab scr (n + 1)) {q : Nat} (h0 : 0 < q) (hq : q < 1000000) (elt : ME) (i : Nat) (env : Ev) (hi : i < env.length) (he : ∀ x h1, evE c elt (env.set i x) h1 = c.call "_law_take" none [.ref k, .d (.int (q : Int))] h1) (xs : List D) (hM : M + xs.length < 2 ^ 60) :
    ∃ (l : List Nat) (h' : Hm), l.length = xs.length ∧ (∀ v ∈ l, v < q) ∧ Aft k (M + xs.length) h h' ∧ compL (turn c elt (.nm i) (.con (.bool true)) [i] env) xs [] h = some (l.map natD, h') := by
  have hk := t.lt
  obtain ⟨⟨acc, h'⟩, q1, ⟨l, a1, a2, a3, a4⟩⟩ := compL_inv (step := turn c elt (.nm i) (.con (.bool true)) [i] env) (fun m acc h1 => ∃ l : List Nat, acc = l.map natD ∧ l.length = m ∧ (∀ v ∈ l, v < q) ∧ Aft k (M + m) h h1) xs 0 [] h ⟨[], rfl, rfl, by simp, t.refl⟩ (fun m x hx acc h1 ⟨l, a1, a2, a3, a4⟩ => by
    rw [Nat.zero_add] at a2 a4 ⊢
    have hm := (List.getElem?_eq_some_iff.mp hx).1
    obtain ⟨v, h2, v1, v2, v3⟩ := s_take (scr := scr) (n := n) (a4.tin hk) (by omega) h0 hq
    refine ⟨(acc ++ [natD v], h2), ?_, l ++ [v], by rw [a1]; simp, by rw [List.length_append, a2]; rfl, fun u hu => ?_, ?_⟩
    · have e1 : (env.set i none).set i (some (.d x)) = env.set i (some (.d x)) := List.set_set _
      simp only [evs1, evs2, evs3, evs4, evs5, evs6, evs7, evs8, evs9, evsF, evsH, if_true, if_false, Bool.false_eq_true, List.nil_append, Bool.not_true, Bool.not_false, e1, he, hc, v3]
    · rcases List.mem_append.mp hu with z | z
      · exact a3 u z
      · rw [List.mem_singleton.mp z]; exact v1
    · rw [show M + (m + 1) = M + m + 1 by omega]
      exact a4.trans v2)
  simp only [Nat.zero_add] at a1 a2 a4
  exact ⟨l, h', a2, a3, a4, by rw [q1, a1]⟩
/-- drawn sizes -/
theorem sizes_drawn (t : Tin k M h) (hM : M < 2 ^ 50) (c : Cl) (hc : c.call = callN tab scr (n + 2)) (many : Nat) (hm : many ≤ 1000) (e1 e2 e4 e5 e6 e7 e8 e9 e10 : Option EV) (h2 : e2 = some (.d (.int 3))) :
    ∃ (l : List Nat) (h' : Hm), l.length = many ∧ (∀ s ∈ l, 1 ≤ s ∧ s ≤ 3) ∧ Aft k (M + many) h h' ∧
      compL (turn c (.call "_law_of" (.cons (.var 0) (.cons (.sl false (.lst false (.cons (.con (.int 1)) (.cons (.con (.int 2)) (.cons (.con (.int 2)) (.cons (.con (.int 2)) (.cons (.con (.int 3)) (.cons (.con (.int 3)) .nil))))))) (.con .none) (.bin .mul (.var 2) (.con (.int 2)))) .nil))) (.nm 3) (.con (.bool true)) [3] [some (.ref k), e1, e2, none, e4, e5, e6, e7, e8, e9, e10]) ((List.range many).map natD) [] h = some (l.map natD, h') := by
  subst h2
  have hk := t.lt
  obtain ⟨⟨acc, h'⟩, q1, ⟨l, a1, a2, a3, a4⟩⟩ := compL_inv (step := turn c (.call "_law_of" (.cons (.var 0) (.cons (.sl false (.lst false (.cons (.con (.int 1)) (.cons (.con (.int 2)) (.cons (.con (.int 2)) (.cons (.con (.int 2)) (.cons (.con (.int 3)) (.cons (.con (.int 3)) .nil))))))) (.con .none) (.bin .mul (.var 2) (.con (.int 2)))) .nil))) (.nm 3) (.con (.bool true)) [3] [some (.ref k), e1, some (.d (.int 3)), none, e4, e5, e6, e7, e8, e9, e10])
    (fun m acc h1 => ∃ l : List Nat, acc = l.map natD ∧ l.length = m ∧ (∀ s ∈ l, 1 ≤ s ∧ s ≤ 3) ∧ Aft k (M + m) h h1) ((List.range many).map natD) 0 [] h ⟨[], rfl, rfl, by simp, t.refl⟩ (fun m x hx acc h1 ⟨l, a1, a2, a3, a4⟩ => by
    rw [Nat.zero_add] at a2 a4 ⊢
    have hm := (List.getElem?_eq_some_iff.mp hx).1
    rw [List.length_map, List.length_range] at hm
    obtain ⟨v, h2, v1, v2, v3⟩ := s_of (scr := scr) (n := n) (a4.tin hk) (by omega) [.int 1, .int 2, .int 2, .int 2, .int 3, .int 3] (by simp) (by simp)
    have hv : ∃ s : Nat, v = natD s ∧ 1 ≤ s ∧ s ≤ 3 := by
      simp only [List.mem_cons, List.not_mem_nil, or_false] at v1
      rcases v1 with e | e | e | e | e | e
      · exact ⟨1, e, by omega, by omega⟩
      · exact ⟨2, e, by omega, by omega⟩
      · exact ⟨2, e, by omega, by omega⟩
      · exact ⟨2, e, by omega, by omega⟩
      · exact ⟨3, e, by omega, by omega⟩
      · exact ⟨3, e, by omega, by omega⟩
    obtain ⟨s, rfl, s1, s2⟩ := hv
    refine ⟨(acc ++ [natD s], h2), ?_, l ++ [s], by rw [a1]; simp, by rw [List.length_append, a2]; rfl, fun u hu => ?_, ?_⟩
    · have hcut : cutD [.int 1, .int 2, .int 2, .int 2, .int 3, .int 3] none (some (3 * 2)) = [.int 1, .int 2, .int 2, .int 2, .int 3, .int 3] := rfl
      simp only [evs1, evs2, evs3, evs4, evs5, evs6, evs7, evs8, evs9, evsF, evsH, if_true, if_false, Bool.false_eq_true, List.nil_append, Bool.not_true, Bool.not_false, List.length_cons, List.length_nil]
      rw [if_pos (show 0 + 1 + 1 + 1 + 1 + 1 + 1 ≤ most by rw [most_eq]; omega)]
      simp only [evs1, evs2, evs3, evs4, evs5, evs6, evs7, evs8, evs9, evsF, evsH, if_true, if_false, Bool.false_eq_true, List.nil_append, Bool.not_true, Bool.not_false]
      rw [if_pos (.inl (by omega))]
      simp only [evs1, evs2, evs3, evs4, evs5, evs6, evs7, evs8, evs9, evsF, evsH, if_true, if_false, Bool.false_eq_true, List.nil_append, Bool.not_true, Bool.not_false, sl_list, hcut, hc, v3]
    · rcases List.mem_append.mp hu with z | z
      · exact a3 u z
      · rw [List.mem_singleton.mp z]; exact ⟨s1, s2⟩
    · rw [show M + (m + 1) = M + m + 1 by omega]
      exact a4.trans v2)
  simp only [Nat.zero_add, List.length_map, List.length_range] at a1 a2 a4
  exact ⟨l, h', a2, a3, a4, by rw [q1, a1]⟩
abbrev hallBody : MSs := (.cons (.asg (.pt (.nm 6)) (.un .tuple (.un .sorted (.call "_law_pick" (.cons (.var 0) (.cons (.lstRg false (.var 1)) (.cons (.call "_law_of" (.cons (.var 0) (.cons (.lst false (.cons (.con (.int 0)) (.cons (.con (.int 1)) (.cons (.con (.int 1)) (.cons (.con (.int 2)) (.cons (.con (.int 2)) (.cons (.con (.int 2)) .nil))))))) .nil))) .nil))))))) (.cons (.asg (.pt (.nm 7)) (.con (.int 1))) (.cons (.for_ (.nm 8) (.seq (.var 6)) (.cons (.asg (.pt (.nm 7)) (.bin .mul (.var 7) (.bin .ix (.var 4) (.var 8)))) .nil)) (.cons (.asg (.pt (.nm 9)) (.un .tuple (.lc false (.call "_law_take" (.cons (.var 0) (.cons (.bin .ix (.var 4) (.var 3)) .nil))) (.nm 10) (.rng (.var 7)) (.con (.bool true)) [10]))) (.cons (.expr (.bin .apnd (.var 5) (.tup (.cons (.sl false (.tup (.cons (.con (.str "no")) (.cons (.con (.str "yes")) (.cons (.con (.str "zeal")) .nil)))) (.con .none) (.bin .ix (.var 4) (.var 3))) (.cons (.var 6) (.cons (.var 9) .nil)))))) .nil)))))
theorem hall_turn (t : Tin k M h) (hM : M < 2 ^ 50) (h0 : Hm) (f0 : Nat) (hf0 : f0 = h.length) (many : Nat) (hm : many ≤ 3) {sizes : List Nat} (hl : sizes.length = many) (hs : ∀ s ∈ sizes, 1 ≤ s ∧ s ≤ 3) (i : Nat) (hi : i < many) (fds : List Fd) (hfl : fds.length ≤ 3) (x2 x6 x7 x8 x9 x10 : Option EV) :
    ∃ (f : Fd) (h' : Hm) (y6 y7 y8 y9 : Option EV), FdOk sizes many i f ∧ Aft k (M + 12) h h' ∧
      evSs ⟨callN tab scr (n + 3), scr, h0.length⟩ hallBody [some (.ref k), some (.d (.int (many : Int))), x2, some (.d (natD i)), some (.d (.list (sizes.map natD))), some (.ref f0), x6, x7, x8, x9, x10] (h ++ [.lst (fds.map fdD)]) =
        some (.next, [some (.ref k), some (.d (.int (many : Int))), x2, some (.d (natD i)), some (.d (.list (sizes.map natD))), some (.ref f0), y6, y7, y8, y9, x10], h' ++ [.lst ((fds ++ [f]).map fdD)]) := by
  subst hf0
  have hk := t.lt
  -- how many it watches
  obtain ⟨v, hA, v1, v2, v3⟩ := s_of (scr := scr) (n := n + 1) (t.app (l := [.lst (fds.map fdD)])) (by omega) [.int 0, .int 1, .int 1, .int 2, .int 2, .int 2] (by simp) (by simp)
  have hv : ∃ s : Nat, v = natD s ∧ s ≤ 2 := by
    simp only [List.mem_cons, List.not_mem_nil, or_false] at v1
    rcases v1 with e | e | e | e | e | e
    · exact ⟨0, e, by omega⟩
    · exact ⟨1, e, by omega⟩
    · exact ⟨1, e, by omega⟩
    · exact ⟨2, e, by omega⟩
    · exact ⟨2, e, by omega⟩
    · exact ⟨2, e, by omega⟩
  obtain ⟨w, rfl, w2⟩ := hv
  obtain ⟨hB, b1, rfl⟩ := v2.split hk
  -- which ones
  obtain ⟨r, rest, hC, c1, c2, c3, c4⟩ := s_pick (scr := scr) (n := n + 1) ((b1.tin hk).app (l := [.lst (fds.map fdD)])) (List.range many) w (by omega) (by rw [List.length_range]; omega)
  obtain ⟨hD, d1, rfl⟩ := c3.split (by rw [b1.len]; exact hk)
  have hr : ∀ e ∈ isortN r, e < many := fun e he => by
    have := c1.mem_iff.mp (List.mem_append.mpr (.inl ((isortN_perm r).mem_iff.mp he)))
    exact List.mem_range.mp this
  have hrl : (isortN r).length ≤ 2 := by
    rw [(isortN_perm r).length_eq, c2]
    omega
  obtain ⟨y8, e8⟩ := eye_walk (h := hD ++ [.lst (fds.map fdD)]) ⟨callN tab scr (n + 3), scr, h0.length⟩ (sizes := sizes) (fun s z => (hs s z).2) (some (.ref k)) (some (.d (.int (many : Int)))) x2 (some (.d (natD i))) (some (.ref h.length)) (some (.d (.tuple ((isortN r).map natD)))) x9 x10 (isortN r) 1 x8 (fun e he => by rw [hl]; exact hr e he)
  rw [Nat.one_mul] at e8
  -- its table
  have hx : sizes[i]? = some (sizes.getD i 0) := by rw [List.getD_eq_getElem?_getD, List.getElem?_eq_getElem (by omega)]; rfl
  have hsi := hs _ (List.mem_of_getElem? hx)
  have hvol : volS sizes (isortN r) ≤ 9 := Nat.le_trans (volS_le fun s z => (hs s z).2) (Nat.le_trans (Nat.pow_le_pow_right (by omega) hrl) (by omega))
  have hD2 := (b1.trans d1)
  obtain ⟨tb, hE, t1, t2, t3, t4⟩ := takes (scr := scr) (n := n + 2) ((hD2.tin hk).app (l := [.lst (fds.map fdD)])) ⟨callN tab scr (n + 3), scr, h0.length⟩ rfl (q := sizes.getD i 0) (by omega) (by omega) (.call "_law_take" (.cons (.var 0) (.cons (.bin .ix (.var 4) (.var 3)) .nil))) 10
    [some (.ref k), some (.d (.int (many : Int))), x2, some (.d (natD i)), some (.d (.list (sizes.map natD))), some (.ref h.length), some (.d (.tuple ((isortN r).map natD))), some (.d (.int ((volS sizes (isortN r) : Nat) : Int))), y8, x9, x10] (by simp) (fun x h1 => by
      simp only [evs1, evs2, evs3, evs4, evs5, evs6, evs7, evs8, evs9, evsF, evsH, if_true, if_false, Bool.false_eq_true, List.nil_append, Bool.not_true, Bool.not_false, natD, at_map, hx, Option.map_some]) ((List.range (volS sizes (isortN r))).map natD) (by rw [List.length_map, List.length_range]; omega)
  obtain ⟨hF, f1, rfl⟩ := t3.split (by rw [hD2.len]; exact hk)
  have hlF : hF.length = h.length := f1.len.trans hD2.len
  have t1 : tb.length = volS sizes (isortN r) := by rw [t1, List.length_map, List.length_range]
  refine ⟨⟨names3.take (sizes.getD i 0), isortN r, tb⟩, hF, some (.d (.tuple ((isortN r).map natD))), some (.d (.int ((volS sizes (isortN r) : Nat) : Int))), y8, some (.d (rowD tb)), ⟨?_, ⟨hrl, hr⟩, t1, fun u hu => ?_⟩, (hD2.trans f1).mono ?_, ?_⟩
  · rw [List.length_take]
    show min _ 3 = _
    omega
  · have := t2 u hu
    rw [List.length_take]
    show u < min _ 3
    omega
  · rw [List.length_map, List.length_range]; omega
  · have l6 : [PyData.int 0, .int 1, .int 1, .int 2, .int 2, .int 2].length ≤ most := by rw [most_eq]; simp
    have lm : ((many : Int) ≤ (most : Nat) ∧ -(2 ^ 62) ≤ (many : Int)) := by rw [most_eq]; omega
    have lv : (((volS sizes (isortN r) : Nat) : Int) ≤ (most : Nat) ∧ -(2 ^ 62) ≤ ((volS sizes (isortN r) : Nat) : Int)) := by rw [most_eq]; omega
    have b0 : (h ++ [MO.lst (fds.map fdD)])[h.length]? = some (.lst (fds.map fdD)) := app_at0 ..
    have b4 : (hF ++ [MO.lst (fds.map fdD)])[h.length]? = some (.lst (fds.map fdD)) := by rw [← hlF]; exact app_at0 ..
    have b6 : (hF ++ [MO.lst (fds.map fdD)]).set h.length (.lst (fds.map fdD ++ [fdD ⟨names3.take (sizes.getD i 0), isortN r, tb⟩])) = hF ++ [MO.lst ((fds ++ [(⟨names3.take (sizes.getD i 0), isortN r, tb⟩ : Fd)]).map fdD)] := by
      rw [← hlF, set_app0]
      simp
    have hcut : cutD [PyData.str (Str.ofString "no"), .str (Str.ofString "yes"), .str (Str.ofString "zeal")] none (some ((sizes.getD i 0 : Nat) : Int)) = (names3.take (sizes.getD i 0)).map PyData.str := by
      rw [cut_to]
      show (names3.map PyData.str).take _ = _
      rw [List.map_take]
    simp only [evs1, evs2, evs3, evs4, evs5, evs6, evs7, evs8, evs9, evsF, evsH, if_true, if_false, Bool.false_eq_true, List.nil_append, Bool.not_true, Bool.not_false, if_pos l6, v3, if_pos lm, Int.toNat_natCast, rng_nat]
    rw [show (List.range many).map (fun (i : Nat) => PyData.int (i : Int)) = (List.range many).map natD from rfl, c4]
    simp only [evs1, evs2, evs3, evs4, evs5, evs6, evs7, evs8, evs9, evsF, evsH, if_true, if_false, Bool.false_eq_true, List.nil_append, Bool.not_true, Bool.not_false, sorted_nat _ _ _ (show r.length < 64 by rw [c2]; omega)]
    rw [show (1 : Int) = ((1 : Nat) : Int) from rfl] 
    rw [e8]
    simp only [evs1, evs2, evs3, evs4, evs5, evs6, evs7, evs8, evs9, evsF, evsH, if_true, if_false, Bool.false_eq_true, List.nil_append, Bool.not_true, Bool.not_false, if_pos lv, Int.toNat_natCast, rng_nat]
    rw [show (List.range (volS sizes (isortN r))).map (fun (i : Nat) => PyData.int (i : Int)) = (List.range (volS sizes (isortN r))).map natD from rfl, t4]
    simp only [evs1, evs2, evs3, evs4, evs5, evs6, evs7, evs8, evs9, evsF, evsH, if_true, if_false, Bool.false_eq_true, List.nil_append, Bool.not_true, Bool.not_false, List.length_map, t1]
    rw [if_most (by omega)]
    simp only [evs1, evs2, evs3, evs4, evs5, evs6, evs7, evs8, evs9, evsF, evsH, if_true, if_false, Bool.false_eq_true, List.nil_append, Bool.not_true, Bool.not_false, preA_ref b4, List.length_cons, List.length_nil, show 0 + 1 + 1 + 1 ≤ most from by rw [most_eq]; omega, natD, at_map, hx, Option.map_some, sl_tuple, hcut]
    rw [show PyData.tuple [.tuple ((names3.take (sizes.getD i 0)).map PyData.str), .tuple ((isortN r).map fun (n : Nat) => .int (n : Int)), .tuple (tb.map fun (n : Nat) => .int (n : Int))] = fdD ⟨names3.take (sizes.getD i 0), isortN r, tb⟩ from rfl]
    simp only [apnd_ref b4, List.length_map]
    rw [if_pos (by rw [most_eq]; omega)]
    simp only [evs1, evs2, evs3, evs4, evs5, evs6, evs7, evs8, evs9, evsF, evsH, if_true, if_false, Bool.false_eq_true, List.nil_append, Bool.not_true, Bool.not_false, b6]
    rfl
end
end K87
set_option Elab.async false
set_option linter.all false
set_option maxRecDepth 100000
set_option maxHeartbeats 2000000
/-! Sj: drawn houses, states, starts: the whole. -/
namespace K87
open PySem Mp Hs
section
variable {scr : List Int} {n : Nat} {h : Hm} {j k M : Nat} {hs : House}
theorem vol_of {sizes : List Nat} {fds : List Fd} (hl : fds.length = sizes.length) (hn : ∀ (i : Nat) (f : Fd), fds[i]? = some f → f.nm.length = sizes.getD i 0) : ∀ (es : List Nat), (∀ e ∈ es, e < sizes.length) → vol fds es = volS sizes es
  | [], _ => rfl
  | e :: es, he => by
    have h1 := he e (List.mem_cons_self ..)
    have hf := List.getElem?_eq_getElem (show e < fds.length by omega)
    show sz fds e * vol fds es = sizes.getD e 0 * volS sizes es
    rw [sz_at hf, hn e _ hf, vol_of hl hn es fun e he' => he e (List.mem_cons_of_mem _ he')]
theorem s_hall (t : Tin k M h) (hM : M < 2 ^ 49) (many : Nat) (hm : many ≤ 3) :
    ∃ (hs : House) (h' : Hm), WF hs ∧ hs.length = many ∧ Aft k (M + 50) h h' ∧ callN tab scr (n + 4) "_law_hall" none [.ref k, .d (.int (many : Int)), .d (.int 3)] h = some (.d (hsD hs), h') := by
  have hk := t.lt
  obtain ⟨sizes, hA, a1, a2, a3, a4⟩ := sizes_drawn (scr := scr) (n := n + 1) t (by omega) ⟨callN tab scr (n + 3), scr, h.length⟩ rfl many (by omega) (some (.d (.int (many : Int)))) (some (.d (.int 3))) none none none none none none none rfl
  rw [callN_eq fd__law_hall rfl]
  show ∃ (hs : House) (h' : Hm), WF hs ∧ hs.length = many ∧ Aft k (M + 50) h h' ∧ kEnd _ _ (evSs _ f__law_hall.body [some _, some _, some _, none, none, none, none, none, none, none, none] h) = _
  have lm : ((many : Int) ≤ (most : Nat) ∧ -(2 ^ 62) ≤ (many : Int)) := by rw [most_eq]; omega
  obtain ⟨⟨out, env', h'⟩, q1, q2, ⟨fds, hB, b1, b2, b3, b4, y3, y6, y7, y8, y9, b5⟩⟩ := forL_inv (step := fturn ⟨callN tab scr (n + 3), scr, h.length⟩ (.nm 3) hallBody)
    (I := fun i env h1 => ∃ (fds : List Fd) (h2 : Hm), h1 = h2 ++ [.lst (fds.map fdD)] ∧ fds.length = i ∧ (∀ (a : Nat) (f : Fd), fds[a]? = some f → FdOk sizes many a f) ∧ Aft k (M + 3 + 12 * i) h h2 ∧ ∃ y3 y6 y7 y8 y9, env = [some (.ref k), some (.d (.int (many : Int))), some (.d (.int 3)), y3, some (.d (.list (sizes.map natD))), some (.ref h.length), y6, y7, y8, y9, none])
    ((List.range many).map natD) 0 [some (.ref k), some (.d (.int (many : Int))), some (.d (.int 3)), none, some (.d (.list (sizes.map natD))), some (.ref h.length), none, none, none, none, none] (hA ++ [.lst []])
    ⟨[], hA, rfl, rfl, by simp, a3.mono (by omega), none, none, none, none, none, rfl⟩ (fun i y hy env h1 ⟨fds, h2, b1, b2, b3, b4, y3, y6, y7, y8, y9, b5⟩ => by
      rw [Nat.zero_add] at b2 b4 ⊢
      have hi : i < many := by
        by_cases hi : i < many
        · exact hi
        · rw [List.getElem?_map, List.getElem?_eq_none (by rw [List.length_range]; omega)] at hy
          cases hy
      rw [List.getElem?_map, List.getElem?_range hi] at hy
      cases hy
      subst b1 b5
      obtain ⟨f, h3, z6, z7, z8, z9, c1, c2, c3⟩ := hall_turn (scr := scr) (n := n) (b4.tin hk) (by omega) h h.length b4.len.symm many hm a1 a2 i hi fds (by omega) (some (.d (.int 3))) y6 y7 y8 y9 none
      refine ⟨(.next, [some (.ref k), some (.d (.int (many : Int))), some (.d (.int 3)), some (.d (natD i)), some (.d (.list (sizes.map natD))), some (.ref h.length), z6, z7, z8, z9, none], h3 ++ [.lst ((fds ++ [f]).map fdD)]), ?_, rfl, fds ++ [f], h3, rfl, by rw [List.length_append, b2]; rfl, fun a g hg => ?_, (b4.trans c2).mono (by omega), some (.d (natD i)), z6, z7, z8, z9, rfl⟩
      · rw [fturn_nm]
        exact c3
      · by_cases ha : a < fds.length
        · rw [List.getElem?_append_left ha] at hg
          exact b3 a g hg
        · rw [List.getElem?_append_right (by omega)] at hg
          have : a = i := by
            have := (List.getElem?_eq_some_iff.mp hg).1
            simp at this
            omega
          subst this
          rw [b2, Nat.sub_self] at hg
          cases hg
          exact c1)
  simp only [Nat.zero_add, List.length_map, List.length_range] at b1 b2 b3 b4 b5 q1 q2
  subst b1 b5 q2
  have hn : ∀ (i : Nat) (f : Fd), fds[i]? = some f → f.nm.length = sizes.getD i 0 := fun i f hf => (b3 i f hf).nm
  have all : ∀ f ∈ fds, ∃ i, i < many ∧ FdOk sizes many i f := fun f hf => by
    obtain ⟨i, hi⟩ := List.mem_iff_getElem?.mp hf
    exact ⟨i, by have := (List.getElem?_eq_some_iff.mp hi).1; omega, b3 i f hi⟩
  refine ⟨fds, hB, ⟨by omega, fun f hf => ?_, fun f hf => ?_, fun f hf => ?_, fun f hf => ?_⟩, b2, b4.mono (by omega), ?_⟩
  · obtain ⟨i, hi, o⟩ := all f hf
    rw [o.nm, List.getD_eq_getElem?_getD, List.getElem?_eq_getElem (by omega)]
    exact a2 _ (List.getElem_mem _)
  · obtain ⟨i, hi, o⟩ := all f hf
    rw [b2]
    exact o.ey
  · obtain ⟨i, hi, o⟩ := all f hf
    rw [o.tb]
    exact (vol_of (by omega) hn _ fun e he => by rw [a1]; exact o.ey.2 e he).symm
  · obtain ⟨i, hi, o⟩ := all f hf
    exact o.vl
  · have e0 : (hB ++ [MO.lst (fds.map fdD)])[h.length]? = some (.lst (fds.map fdD)) := by rw [← b4.len]; exact app_at0 ..
    simp only [f__law_hall, evs1, evs2, evs3, evs4, evs5, evs6, evs7, evs8, evs9, evsF, evsH, if_true, if_false, Bool.false_eq_true, List.nil_append, Bool.not_true, Bool.not_false, if_pos lm, Int.toNat_natCast, rng_nat]
    rw [show (List.range many).map (fun (i : Nat) => PyData.int (i : Int)) = (List.range many).map natD from rfl, a4]
    simp only [evs1, evs2, evs3, evs4, evs5, evs6, evs7, evs8, evs9, evsF, evsH, if_true, if_false, Bool.false_eq_true, List.nil_append, Bool.not_true, Bool.not_false, List.length_map, a1, if_most (show many < 16777216 by omega), List.length_nil, Nat.zero_le, a3.len, if_pos lm, Int.toNat_natCast, rng_nat]
    rw [show (List.range many).map (fun (i : Nat) => PyData.int (i : Int)) = (List.range many).map natD from rfl, q1]
    simp only [evs1, evs2, evs3, evs4, evs5, evs6, evs7, evs8, evs9, evsF, evsH, if_true, if_false, Bool.false_eq_true, List.nil_append, Bool.not_true, Bool.not_false, tuple_ref e0, b4.take]
    rfl
theorem s_spot (w : WF hs) (t : Tin k M h) (hM : M < 2 ^ 49) : ∃ (st : List Nat) (h' : Hm), StOk hs st ∧ Aft k (M + 3) h h' ∧ callN tab scr (n + 2) "_law_spot" none [.ref k, .d (hsD hs)] h = some (.d (rowD st), h') := by
  have hk := t.lt
  rw [callN_eq fd__law_spot rfl]
  show ∃ (st : List Nat) (h' : Hm), StOk hs st ∧ Aft k (M + 3) h h' ∧ kEnd _ _ (evSs _ f__law_spot.body [some _, some _, none] h) = _
  obtain ⟨⟨acc, h'⟩, q1, ⟨l, a1, a2, a3, a4⟩⟩ := compL_inv (step := turn ⟨callN tab scr (n + 1), scr, h.length⟩ (.call "_law_take" (.cons (.var 0) (.cons (.un .len (.bin .ix (.var 2) (.con (.int 0)))) .nil))) (.nm 2) (.con (.bool true)) [2] [some (.ref k), some (.d (hsD hs)), none])
    (fun m acc h1 => ∃ l : List Nat, acc = l.map natD ∧ l.length = m ∧ (∀ (a s : Nat), l[a]? = some s → s < sz hs a) ∧ Aft k (M + m) h h1) (hs.map fdD) 0 [] h ⟨[], rfl, rfl, by simp, t.refl⟩ (fun m x hx acc h1 ⟨l, a1, a2, a3, a4⟩ => by
    rw [Nat.zero_add] at a2 a4 ⊢
    rw [List.getElem?_map] at hx
    obtain ⟨f, hf, rfl⟩ := Option.map_eq_some_iff.mp hx
    have hm := (List.getElem?_eq_some_iff.mp hf).1
    have hnm := w.nm f (List.mem_of_getElem? hf)
    have hln := w.ln
    obtain ⟨v, h2, v1, v2, v3⟩ := s_take (scr := scr) (n := n) (a4.tin hk) (by omega) (q := f.nm.length) (by omega) (by omega)
    refine ⟨(acc ++ [natD v], h2), ?_, l ++ [v], by rw [a1]; simp, by rw [List.length_append, a2]; rfl, fun a s hs' => ?_, ?_⟩
    · simp only [evs1, evs2, evs3, evs4, evs5, evs6, evs7, evs8, evs9, evsF, evsH, if_true, if_false, Bool.false_eq_true, List.nil_append, Bool.not_true, Bool.not_false, evsD, List.length_map, v3]
    · by_cases ha : a < l.length
      · rw [List.getElem?_append_left ha] at hs'
        exact a3 a s hs'
      · rw [List.getElem?_append_right (by omega)] at hs'
        have : a = m := by
          have := (List.getElem?_eq_some_iff.mp hs').1
          simp at this
          omega
        subst this
        rw [a2, Nat.sub_self] at hs'
        cases hs'
        rw [sz_at hf]
        exact v1
    · rw [show M + (m + 1) = M + m + 1 by omega]
      exact a4.trans v2)
  simp only [Nat.zero_add, List.length_map] at a1 a2 a4
  have hln := w.ln
  refine ⟨l, h', ⟨a2, fun j hj => ?_⟩, a4.mono (by omega), ?_⟩
  · exact a3 j _ (sAt_at (by omega))
  · simp only [f__law_spot, evs1, evs2, evs3, evs4, evs5, evs6, evs7, evs8, evs9, evsF, evsH, if_true, if_false, Bool.false_eq_true, List.nil_append, Bool.not_true, Bool.not_false, evsD]
    rw [q1]
    subst a1
    simp only [evs1, evs2, evs3, evs4, evs5, evs6, evs7, evs8, evs9, evsF, evsH, if_true, if_false, Bool.false_eq_true, List.nil_append, Bool.not_true, Bool.not_false, List.length_map, a2]
    rw [if_most (by omega)]
    simp only [evs1, evs2, evs3, evs4, evs5, evs6, evs7, evs8, evs9, evsF, evsH, if_true, if_false, Bool.false_eq_true, List.nil_append, Bool.not_true, Bool.not_false, a4.take0]
    rfl
end
end K87
set_option Elab.async false
set_option linter.all false
set_option maxRecDepth 100000
set_option maxHeartbeats 2000000
/-! Sk: drawn starts; a Board begins. -/
namespace K87
open PySem Mp Hs
section
variable {scr : List Int} {n : Nat} {h : Hm} {j k M : Nat} {hs : House} {f : Fd}
abbrev moreCond : ME := .or (.bin .eq (.var 7) (.var 5)) (.bin .eq (.call "_law_take" (.cons (.var 0) (.cons (.con (.int 4)) .nil))) (.con (.int 0)))
theorem eq_nat (x y : Nat) : (((x : Nat) : Int) == ((y : Nat) : Int)) = decide (x = y) := by
  by_cases z : x = y
  · rw [z]; simp
  · rw [decide_eq_false z]
    exact beq_false_of_ne (by omega)
theorem more_drawn (t : Tin k M h) (hM : M < 2 ^ 49) (c : Cl) (hc : c.call = callN tab scr (n + 1)) (own size : Nat) (hsz : size ≤ 1000) (e1 e2 e3 e4 e6 : Option EV) :
    ∃ (l : List Nat) (h' : Hm), Asc l ∧ (∀ x ∈ l, x < size) ∧ (own < size → own ∈ l) ∧ Aft k (M + size) h h' ∧
      compL (turn c (.var 7) (.nm 7) moreCond [7] [some (.ref k), e1, e2, e3, e4, some (.d (natD own)), e6, none]) ((List.range size).map natD) [] h = some (l.map natD, h') := by
  have hk := t.lt
  obtain ⟨⟨acc, h'⟩, q1, ⟨l, a1, a2, a3, a4, a5⟩⟩ := compL_inv (step := turn c (.var 7) (.nm 7) moreCond [7] [some (.ref k), e1, e2, e3, e4, some (.d (natD own)), e6, none])
    (fun m acc h1 => ∃ l : List Nat, acc = l.map natD ∧ Asc l ∧ (∀ x ∈ l, x < m) ∧ (own < m → own ∈ l) ∧ Aft k (M + m) h h1) ((List.range size).map natD) 0 [] h ⟨[], rfl, List.Pairwise.nil, by simp, by omega, t.refl⟩ (fun m x hx acc h1 ⟨l, a1, a2, a3, a4, a5⟩ => by
    rw [Nat.zero_add] at a3 a4 a5 ⊢
    have hm := (List.getElem?_eq_some_iff.mp hx).1
    rw [List.length_map, List.length_range] at hm
    rw [List.getElem?_map, List.getElem?_range hm] at hx
    cases hx
    have asc2 : Asc (l ++ [m]) := List.pairwise_append.mpr ⟨a2, List.pairwise_singleton _ _, fun p hp q hq => by rw [List.mem_singleton.mp hq]; exact a3 p hp⟩
    have lt2 : ∀ x ∈ l ++ [m], x < m + 1 := fun x hx => by
      rcases List.mem_append.mp hx with z | z
      · have := a3 x z; omega
      · rw [List.mem_singleton.mp z]; omega
    by_cases e : m = own
    · refine ⟨(acc ++ [natD m], h1), ?_, l ++ [m], by rw [a1]; simp, asc2, lt2, fun _ => by rw [e]; simp, a5.mono (by omega)⟩
      simp only [evs1, evs2, evs3, evs4, evs5, evs6, evs7, evs8, evs9, evsF, evsH, if_true, if_false, Bool.false_eq_true, List.nil_append, Bool.not_true, Bool.not_false, natD, PyData.depth, PyData.eqv, Nat.zero_le, eq_nat, decide_eq_true e]
    · obtain ⟨v, h2, v1, v2, v3⟩ := s_take (scr := scr) (n := n) (a5.tin hk) (by omega) (q := 4) (by omega) (by omega)
      have v3 : callN tab scr (n + 1) "_law_take" none [.ref k, .d (.int 4)] h1 = some (.d (.int (v : Int)), h2) := v3
      by_cases ev : v = 0
      · refine ⟨(acc ++ [natD m], h2), ?_, l ++ [m], by rw [a1]; simp, asc2, lt2, fun q => List.mem_append.mpr (.inl (a4 (by omega))), (a5.trans v2).mono (by omega)⟩
        subst ev
        simp only [evs1, evs2, evs3, evs4, evs5, evs6, evs7, evs8, evs9, evsF, evsH, if_true, if_false, Bool.false_eq_true, List.nil_append, Bool.not_true, Bool.not_false, natD, PyData.depth, PyData.eqv, Nat.zero_le, eq_nat, decide_eq_false e, hc, v3]
        rfl
      · refine ⟨(acc, h2), ?_, l, a1, a2, fun x hx => by have := a3 x hx; omega, fun q => a4 (by omega), (a5.trans v2).mono (by omega)⟩
        have ev2 : (((v : Nat) : Int) == 0) = false := beq_false_of_ne (by omega)
        simp only [evs1, evs2, evs3, evs4, evs5, evs6, evs7, evs8, evs9, evsF, evsH, if_true, if_false, Bool.false_eq_true, List.nil_append, Bool.not_true, Bool.not_false, natD, PyData.depth, PyData.eqv, Nat.zero_le, eq_nat, decide_eq_false e, hc, v3, ev2])
  simp only [Nat.zero_add, List.length_map, List.length_range] at a1 a3 a4 a5
  exact ⟨l, h', a2, a3, a4, a5, by rw [q1, a1]⟩
abbrev startBody : MSs := (.cons (.asg (.pt (.nm 6)) (.lc false (.var 7) (.nm 7) (.rng (.un .len (.bin .ix (.bin .ix (.var 1) (.var 4)) (.con (.int 0))))) moreCond [7])) (.cons (.expr (.bin .apnd (.var 3) (.un .tuple (.var 6)))) .nil))
theorem s_start (w : WF hs) (t : Tin k M h) (hM : M < 2 ^ 48) : ∃ (st : List Nat) (old : Box) (h' : Hm), StOk hs st ∧ BoxNe hs old ∧ (∀ j, j < hs.length → sAt st j ∈ bAt old j) ∧ Aft k (M + 20) h h' ∧
    callN tab scr (n + 3) "_law_start" none [.ref k, .d (hsD hs)] h = some (.d (.tuple [rowD st, boxD old]), h') := by
  have hk := t.lt
  have hln := w.ln
  obtain ⟨st, hA, a1, a2, a3⟩ := s_spot (scr := scr) (n := n) w t (by omega)
  rw [callN_eq fd__law_start rfl]
  show ∃ (st : List Nat) (old : Box) (h' : Hm), StOk hs st ∧ BoxNe hs old ∧ (∀ j, j < hs.length → sAt st j ∈ bAt old j) ∧ Aft k (M + 20) h h' ∧ kEnd _ _ (evSs _ f__law_start.body [some _, some _, none, none, none, none, none, none] h) = _
  obtain ⟨⟨out, env', h'⟩, q1, q2, ⟨old, hB, b1, b2, b3, b4, y4, y5, y6, b5⟩⟩ := forL_inv (step := fturn ⟨callN tab scr (n + 2), scr, h.length⟩ (.tup (.cons (.nm 4) (.cons (.nm 5) .nil))) startBody)
    (I := fun i env h1 => ∃ (old : Box) (h2 : Hm), h1 = h2 ++ [.lst (old.map rowD)] ∧ old.length = i ∧ (∀ (a : Nat) (r : List Nat), old[a]? = some r → Asc r ∧ (∀ x ∈ r, x < sz hs a) ∧ sAt st a ∈ r) ∧ Aft k (M + 3 + 3 * i) h h2 ∧ ∃ y4 y5 y6, env = [some (.ref k), some (.d (hsD hs)), some (.d (rowD st)), some (.ref h.length), y4, y5, y6, none])
    (st.zipIdx.map fun p => PyData.tuple [.int (p.2 : Int), natD p.1]) 0 [some (.ref k), some (.d (hsD hs)), some (.d (rowD st)), some (.ref h.length), none, none, none, none] (hA ++ [.lst []])
    ⟨[], hA, rfl, rfl, by simp, a2, none, none, none, rfl⟩ (fun i y hy env h1 ⟨old, h2, b1, b2, b3, b4, y4, y5, y6, b5⟩ => by
      rw [Nat.zero_add] at b2 b4 ⊢
      have hi : i < st.length := by
        by_cases hi : i < st.length
        · exact hi
        · rw [List.getElem?_map, List.getElem?_zipIdx, List.getElem?_eq_none (by omega)] at hy
          cases hy
      have hih : i < hs.length := by rw [← a1.len]; exact hi
      rw [List.getElem?_map, List.getElem?_zipIdx, sAt_at hi] at hy
      simp only [Option.map_some, Nat.zero_add, Option.some.injEq] at hy
      subst hy b1 b5
      obtain ⟨f, hf⟩ : ∃ f, hs[i]? = some f := ⟨_, List.getElem?_eq_getElem hih⟩
      have hnm := w.nm f (List.mem_of_getElem? hf)
      have hsz := sz_at hf
      obtain ⟨l, h3, c1, c2, c3, c4, c5⟩ := more_drawn (scr := scr) (n := n + 1) ((b4.tin hk).app (l := [.lst (old.map rowD)])) (by omega) ⟨callN tab scr (n + 2), scr, h.length⟩ rfl (sAt st i) f.nm.length (by omega) (some (.d (hsD hs))) (some (.d (rowD st))) (some (.ref h.length)) (some (.d (.int (i : Int)))) y6
      obtain ⟨h4, d1, rfl⟩ := c4.split (by rw [b4.len]; exact hk)
      have hl4 : h4.length = h.length := d1.len.trans b4.len
      have hll : l.length ≤ 3 := Nat.le_trans (asc_len c1 c2) hnm.2
      have b0 : (h2 ++ [MO.lst (old.map rowD)])[h.length]? = some (.lst (old.map rowD)) := by rw [← b4.len]; exact app_at0 ..
      have b4' : (h4 ++ [MO.lst (old.map rowD)])[h.length]? = some (.lst (old.map rowD)) := by rw [← hl4]; exact app_at0 ..
      have b6 : (h4 ++ [MO.lst (old.map rowD)]).set h.length (.lst (old.map rowD ++ [rowD l])) = h4 ++ [MO.lst ((old ++ [l]).map rowD)] := by
        rw [← hl4, set_app0]
        simp
      have lm : (((f.nm.length : Nat) : Int) ≤ (most : Nat) ∧ -(2 ^ 62) ≤ ((f.nm.length : Nat) : Int)) := by rw [most_eq]; omega
      refine ⟨(.next, [some (.ref k), some (.d (hsD hs)), some (.d (rowD st)), some (.ref h.length), some (.d (.int (i : Int))), some (.d (natD (sAt st i))), some (.d (.list (l.map natD))), none], h4 ++ [.lst ((old ++ [l]).map rowD)]), ?_, rfl, old ++ [l], h4, rfl, by rw [List.length_append, b2]; rfl, fun a r hr => ?_, (b4.trans d1).mono (by omega), _, _, _, rfl⟩
      · simp only [evs1, evs2, evs3, evs4, evs5, evs6, evs7, evs8, evs9, evsF, evsH, if_true, if_false, Bool.false_eq_true, List.nil_append, Bool.not_true, Bool.not_false, evsD, hf, List.length_map, if_pos lm, Int.toNat_natCast, rng_nat]
        rw [show (List.range f.nm.length).map (fun (i : Nat) => PyData.int (i : Int)) = (List.range f.nm.length).map natD from rfl, c5]
        simp only [evs1, evs2, evs3, evs4, evs5, evs6, evs7, evs8, evs9, evsF, evsH, if_true, if_false, Bool.false_eq_true, List.nil_append, Bool.not_true, Bool.not_false, List.length_map, if_most (show l.length < 16777216 by omega), preA_ref b4']
        rw [show PyData.tuple (l.map natD) = rowD l from rfl]
        simp only [apnd_ref b4', List.length_map]
        rw [if_pos (by rw [most_eq]; have := a1.len; omega)]
        simp only [evs1, evs2, evs3, evs4, evs5, evs6, evs7, evs8, evs9, evsF, evsH, if_true, if_false, Bool.false_eq_true, List.nil_append, Bool.not_true, Bool.not_false, b6]
      · by_cases ha : a < old.length
        · rw [List.getElem?_append_left ha] at hr
          exact b3 a r hr
        · rw [List.getElem?_append_right (by omega)] at hr
          have : a = i := by
            have := (List.getElem?_eq_some_iff.mp hr).1
            simp at this
            omega
          subst this
          rw [b2, Nat.sub_self] at hr
          cases hr
          exact ⟨c1, by rw [hsz]; exact c2, c3 (by rw [← hsz]; exact a1.lt a hih)⟩)
  simp only [Nat.zero_add, List.length_map, List.length_zipIdx] at b1 b2 b3 b4 b5 q1 q2
  subst b1 b5 q2
  have b2 : old.length = hs.length := b2.trans a1.len
  refine ⟨st, old, hB, a1, ⟨⟨b2, fun r hr => ?_, fun j r hr x hx => (b3 j r hr).2.1 x hx⟩, fun r hr => ?_⟩, fun j hj => (b3 j _ (at_bAt (by omega))).2.2, b4.mono (by have := a1.len; omega), ?_⟩
  · obtain ⟨a, ha⟩ := List.mem_iff_getElem?.mp hr
    exact (b3 a r ha).1
  · obtain ⟨a, ha⟩ := List.mem_iff_getElem?.mp hr
    exact List.ne_nil_of_mem (b3 a r ha).2.2
  · have e0 : (hB ++ [MO.lst (old.map rowD)])[h.length]? = some (.lst (old.map rowD)) := by rw [← b4.len]; exact app_at0 ..
    simp only [f__law_start, evs1, evs2, evs3, evs4, evs5, evs6, evs7, evs8, evs9, evsF, evsH, if_true, if_false, Bool.false_eq_true, List.nil_append, Bool.not_true, Bool.not_false, evsD, a3, a2.len, List.length_nil, Nat.zero_le]
    rw [enum_map, q1]
    simp only [evs1, evs2, evs3, evs4, evs5, evs6, evs7, evs8, evs9, evsF, evsH, if_true, if_false, Bool.false_eq_true, List.nil_append, Bool.not_true, Bool.not_false, tuple_ref e0, List.length_cons, List.length_nil, show 0 + 1 + 1 ≤ most from by rw [most_eq]; omega, b4.take]
    rfl
end
end K87
set_option Elab.async false
set_option linter.all false
set_option maxRecDepth 100000
set_option maxHeartbeats 2000000
/-! Sl: a Board begins. -/
namespace K87
open PySem Mp Hs
def rowOf (v : Nat) (lot : List Nat) : List Nat := lot.filter (fun x => !decide (x = v)) ++ [v]
def verOf (row : List Nat) : Ver := row.zipIdx.map fun p => (p.2, p.1)
def beginV (st : List Nat) (old : Box) : List Ver := (st.zip old).map fun q => verOf (rowOf q.1 q.2)
def startD (st : List Nat) (old : Box) : D := .tuple [rowD st, boxD old]
theorem verOf_D (row : List Nat) : enumD (row.map natD) = (verOf row).map pairD := by
  rw [enum_map]
  unfold verOf
  rw [List.map_map]
  rfl
theorem plain_fd {f : Fd} (h1 : f.nm.length < 100000) (h2 : f.ey.length < 100000) (h3 : f.tb.length < 100000) : plainT (fdD f) = true := by
  unfold fdD plainT
  simp only [List.length_cons, List.length_nil, plainTs, plain_row h2, plain_row h3, Bool.and_true, Bool.true_and]
  rw [decide_eq_true (show 0 + 1 + 1 + 1 < 100000 by omega)]
  unfold plainT
  rw [List.length_map, decide_eq_true h1]
  simp only [Bool.true_and]
  refine plainTs_of fun x hx => ?_
  obtain ⟨y, _, e⟩ := List.mem_map.mp hx
  rw [← e]
  rfl
theorem depth_strs : ∀ (l : List Str), PyData.depthAll (l.map PyData.str) = 0
  | [] => rfl
  | x :: r => by simp only [List.map_cons, PyData.depthAll, PyData.depth, depth_strs r, Nat.max_self]
theorem depth_fd (f : Fd) : PyData.depth (fdD f) ≤ 2 := by
  unfold fdD
  simp only [PyData.depth, PyData.depthAll, depth_row, depth_strs]
  omega
theorem depth_fds : ∀ (hs : House), PyData.depthAll (hs.map fdD) ≤ 2
  | [] => Nat.zero_le _
  | f :: hs => by
    have h1 := depth_fds hs
    have h2 := depth_fd f
    simp only [List.map_cons, PyData.depthAll]
    omega
theorem vol_small {hs : House} (w : WF hs) : ∀ (es : List Nat), vol hs es ≤ 3 ^ es.length
  | [] => Nat.le_refl _
  | e :: r => by
    show sz hs e * vol hs r ≤ 3 ^ (r.length + 1)
    rw [Nat.pow_succ, Nat.mul_comm (3 ^ r.length)]
    exact Nat.mul_le_mul (w.sz_le e) (vol_small w r)
theorem tb_le {hs : House} (w : WF hs) {f : Fd} (hf : f ∈ hs) : f.tb.length ≤ 9 := by
  rw [w.tb f hf]
  exact Nat.le_trans (vol_small w _) (Nat.le_trans (Nat.pow_le_pow_right (by omega) (w.ey f hf).1) (by omega))
theorem plain_hs {hs : House} (w : WF hs) : plainT (hsD hs) = true := by
  unfold hsD plainT
  rw [List.length_map, decide_eq_true (by have := w.ln; omega)]
  refine plainTs_of fun x hx => ?_
  obtain ⟨f, hf, e⟩ := List.mem_map.mp hx
  rw [← e]
  exact plain_fd (by have := (w.nm f hf).2; omega) (by have := (w.ey f hf).1; omega) (by have := tb_le w hf; omega)
theorem depth_hs (hs : House) : PyData.depth (hsD hs) ≤ 3 := by
  unfold hsD
  rw [PyData.depth]
  have := depth_fds hs
  omega
theorem plain_start {hs : House} (w : WF hs) {st : List Nat} {old : Box} (hl : st.length = hs.length) (o : BoxOk hs old) : plainT (startD st old) = true := by
  unfold startD plainT
  simp only [List.length_cons, List.length_nil, plainTs, BoxOk.plain w o, plain_row (show st.length < 100000 by have := w.ln; omega), Bool.and_true]
  exact decide_eq_true (by omega)
theorem depth_start (st : List Nat) (old : Box) : PyData.depth (startD st old) ≤ 3 := by
  have := depth_box2 old
  unfold startD
  simp only [PyData.depth, PyData.depthAll, depth_row]
  omega
section
variable {scr : List Int} {n : Nat} {h : Hm} {j k M : Nat} {hs : House} {f : Fd}
abbrev bvBody : MSs := (.cons (.asg (.pt (.nm 4)) (.bin (.add false) (.lc false (.var 5) (.nm 5) (.seq (.var 3)) (.bin .ne (.var 5) (.var 2)) [5]) (.lst false (.cons (.var 2) .nil)))) (.cons (.expr (.bin .apnd (.var 1) (.tupEn (.var 4)))) .nil))
theorem s_begin (st : List Nat) (old : Box) (h1 : st.length ≤ 1000) (h2 : ∀ r ∈ old, r.length ≤ 1000) : callN tab scr (n + 1) "begin_versions" none [.d (startD st old)] h = some (.d (versD (beginV st old)), h) := by
  rw [callN_eq fd_begin_versions rfl]
  show kEnd _ _ (evSs _ f_begin_versions.body [some _, none, none, none, none, none] h) = _
  have hz : zipD (st.map natD) (old.map rowD) = (st.zip old).map fun p => PyData.tuple [natD p.1, rowD p.2] := zip_maps _ _ _ _
  obtain ⟨⟨out, env', h'⟩, q1, q2, ⟨b1, y2, y3, y4, b2⟩⟩ := forL_inv (step := fturn ⟨callN tab scr n, scr, h.length⟩ (.tup (.cons (.nm 2) (.cons (.nm 3) .nil))) bvBody)
    (I := fun i env h1 => h1 = h ++ [.lst (((st.zip old).take i).map fun q => verD (verOf (rowOf q.1 q.2)))] ∧ ∃ y2 y3 y4, env = [some (.d (startD st old)), some (.ref h.length), y2, y3, y4, none])
    ((st.zip old).map fun p => PyData.tuple [natD p.1, rowD p.2]) 0 [some (.d (startD st old)), some (.ref h.length), none, none, none, none] (h ++ [.lst []])
    ⟨rfl, none, none, none, rfl⟩ (fun i y hy env h1 ⟨b1, y2, y3, y4, b2⟩ => by
      rw [Nat.zero_add] at b1 ⊢
      rw [List.getElem?_map] at hy
      obtain ⟨q, hq, rfl⟩ := Option.map_eq_some_iff.mp hy
      subst b1 b2
      have hi := (List.getElem?_eq_some_iff.mp hq).1
      have hql := h2 q.2 (List.of_mem_zip (List.mem_of_getElem? hq)).2
      have htl : ((st.zip old).take i).length ≤ 1000 := by
        rw [List.length_take, List.length_zip]; omega
      have e0 : (h ++ [MO.lst (((st.zip old).take i).map fun q => verD (verOf (rowOf q.1 q.2)))])[h.length]? = some (.lst (((st.zip old).take i).map fun q => verD (verOf (rowOf q.1 q.2)))) := app_at0 ..
      have ht : (st.zip old).take (i + 1) = (st.zip old).take i ++ [q] := by
        rw [List.take_add_one, hq]; rfl
      refine ⟨(.next, [some (.d (startD st old)), some (.ref h.length), some (.d (natD q.1)), some (.d (rowD q.2)), some (.d (.list ((rowOf q.1 q.2).map natD))), none], h ++ [.lst (((st.zip old).take (i + 1)).map fun q => verD (verOf (rowOf q.1 q.2)))]), ?_, rfl, rfl, _, _, _, rfl⟩
      have e3 := compL_filter (step := turn ⟨callN tab scr n, scr, h.length⟩ (.var 5) (.nm 5) (.bin .ne (.var 5) (.var 2)) [5] [some (.d (startD st old)), some (.ref h.length), some (.d (natD q.1)), some (.d (rowD q.2)), y4, none]) (i := natD) (p := fun x => !decide (x = q.1)) (g := natD) (h := h ++ [MO.lst (((st.zip old).take i).map fun q => verD (verOf (rowOf q.1 q.2)))]) q.2 [] (fun x hx acc => by
        simp only [evs1, evs2, evs3, evs4, evs5, evs6, evs7, evs8, evs9, evsF, evsH, if_true, if_false, Bool.false_eq_true, List.nil_append, Bool.not_true, Bool.not_false, natD, PyData.depth, PyData.eqv, Nat.zero_le, eq_nat]
        cases decide (x = q.1) <;> simp only [evs1, evs2, evs3, evs4, evs5, evs6, evs7, evs8, evs9, evsF, evsH, if_true, if_false, Bool.false_eq_true, List.nil_append, Bool.not_true, Bool.not_false])
      have hfl : (q.2.filter fun x => !decide (x = q.1)).length ≤ q.2.length := List.length_filter_le _ _
      simp only [evs1, evs2, evs3, evs4, evs5, evs6, evs7, evs8, evs9, evsF, evsH, if_true, if_false, Bool.false_eq_true, List.nil_append, Bool.not_true, Bool.not_false, evsD]
      rw [e3]
      simp only [evs1, evs2, evs3, evs4, evs5, evs6, evs7, evs8, evs9, evsF, evsH, if_true, if_false, Bool.false_eq_true, List.nil_append, Bool.not_true, Bool.not_false, List.length_map, if_most (show (q.2.filter fun x => !decide (x = q.1)).length < 16777216 by omega), List.length_singleton, show 1 ≤ most from by rw [most_eq]; omega]
      rw [if_pos (by rw [most_eq]; omega)]
      have er : (q.2.filter fun x => !decide (x = q.1)).map natD ++ [natD q.1] = (rowOf q.1 q.2).map natD := by unfold rowOf; simp
      simp only [er, evs1, evs2, evs3, evs4, evs5, evs6, evs7, evs8, evs9, evsF, evsH, if_true, if_false, Bool.false_eq_true, List.nil_append, Bool.not_true, Bool.not_false, verOf_D, preA_ref e0]
      rw [show PyData.tuple ((verOf (rowOf q.1 q.2)).map pairD) = verD (verOf (rowOf q.1 q.2)) from rfl]
      simp only [apnd_ref e0, List.length_map]
      rw [if_pos (by rw [most_eq]; omega)]
      simp only [evs1, evs2, evs3, evs4, evs5, evs6, evs7, evs8, evs9, evsF, evsH, if_true, if_false, Bool.false_eq_true, List.nil_append, Bool.not_true, Bool.not_false, evsA, ht, List.map_append, List.map_cons, List.map_nil])
  simp only [Nat.zero_add, List.length_map, List.take_length] at b1 b2 q1 q2
  subst b1 b2 q2
  have e0 : (h ++ [MO.lst ((st.zip old).map fun q => verD (verOf (rowOf q.1 q.2)))])[h.length]? = some (.lst ((st.zip old).map fun q => verD (verOf (rowOf q.1 q.2)))) := app_at0 ..
  have hD : startD st old = .tuple [rowD st, boxD old] := rfl
  simp only [f_begin_versions, evs1, evs2, evs3, evs4, evs5, evs6, evs7, evs8, evs9, evsF, evsH, if_true, if_false, Bool.false_eq_true, List.nil_append, Bool.not_true, Bool.not_false, hD, evsD, List.length_nil, Nat.zero_le, hz]
  rw [← hD, q1]
  simp only [evs1, evs2, evs3, evs4, evs5, evs6, evs7, evs8, evs9, evsF, evsH, if_true, if_false, Bool.false_eq_true, List.nil_append, Bool.not_true, Bool.not_false, tuple_ref e0]
  unfold versD beginV
  rw [List.map_map]
  rfl
def initB (hs : House) (st : List Nat) (old : Box) : Bd := ⟨hs, startD st old, beginV st old, hs.map fun f => f.ey.map fun e => lastN (vAt (beginV st old) e), [], true, []⟩
theorem verOf_ne (v : Nat) (lot : List Nat) : verOf (rowOf v lot) ≠ [] := by
  unfold verOf rowOf
  intro h
  have := congrArg List.length h
  simp at this
theorem kFl2_any {cl f : Str} {k : Nat} {env : Ev} {x : D} {h : Hm} {l l' : List (Str × D)} (hl : l.length < 900) (q : stA.putF f x l = l') : kFl2 cl f k env x h (some (.ins cl l)) = some (env, h.set k (.ins cl l')) := by
  rw [show kFl2 cl f k env x h (some (.ins cl l)) = if cl = cl ∧ l.length < 900 then some (env, h.set k (.ins cl (stA.putF f x l))) else none from rfl, if_pos ⟨rfl, hl⟩, q]
theorem s_init (w : WF hs) {st : List Nat} {old : Box} (hst : st.length = hs.length) (o : BoxOk hs old) (e : h[k]? = some (.ins "Board" [])) : callN tab scr (n + 5) "Board" (some "__init__") [.ref k, .d (hsD hs), .d (startD st old)] h = some (.d .none, h.set k (insB (initB hs st old))) := by
  rw [callN_eq fd_Board___init__ rfl]
  show kEnd _ _ (evSs _ f_Board___init__.body [some _, some _, some _, none, none, none, none] h) = _
  have hln := w.ln
  have hvl : (beginV st old).length = hs.length := by unfold beginV; rw [List.length_map, List.length_zip, hst, o.len, Nat.min_self]
  have t1 := s_tupled (scr := scr) 3 n (hsD hs) h (plain_hs w) (depth_hs hs)
  have t2 := s_tupled (scr := scr) 3 n (startD st old) h (plain_start w hst o) (depth_start st old)
  rw [show n + 3 + 1 = n + 4 from rfl] at t1 t2
  have k1 : ∀ env h, kFl2 "Board" "own_house" k env (hsD hs) h (some (.ins "Board" [])) = some (env, h.set k (.ins "Board" [("own_house", hsD hs)])) := fun env h => kFl2_any (by simp) rfl
  have k2 : ∀ env h, kFl2 "Board" "own_start" k env (startD st old) h (some (.ins "Board" [("own_house", hsD hs)])) = some (env, h.set k (.ins "Board" [("own_house", hsD hs), ("own_start", startD st old)])) := fun env h => kFl2_any (by simp) rfl
  have k3 : ∀ env h, kFl2 "Board" "own_versions" k env (versD (beginV st old)) h (some (.ins "Board" [("own_house", hsD hs), ("own_start", startD st old)])) = some (env, h.set k (.ins "Board" [("own_house", hsD hs), ("own_start", startD st old), ("own_versions", versD (beginV st old))])) := fun env h => kFl2_any (by simp) rfl
  have k4 : ∀ env h, kFl2 "Board" "own_pictures" k env (boxD (initB hs st old).ps) h (some (.ins "Board" [("own_house", hsD hs), ("own_start", startD st old), ("own_versions", versD (beginV st old))])) = some (env, h.set k (.ins "Board" [("own_house", hsD hs), ("own_start", startD st old), ("own_versions", versD (beginV st old)), ("own_pictures", boxD (initB hs st old).ps)])) := fun env h => kFl2_any (by simp) rfl
  have k5 : ∀ env h, kFl2 "Board" "own_moves" k env (.tuple []) h (some (.ins "Board" [("own_house", hsD hs), ("own_start", startD st old), ("own_versions", versD (beginV st old)), ("own_pictures", boxD (initB hs st old).ps)])) = some (env, h.set k (.ins "Board" [("own_house", hsD hs), ("own_start", startD st old), ("own_versions", versD (beginV st old)), ("own_pictures", boxD (initB hs st old).ps), ("own_moves", .tuple [])])) := fun env h => kFl2_any (by simp) rfl
  have k6 : ∀ env h, kFl2 "Board" "own_free" k env (.bool true) h (some (.ins "Board" [("own_house", hsD hs), ("own_start", startD st old), ("own_versions", versD (beginV st old)), ("own_pictures", boxD (initB hs st old).ps), ("own_moves", .tuple [])])) = some (env, h.set k (.ins "Board" [("own_house", hsD hs), ("own_start", startD st old), ("own_versions", versD (beginV st old)), ("own_pictures", boxD (initB hs st old).ps), ("own_moves", .tuple []), ("own_free", .bool true)])) := fun env h => kFl2_any (by simp) rfl
  have k7 : ∀ env h, kFl2 "Board" "own_past" k env (.tuple []) h (some (.ins "Board" [("own_house", hsD hs), ("own_start", startD st old), ("own_versions", versD (beginV st old)), ("own_pictures", boxD (initB hs st old).ps), ("own_moves", .tuple []), ("own_free", .bool true)])) = some (env, h.set k (insB (initB hs st old))) := fun env h => kFl2_any (by simp) rfl
  have at_ : ∀ o', (h.set k o')[k]? = some o' := fun o' => set_at e o'
  have f1 : ∀ c, unOp c (.fld "own_start") (.ref k) (h.set k (.ins "Board" [("own_house", hsD hs), ("own_start", startD st old)])) = some (.d (startD st old), h.set k (.ins "Board" [("own_house", hsD hs), ("own_start", startD st old)])) := fun c => fld_ref (at_ _) rfl
  have f2 : ∀ c, unOp c (.fld "own_versions") (.ref k) (h.set k (.ins "Board" [("own_house", hsD hs), ("own_start", startD st old), ("own_versions", versD (beginV st old))])) = some (.d (versD (beginV st old)), h.set k (.ins "Board" [("own_house", hsD hs), ("own_start", startD st old), ("own_versions", versD (beginV st old))])) := fun c => fld_ref (at_ _) rfl
  have f3 : ∀ c, unOp c (.fld "own_house") (.ref k) (h.set k (.ins "Board" [("own_house", hsD hs), ("own_start", startD st old), ("own_versions", versD (beginV st old))])) = some (.d (hsD hs), h.set k (.ins "Board" [("own_house", hsD hs), ("own_start", startD st old), ("own_versions", versD (beginV st old))])) := fun c => fld_ref (at_ _) rfl
  have sb := s_begin (scr := scr) (n := n + 3) (h := h.set k (.ins "Board" [("own_house", hsD hs), ("own_start", startD st old)])) st old (by omega) (fun r hr => by
    obtain ⟨j, hj⟩ := List.mem_iff_getElem?.mp hr
    have := o.len_le w j
    rw [bAt_at hj] at this
    omega)
  simp only [f_Board___init__, evs1, evs2, evs3, evs4, evs5, evs6, evs7, evs8, evs9, evsF, evsH, if_true, if_false, Bool.false_eq_true, List.nil_append, Bool.not_true, Bool.not_false, t1, t2, e, k1, at_, k2, evsS, f1, sb, k3, f2, evsD]
  rw [compL_map (g := fun r => natD (lastN r))]
  · simp only [evs1, evs2, evs3, evs4, evs5, evs6, evs7, evs8, evs9, evsF, evsH, if_true, if_false, Bool.false_eq_true, List.nil_append, Bool.not_true, Bool.not_false, List.length_map, if_most (show (beginV st old).length < 16777216 by omega), f3, evsD]
    rw [compL_map (g := fun f => rowD (f.ey.map fun e => lastN (vAt (beginV st old) e)))]
    · simp only [evs1, evs2, evs3, evs4, evs5, evs6, evs7, evs8, evs9, evsF, evsH, if_true, if_false, Bool.false_eq_true, List.nil_append, Bool.not_true, Bool.not_false, List.length_map, if_most (show hs.length < 16777216 by omega)]
      rw [show PyData.tuple (hs.map fun f => rowD (f.ey.map fun e => lastN (vAt (beginV st old) e))) = boxD (initB hs st old).ps from by unfold boxD initB; rw [List.map_map]; rfl]
      simp only [at_, k4, evsS, evs1, evs2, evs3, evs4, evs5, evs6, evs7, evs8, evs9, evsF, evsH, if_true, if_false, Bool.false_eq_true, List.nil_append, Bool.not_true, Bool.not_false, List.length_nil, Nat.zero_le, k5, k6, k7]
    · intro f hf acc
      have hey := w.ey f hf
      simp only [evs1, evs2, evs3, evs4, evs5, evs6, evs7, evs8, evs9, evsF, evsH, if_true, if_false, Bool.false_eq_true, List.nil_append, Bool.not_true, Bool.not_false, evsD]
      rw [compL_map (g := fun e => natD (lastN (vAt (beginV st old) e)))]
      · simp only [evs1, evs2, evs3, evs4, evs5, evs6, evs7, evs8, evs9, evsF, evsH, if_true, if_false, Bool.false_eq_true, List.nil_append, Bool.not_true, Bool.not_false, List.length_map, if_most (show f.ey.length < 16777216 by omega)]
        rw [show PyData.tuple (f.ey.map fun e => natD (lastN (vAt (beginV st old) e))) = rowD (f.ey.map fun e => lastN (vAt (beginV st old) e)) from by unfold rowD; rw [List.map_map]; rfl]
      · intro x hx acc
        simp only [evs1, evs2, evs3, evs4, evs5, evs6, evs7, evs8, evs9, evsF, evsH, if_true, if_false, Bool.false_eq_true, List.nil_append, Bool.not_true, Bool.not_false, natD, at_map, vAt_at (vs := beginV st old) (e := x) (by rw [hvl]; exact hey.2 x hx), Option.map_some]
  · intro r hr acc
    have hn : r ≠ [] := by
      unfold beginV at hr
      obtain ⟨q, _, rfl⟩ := List.mem_map.mp hr
      exact verOf_ne _ _
    simp only [evs1, evs2, evs3, evs4, evs5, evs6, evs7, evs8, evs9, evsF, evsH, if_true, if_false, Bool.false_eq_true, List.nil_append, Bool.not_true, Bool.not_false, verD, last_at hn, evsD]
end
end K87
set_option Elab.async false
set_option linter.all false
set_option maxRecDepth 100000
set_option maxHeartbeats 2000000
/-! Sm: draws beside a Board; looks, acts, losses of one lap. -/
namespace K87
open PySem Mp Hs
/-- draws at kt, a Board at kp -/
def Two (kt kp C : Nat) (b : Bd) (h0 h : Hm) : Prop := ∃ (x y : Int) (c : Nat), c ≤ C ∧ h = (h0.set kt (tinO x y c)).set kp (insB b)
section
variable {kt kp C C' : Nat} {b b' : Bd} {h0 h h' : Hm}
theorem Two.len (t : Two kt kp C b h0 h) : h.length = h0.length := by
  obtain ⟨x, y, c, _, rfl⟩ := t
  rw [List.length_set, List.length_set]
theorem Two.bat (t : Two kt kp C b h0 h) (hp : kp < h0.length) : Bat h kp b := by
  obtain ⟨x, y, c, _, rfl⟩ := t
  rw [Bat, List.getElem?_set_self (by rw [List.length_set]; exact hp)]
theorem Two.tin (t : Two kt kp C b h0 h) (ht : kt < h0.length) (ne : kt ≠ kp) : Tin kt C h := by
  obtain ⟨x, y, c, l, rfl⟩ := t
  exact ⟨x, y, c, by rw [List.getElem?_set_ne (Ne.symm ne), List.getElem?_set_self ht], l⟩
theorem Two.draw (t : Two kt kp C b h0 h) (ne : kt ≠ kp) (a : Aft kt C' h h') : Two kt kp C' b h0 h' := by
  obtain ⟨x, y, c, l, rfl⟩ := t
  obtain ⟨x', y', c', l', rfl⟩ := a
  refine ⟨x', y', c', l', ?_⟩
  rw [List.set_comm _ _ (Ne.symm ne), List.set_set]
theorem Two.put (t : Two kt kp C b h0 h) : Two kt kp C b' h0 (h.set kp (insB b')) := by
  obtain ⟨x, y, c, l, rfl⟩ := t
  exact ⟨x, y, c, l, List.set_set _⟩
theorem Two.mono (t : Two kt kp C b h0 h) (l : C ≤ C') : Two kt kp C' b h0 h := by
  obtain ⟨x, y, c, q, e⟩ := t
  exact ⟨x, y, c, Nat.le_trans q l, e⟩
theorem Few.mono {M M' : Nat} (m : Few b M) (l : M ≤ M') : Few b M' := ⟨fun r hr => Nat.le_trans (m.rw_ r hr) l, Nat.le_trans m.pa l, Nat.le_trans m.mv l⟩
end
/-- within a lap: values lie in B, the last ones of A in what B tells -/
structure LI (hs : House) (B : Box) (A : List Nat) (b : Bd) (M : Nat) : Prop where
  hs_ : b.hs = hs
  ok : BdOk b
  in_ : InB b B
  done : ∀ j ∈ A, lastV (vAt b.vs j) ∈ bAt (toldB hs B) j
  few : Few b M
section
variable {scr : List Int} {n : Nat} {h h0 : Hm} {j k M C kt kp : Nat} {hs : House} {f : Fd} {b : Bd} {B : Box} {A : List Nat}
theorem LI.mono {M' : Nat} (l : LI hs B A b M) (q : M ≤ M') : LI hs B A b M' := ⟨l.hs_, l.ok, l.in_, l.done, l.few.mono q⟩
theorem LI.show_ (l : LI hs B A b M) (hf : hs[j]? = some f) {s e x : Nat} (hs' : f.ey[s]? = some e) (hx : x ∈ keys (vAt b.vs e)) : LI hs B A (showB b j s x) (M + 1) :=
  ⟨l.hs_, show_ok l.ok (by rw [l.hs_]; exact hf) hs' hx, l.in_, l.done, show_few l.few⟩
theorem LI.act_ (l : LI hs B A b M) (s : Sub (toldB hs B) B) (hj : j < hs.length) : LI hs B (j :: A) (actB b j) (M + 1) := by
  have hj' : j < b.hs.length := by rw [l.hs_]; exact hj
  refine ⟨l.hs_, act_ok l.ok hj', act_in l.ok hj' l.in_ (by rw [l.hs_]; exact s), fun i hi => ?_, act_few l.ok hj' l.few⟩
  have hv := val_in l.ok l.in_ hj'
  rw [l.hs_] at hv
  rw [act_lastV l.ok hj']
  split
  · rename_i e
    subst e
    exact hv
  · rename_i e
    rcases List.mem_cons.mp hi with q | q
    · exact absurd q.symm e
    · exact l.done i q
theorem LI.lose_ (l : LI hs B A b M) (hj : j < hs.length) : LI hs B A (loseB b j (lastN (vAt b.vs j))) (M + 1) := by
  have hj' : j < b.hs.length := by rw [l.hs_]; exact hj
  have hjv : j < b.vs.length := by rw [l.ok.lv]; exact hj'
  have hx := lastN_mem (at_rows l.ok.ne hjv)
  refine ⟨l.hs_, lose_ok l.ok hj' hx, lose_in l.ok hj' l.in_, fun i hi => ?_, lose_few l.ok hj' l.few⟩
  rw [loseL_vs l.ok hj']
  split
  · rename_i e
    subst e
    exact l.done j hi
  · exact l.done i hi
/-! ### looks -/
abbrev lookBody : MSs := (.cons (.expr (.meth 1 "Board" "show" (.cons (.var 4) (.cons (.var 6) (.cons (.bin .ix (.call "_law_of" (.cons (.var 0) (.cons (.un (.list false) (.meth 1 "Board" "versions" (.cons (.var 7) .nil))) .nil))) (.con (.int 0))) .nil))))) .nil)
theorem looks (hkt : kt < h0.length) (hkp : kp < h0.length) (ne : kt ≠ kp) (t : Two kt kp C b h0 h) (hC : C < 2 ^ 40) (l : LI hs B A b M) (hM : M < 10000) (hf : hs[j]? = some f) (base : Nat) (e2 e3 e5 x6 x7 : Option EV) :
    ∃ (b' : Bd) (h' : Hm) (y6 y7 : Option EV), Two kt kp (C + 2) b' h0 h' ∧ LI hs B A b' (M + 2) ∧
      forL (fturn ⟨callN tab scr (n + 7), scr, base⟩ (.tup (.cons (.nm 6) (.cons (.nm 7) .nil))) lookBody) (f.ey.zipIdx.map fun p => PyData.tuple [.int (p.2 : Int), natD p.1]) [some (.ref kt), some (.ref kp), e2, e3, some (.d (natD j)), e5, x6, x7] h =
        some (.next, [some (.ref kt), some (.ref kp), e2, e3, some (.d (natD j)), e5, y6, y7], h') := by
  have hm := List.mem_of_getElem? hf
  have hwf : WF hs := by have := l.ok.w; rw [l.hs_] at this; exact this
  have hey := hwf.ey f hm
  obtain ⟨⟨out, env', h'⟩, q1, q2, ⟨b', t', l', y6, y7, b2⟩⟩ := forL_inv (step := fturn ⟨callN tab scr (n + 7), scr, base⟩ (.tup (.cons (.nm 6) (.cons (.nm 7) .nil))) lookBody)
    (I := fun i env h1 => ∃ b1 : Bd, Two kt kp (C + i) b1 h0 h1 ∧ LI hs B A b1 (M + i) ∧ ∃ y6 y7, env = [some (.ref kt), some (.ref kp), e2, e3, some (.d (natD j)), e5, y6, y7])
    (f.ey.zipIdx.map fun p => PyData.tuple [.int (p.2 : Int), natD p.1]) 0 [some (.ref kt), some (.ref kp), e2, e3, some (.d (natD j)), e5, x6, x7] h ⟨b, t, l, x6, x7, rfl⟩ (fun i y hy env h1 ⟨b1, t1, l1, y6, y7, b2⟩ => by
      rw [Nat.zero_add] at t1 l1 ⊢
      rw [List.getElem?_map, List.getElem?_zipIdx] at hy
      have hi : i < f.ey.length := by
        by_cases hi : i < f.ey.length
        · exact hi
        · rw [List.getElem?_eq_none (by omega)] at hy
          cases hy
      have hei := List.getElem?_eq_getElem hi
      rw [hei] at hy
      simp only [Option.map_some, Nat.zero_add, Option.some.injEq] at hy
      subst hy b2
      have hil : i ≤ 2 := by omega
      have he := hey.2 _ (List.mem_of_getElem? hei)
      have hf1 : b1.hs[j]? = some f := by rw [l1.hs_]; exact hf
      have e1 := t1.bat hkp
      have hvl : f.ey[i] < b1.vs.length := by rw [l1.ok.lv, l1.hs_]; exact he
      have hne := at_rows l1.ok.ne hvl
      have hlen := at_rows l1.few.rw_ hvl
      have sv := s_versions (scr := scr) (n := n + 4) e1 (j := f.ey[i]) (by rw [l1.hs_]; exact he) l1.ok.lv
      obtain ⟨x, h2, x1, x2, x3⟩ := s_of (scr := scr) (n := n + 5) (t1.tin hkt ne) (by omega) ((vAt b1.vs f.ey[i]).map pairD) (by simp [hne]) (by rw [List.length_map]; omega)
      obtain ⟨p, hp, rfl⟩ := List.mem_map.mp x1
      have t2 := t1.draw ne x2
      have hx : p.1 ∈ keys (vAt b1.vs f.ey[i]) := List.mem_map.mpr ⟨p, hp, rfl⟩
      have sh := s_show (scr := scr) (n := n + 3) l1.ok l1.few (by omega) (t2.bat hkp) hf1 hei hx
      refine ⟨(.next, [some (.ref kt), some (.ref kp), e2, e3, some (.d (natD j)), e5, some (.d (.int (i : Int))), some (.d (natD f.ey[i]))], h2.set kp (insB (showB b1 j i p.1))), ?_, rfl, showB b1 j i p.1, (t2.put).mono (by omega), (l1.show_ hf hei hx).mono (by omega), _, _, rfl⟩
      simp only [verD] at sv
      simp only [evs1, evs2, evs3, evs4, evs5, evs6, evs7, evs8, evs9, evsF, evsH, if_true, if_false, Bool.false_eq_true, List.nil_append, Bool.not_true, Bool.not_false, e1, natD, sv, x3, evsD, sh])
  simp only [Nat.zero_add, List.length_map, List.length_zipIdx] at q1 q2 t' l' b2
  subst q2 b2
  exact ⟨b', h', y6, y7, t'.mono (by omega), l'.mono (by omega), q1⟩
/-! ### one acts -/
abbrev onceBody : MSs := (.cons (.for_ (.tup (.cons (.nm 6) (.cons (.nm 7) .nil))) (.enum (.bin .ix (.bin .ix (.var 2) (.var 4)) (.con (.int 1)))) lookBody) (.cons (.expr (.meth 1 "Board" "act" (.cons (.var 4) .nil))) .nil))
theorem once (hkt : kt < h0.length) (hkp : kp < h0.length) (ne : kt ≠ kp) (t : Two kt kp C b h0 h) (hC : C < 2 ^ 40) (l : LI hs B A b M) (hM : M < 10000) (sB : Sub (toldB hs B) B) (hj : j < hs.length) (base : Nat) (e3 e5 x6 x7 : Option EV) :
    ∃ (b' : Bd) (h' : Hm) (y6 y7 : Option EV), Two kt kp (C + 2) b' h0 h' ∧ LI hs B (j :: A) b' (M + 3) ∧
      evSs ⟨callN tab scr (n + 7), scr, base⟩ onceBody [some (.ref kt), some (.ref kp), some (.d (hsD hs)), e3, some (.d (natD j)), e5, x6, x7] h =
        some (.next, [some (.ref kt), some (.ref kp), some (.d (hsD hs)), e3, some (.d (natD j)), e5, y6, y7], h') := by
  have hf := List.getElem?_eq_getElem hj
  obtain ⟨b', h', y6, y7, t1, l1, q1⟩ := looks (scr := scr) (n := n) hkt hkp ne t hC l hM hf base (some (.d (hsD hs))) e3 e5 x6 x7
  have e1 := t1.bat hkp
  have sa := s_act (scr := scr) (n := n) l1.ok l1.few (by omega) e1 (j := j) (by rw [l1.hs_]; exact hj)
  refine ⟨actB b' j, h'.set kp (insB (actB b' j)), y6, y7, t1.put, l1.act_ sB hj, ?_⟩
  simp only [evs1, evs2, evs3, evs4, evs5, evs6, evs7, evs8, evs9, evsF, evsH, if_true, if_false, Bool.false_eq_true, List.nil_append, Bool.not_true, Bool.not_false, evsD, hf]
  rw [enum_map, q1]
  simp only [evs1, evs2, evs3, evs4, evs5, evs6, evs7, evs8, evs9, evsF, evsH, if_true, if_false, Bool.false_eq_true, List.nil_append, Bool.not_true, Bool.not_false, e1, natD, sa]
/-- once or twice -/
theorem times (hkt : kt < h0.length) (hkp : kp < h0.length) (ne : kt ≠ kp) (t : Two kt kp C b h0 h) (hC : C < 2 ^ 39) (l : LI hs B A b M) (hM : M < 9000) (sB : Sub (toldB hs B) B) (hj : j < hs.length) (base : Nat) (m : Nat) (m1 : 1 ≤ m) (m2 : m ≤ 2) (e3 x5 x6 x7 : Option EV) :
    ∃ (b' : Bd) (h' : Hm) (y5 y6 y7 : Option EV), Two kt kp (C + 4) b' h0 h' ∧ LI hs B (j :: A) b' (M + 6) ∧
      forL (fturn ⟨callN tab scr (n + 7), scr, base⟩ (.nm 5) onceBody) ((List.range m).map natD) [some (.ref kt), some (.ref kp), some (.d (hsD hs)), e3, some (.d (natD j)), x5, x6, x7] h =
        some (.next, [some (.ref kt), some (.ref kp), some (.d (hsD hs)), e3, some (.d (natD j)), y5, y6, y7], h') := by
  obtain ⟨⟨out, env', h'⟩, q1, q2, ⟨b', t', l', y5, y6, y7, b2⟩⟩ := forL_inv (step := fturn ⟨callN tab scr (n + 7), scr, base⟩ (.nm 5) onceBody)
    (I := fun i env h1 => ∃ b1 : Bd, Two kt kp (C + 2 * i) b1 h0 h1 ∧ LI hs B (if i = 0 then A else j :: A) b1 (M + 3 * i) ∧ ∃ y5 y6 y7, env = [some (.ref kt), some (.ref kp), some (.d (hsD hs)), e3, some (.d (natD j)), y5, y6, y7])
    ((List.range m).map natD) 0 [some (.ref kt), some (.ref kp), some (.d (hsD hs)), e3, some (.d (natD j)), x5, x6, x7] h ⟨b, t, l, x5, x6, x7, rfl⟩ (fun i y hy env h1 ⟨b1, t1, l1, y5, y6, y7, b2⟩ => by
      rw [Nat.zero_add] at t1 l1 ⊢
      have hi : i < m := by
        by_cases hi : i < m
        · exact hi
        · rw [List.getElem?_map, List.getElem?_eq_none (by rw [List.length_range]; omega)] at hy
          cases hy
      subst b2
      have l2 : LI hs B A b1 (M + 3 * i) := ⟨l1.hs_, l1.ok, l1.in_, fun x hx => l1.done x (by split <;> simp [hx]), l1.few⟩
      obtain ⟨b3, h3, z6, z7, t3, l3, q3⟩ := once (scr := scr) (n := n) hkt hkp ne t1 (by omega) l2 (by omega) sB hj base e3 (some (.d y)) y6 y7
      refine ⟨(.next, [some (.ref kt), some (.ref kp), some (.d (hsD hs)), e3, some (.d (natD j)), some (.d y), z6, z7], h3), ?_, rfl, b3, t3.mono (by omega), ?_, _, _, _, rfl⟩
      · rw [fturn_nm]
        exact q3
      · rw [if_neg (by omega)]
        exact l3.mono (by omega))
  simp only [Nat.zero_add, List.length_map, List.length_range] at q1 q2 t' l' b2
  subst q2 b2
  rw [if_neg (by omega)] at l'
  exact ⟨b', h', y5, y6, y7, t'.mono (by omega), l'.mono (by omega), q1⟩
/-! ### all act -/
abbrev turnsE : ME := (.bin (.add false) (.con (.int 1)) (.un .int (.and (.var 3) (.bin .eq (.call "_law_take" (.cons (.var 0) (.cons (.con (.int 3)) .nil))) (.con (.int 0))))))
abbrev orderBody : MSs := (.cons (.for_ (.nm 5) (.rng turnsE) onceBody) .nil)
theorem turns_drawn (t : Tin kt C h) (hC : C < 2 ^ 39) (base : Nat) (tw : Bool) (e1 e2 e4 e5 e6 e7 : Option EV) : ∃ (m : Nat) (h' : Hm), 1 ≤ m ∧ m ≤ 2 ∧ Aft kt (C + 1) h h' ∧
    evI ⟨callN tab scr (n + 7), scr, base⟩ (.rng turnsE) [some (.ref kt), e1, e2, some (.d (.bool tw)), e4, e5, e6, e7] h = some ((List.range m).map natD, h') := by
  cases tw with
  | false =>
    refine ⟨1, h, Nat.le_refl _, by omega, t.refl.mono (by omega), ?_⟩
    simp only [evs1, evs2, evs3, evs4, evs5, evs6, evs7, evs8, evs9, evsF, evsH, if_true, if_false, Bool.false_eq_true, List.nil_append, Bool.not_true, Bool.not_false, show ¬ (false = true) from by decide]
    rw [if_pos (by rw [most_eq]; omega)]
    rfl
  | true =>
    obtain ⟨v, h', v1, v2, v3⟩ := s_take (scr := scr) (n := n + 6) t (by omega) (q := 3) (by omega) (by omega)
    have v3 : callN tab scr (n + 7) "_law_take" none [.ref kt, .d (.int 3)] h = some (.d (.int (v : Int)), h') := v3
    by_cases e : v = 0
    · refine ⟨2, h', by omega, by omega, v2, ?_⟩
      subst e
      simp only [evs1, evs2, evs3, evs4, evs5, evs6, evs7, evs8, evs9, evsF, evsH, if_true, if_false, Bool.false_eq_true, List.nil_append, Bool.not_true, Bool.not_false, v3, PyData.depth, PyData.eqv, Nat.zero_le, show (((0 : Nat) : Int) == 0) = true from rfl]
      rw [if_pos (by rw [most_eq]; omega)]
      rfl
    · refine ⟨1, h', Nat.le_refl _, by omega, v2, ?_⟩
      have ev2 : (((v : Nat) : Int) == 0) = false := beq_false_of_ne (by omega)
      simp only [evs1, evs2, evs3, evs4, evs5, evs6, evs7, evs8, evs9, evsF, evsH, if_true, if_false, Bool.false_eq_true, List.nil_append, Bool.not_true, Bool.not_false, v3, PyData.depth, PyData.eqv, Nat.zero_le, ev2, show ¬ (false = true) from by decide]
      rw [if_pos (by rw [most_eq]; omega)]
      rfl
theorem order (hkt : kt < h0.length) (hkp : kp < h0.length) (ne : kt ≠ kp) (t : Two kt kp C b h0 h) (hC : C < 2 ^ 38) (l : LI hs B [] b M) (hM : M < 8000) (sB : Sub (toldB hs B) B) (base : Nat) (r : List Nat) (hr : ∀ j ∈ r, j < hs.length) (hrl : r.length ≤ 3) (tw : Bool) (x4 x5 x6 x7 : Option EV) :
    ∃ (b' : Bd) (h' : Hm) (y4 y5 y6 y7 : Option EV), Two kt kp (C + 15) b' h0 h' ∧ LI hs B r b' (M + 18) ∧
      forL (fturn ⟨callN tab scr (n + 7), scr, base⟩ (.nm 4) orderBody) (r.map natD) [some (.ref kt), some (.ref kp), some (.d (hsD hs)), some (.d (.bool tw)), x4, x5, x6, x7] h =
        some (.next, [some (.ref kt), some (.ref kp), some (.d (hsD hs)), some (.d (.bool tw)), y4, y5, y6, y7], h') := by
  obtain ⟨⟨out, env', h'⟩, q1, q2, ⟨b', t', l', y4, y5, y6, y7, b2⟩⟩ := forL_inv (step := fturn ⟨callN tab scr (n + 7), scr, base⟩ (.nm 4) orderBody)
    (I := fun i env h1 => ∃ b1 : Bd, Two kt kp (C + 5 * i) b1 h0 h1 ∧ LI hs B (r.take i) b1 (M + 6 * i) ∧ ∃ y4 y5 y6 y7, env = [some (.ref kt), some (.ref kp), some (.d (hsD hs)), some (.d (.bool tw)), y4, y5, y6, y7])
    (r.map natD) 0 [some (.ref kt), some (.ref kp), some (.d (hsD hs)), some (.d (.bool tw)), x4, x5, x6, x7] h ⟨b, t, l, x4, x5, x6, x7, rfl⟩ (fun i y hy env h1 ⟨b1, t1, l1, y4, y5, y6, y7, b2⟩ => by
      rw [Nat.zero_add] at t1 l1 ⊢
      rw [List.getElem?_map] at hy
      obtain ⟨j, hj, rfl⟩ := Option.map_eq_some_iff.mp hy
      have hi := (List.getElem?_eq_some_iff.mp hj).1
      have hjl := hr j (List.mem_of_getElem? hj)
      subst b2
      obtain ⟨m, h2, m1, m2, a2, q2⟩ := turns_drawn (scr := scr) (n := n) (t1.tin hkt ne) (by omega) base tw (some (.ref kp)) (some (.d (hsD hs))) (some (.d (natD j))) y5 y6 y7
      obtain ⟨b3, h3, z5, z6, z7, t3, l3, q3⟩ := times (scr := scr) (n := n) hkt hkp ne (t1.draw ne a2) (by omega) l1 (by omega) sB hjl base m m1 m2 (some (.d (.bool tw))) y5 y6 y7
      refine ⟨(.next, [some (.ref kt), some (.ref kp), some (.d (hsD hs)), some (.d (.bool tw)), some (.d (natD j)), z5, z6, z7], h3), ?_, rfl, b3, t3.mono (by omega), ?_, _, _, _, _, rfl⟩
      · rw [fturn_nm]
        simp only [evs8]
        rw [show ∀ c s r env h, evSs c (.cons s r) env h = kSs c r (evS c s env h) from fun _ _ _ _ _ => rfl, show ∀ c t it body env h, evS c (.for_ t it body) env h = kFor c t body env (evI c it env h) from fun _ _ _ _ _ _ => rfl, q2]
        simp only [evs3]
        rw [q3]
        simp only [evs1, evs2, evs3, evs4, evs5, evs6, evs7, evs8, evs9, evsF, evsH, if_true, if_false, Bool.false_eq_true, List.nil_append, Bool.not_true, Bool.not_false]
      · refine ⟨l3.hs_, l3.ok, l3.in_, fun x hx => l3.done x ?_, l3.few.mono (by omega)⟩
        rw [List.take_add_one, hj] at hx
        rcases List.mem_append.mp hx with z | z
        · exact List.mem_cons_of_mem _ z
        · rw [List.mem_singleton.mp z]
          exact List.mem_cons_self ..)
  simp only [Nat.zero_add, List.length_map, List.take_length] at q1 q2 t' l' b2
  subst q2 b2
  exact ⟨b', h', y4, y5, y6, y7, t'.mono (by omega), l'.mono (by omega), q1⟩
end
end K87
set_option Elab.async false
set_option linter.all false
set_option maxRecDepth 100000
set_option maxHeartbeats 2000000
/-! Sn: a lap. -/
namespace K87
open PySem Mp Hs
section
variable {scr : List Int} {n : Nat} {h h0 : Hm} {j k M C kt kp : Nat} {hs : House} {f : Fd} {b : Bd} {B : Box} {A : List Nat}
abbrev loseEach : MSs := (.cons (.expr (.meth 1 "Board" "lose" (.cons (.var 4) (.cons (.bin .ix (.bin .ix (.meth 1 "Board" "versions" (.cons (.var 4) .nil)) (.un .neg (.con (.int 1)))) (.con (.int 0))) .nil)))) .nil)
theorem loses (hkp : kp < h0.length) (t : Two kt kp C b h0 h) (l : LI hs B A b M) (hM : M < 9000) (hln : hs.length ≤ 3) (base : Nat) (e0 e2 e3 x4 e5 e6 e7 : Option EV) :
    ∃ (b' : Bd) (h' : Hm) (y4 : Option EV), Two kt kp C b' h0 h' ∧ LI hs B A b' (M + 3) ∧ (∀ j, j < hs.length → (vAt b'.vs j).length = 1) ∧
      forL (fturn ⟨callN tab scr (n + 7), scr, base⟩ (.nm 4) loseEach) ((List.range hs.length).map natD) [e0, some (.ref kp), e2, e3, x4, e5, e6, e7] h =
        some (.next, [e0, some (.ref kp), e2, e3, y4, e5, e6, e7], h') := by
  obtain ⟨⟨out, env', h'⟩, q1, q2, ⟨b', t', l', s', y4, b2⟩⟩ := forL_inv (step := fturn ⟨callN tab scr (n + 7), scr, base⟩ (.nm 4) loseEach)
    (I := fun i env h1 => ∃ b1 : Bd, Two kt kp C b1 h0 h1 ∧ LI hs B A b1 (M + i) ∧ (∀ j, j < i → j < hs.length → (vAt b1.vs j).length = 1) ∧ ∃ y4, env = [e0, some (.ref kp), e2, e3, y4, e5, e6, e7])
    ((List.range hs.length).map natD) 0 [e0, some (.ref kp), e2, e3, x4, e5, e6, e7] h ⟨b, t, l, fun j h => absurd h (Nat.not_lt_zero _), x4, rfl⟩ (fun i y hy env h1 ⟨b1, t1, l1, s1, y4, b2⟩ => by
      rw [Nat.zero_add] at l1 s1 ⊢
      have hi : i < hs.length := by
        by_cases hi : i < hs.length
        · exact hi
        · rw [List.getElem?_map, List.getElem?_eq_none (by rw [List.length_range]; omega)] at hy
          cases hy
      rw [List.getElem?_map, List.getElem?_range hi] at hy
      cases hy
      subst b2
      have e1 := t1.bat hkp
      have hib : i < b1.hs.length := by rw [l1.hs_]; exact hi
      have hiv : i < b1.vs.length := by rw [l1.ok.lv]; exact hib
      have hne := at_rows l1.ok.ne hiv
      have sv := s_versions (scr := scr) (n := n + 4) e1 (j := i) hib l1.ok.lv
      have sl := s_lose (scr := scr) (n := n + 4) l1.ok l1.few (by omega) e1 hib (lastN_mem hne)
      refine ⟨(.next, [e0, some (.ref kp), e2, e3, some (.d (natD i)), e5, e6, e7], h1.set kp (insB (loseB b1 i (lastN (vAt b1.vs i))))), ?_, rfl, loseB b1 i (lastN (vAt b1.vs i)), t1.put, l1.lose_ hi, fun j hj1 hj2 => ?_, _, rfl⟩
      · rw [fturn_nm]
        simp only [verD] at sv
        simp only [evs1, evs2, evs3, evs4, evs5, evs6, evs7, evs8, evs9, evsF, evsH, if_true, if_false, Bool.false_eq_true, List.nil_append, Bool.not_true, Bool.not_false, e1, natD, sv, last_at hne, evsD, sl]
      · rw [loseL_vs l1.ok hib]
        split
        · rfl
        · exact s1 j (by omega) hj2)
  simp only [Nat.zero_add, List.length_map, List.length_range] at q1 q2 l' s' b2
  subst q2 b2
  exact ⟨b', h', y4, t', l'.mono (by omega), fun j hj => s' j hj hj, q1⟩
/-- behind a lap -/
theorem LI.end_ (l : LI hs B A b M) (hA : ∀ j, j < hs.length → j ∈ A) (h1 : ∀ j, j < hs.length → (vAt b.vs j).length = 1) : LI hs (toldB hs B) [] b M := by
  refine ⟨l.hs_, l.ok, fun e p hp => ?_, fun j hj => (by cases hj), l.few⟩
  have he : e < hs.length := by
    have := vAt_mem hp
    rw [l.ok.lv, l.hs_] at this
    exact this
  have h2 := h1 e he
  have h3 := l.done e (hA e he)
  match q : vAt b.vs e, h2 with
  | [x], _ =>
    rw [q] at hp h3
    rw [List.mem_singleton.mp hp]
    exact h3
theorem s_lap (w : WF hs) (hkt : kt < h.length) (hkp : kp < h.length) (ne : kt ≠ kp) (t : Two kt kp C b h0 h) (hC : C < 2 ^ 37) (l : LI hs B [] b M) (hM : M < 7000) (sB : Sub (toldB hs B) B) (tw : Bool) :
    ∃ (b' : Bd) (h' : Hm), Two kt kp (C + 20) b' h0 h' ∧ LI hs (toldB hs B) [] b' (M + 21) ∧ (∀ r ∈ b'.vs, r.length = 1) ∧
      callN tab scr (n + 8) "_law_lap_so" none [.ref kt, .ref kp, .d (hsD hs), .d (.bool tw)] h = some (.d .none, h') := by
  have hln := w.ln
  have hkt0 : kt < h0.length := by rw [← t.len]; exact hkt
  have hkp0 : kp < h0.length := by rw [← t.len]; exact hkp
  obtain ⟨r, rest, h1, p1, p2, p3, p4⟩ := s_pick (scr := scr) (n := n + 5) (t.tin hkt0 ne) (List.range hs.length) hs.length (by omega) (by rw [List.length_range]; omega)
  rw [List.length_range, Nat.min_self] at p2
  have hrest : rest = [] := by
    have := p1.length_eq
    rw [List.length_append, List.length_range] at this
    exact List.eq_nil_of_length_eq_zero (by omega)
  subst hrest
  rw [List.append_nil] at p1
  have t1 := t.draw ne p3
  obtain ⟨b2, h2, y4, y5, y6, y7, t2, l2, q2⟩ := order (scr := scr) (n := n) hkt0 hkp0 ne t1 (by omega) l (by omega) sB h.length r (fun j hj => List.mem_range.mp (p1.mem_iff.mp hj)) (by omega) tw none none none none
  obtain ⟨b3, h3, z4, t3, l3, s3, q3⟩ := loses (scr := scr) (n := n) hkp0 t2 l2 (by omega) hln h.length (some (.ref kt)) (some (.d (hsD hs))) (some (.d (.bool tw))) y4 y5 y6 y7
  have l4 := l3.end_ (fun j hj => p1.mem_iff.mpr (List.mem_range.mpr hj)) s3
  refine ⟨b3, h3, t3.mono (by omega), l4.mono (by omega), rows_of fun e he => s3 e (by rw [l3.ok.lv, l3.hs_] at he; exact he), ?_⟩
  rw [callN_eq fd__law_lap_so rfl]
  show kEnd _ _ (evSs _ f__law_lap_so.body [some _, some _, some _, some _, none, none, none, none] h) = _
  have lm : (((hs.length : Nat) : Int) ≤ (most : Nat) ∧ -(2 ^ 62) ≤ ((hs.length : Nat) : Int)) := by rw [most_eq]; omega
  simp only [f__law_lap_so, evs1, evs2, evs3, evs4, evs5, evs6, evs7, evs8, evs9, evsF, evsH, if_true, if_false, Bool.false_eq_true, List.nil_append, Bool.not_true, Bool.not_false, evsD, if_pos lm, Int.toNat_natCast, rng_nat]
  rw [show (List.range hs.length).map (fun (i : Nat) => PyData.int (i : Int)) = (List.range hs.length).map natD from rfl, p4]
  simp only [evs1, evs2, evs3, evs4, evs5, evs6, evs7, evs8, evs9, evsF, evsH, if_true, if_false, Bool.false_eq_true, List.nil_append, Bool.not_true, Bool.not_false]
  rw [q2]
  simp only [evs1, evs2, evs3, evs4, evs5, evs6, evs7, evs8, evs9, evsF, evsH, if_true, if_false, Bool.false_eq_true, List.nil_append, Bool.not_true, Bool.not_false, evsD, if_pos lm, Int.toNat_natCast, rng_nat]
  rw [show (List.range hs.length).map (fun (i : Nat) => PyData.int (i : Int)) = (List.range hs.length).map natD from rfl, q3]
  simp only [evs1, evs2, evs3, evs4, evs5, evs6, evs7, evs8, evs9, evsF, evsH, if_true, if_false, Bool.false_eq_true, List.nil_append, Bool.not_true, Bool.not_false]
  rw [show h3.take h.length = h3 from by rw [t.len, ← t3.len]; exact List.take_length]
end
end K87
set_option Elab.async false
set_option linter.all false
set_option maxRecDepth 100000
set_option maxHeartbeats 2000000
/-! So: the same, points; rounds by their numbers. -/
namespace K87
open PySem Mp Hs
mutual
/-- data that _law_same goes through -/
def sameT : D → Bool
  | .none => true
  | .bool _ => true
  | .int _ => true
  | .str _ => true
  | .tuple xs => decide (xs.length < 100000) && sameTs xs
  | .list xs => decide (xs.length < 100000) && sameTs xs
  | _ => false
def sameTs : List D → Bool
  | [] => true
  | x :: xs => sameT x && sameTs xs
end
theorem sameTs_mem : ∀ {xs : List D}, sameTs xs = true → ∀ x ∈ xs, sameT x = true
  | [], _, x, hx => by cases hx
  | y :: ys, h, x, hx => by
    unfold sameTs at h
    rw [Bool.and_eq_true] at h
    rcases List.mem_cons.mp hx with e | e
    · rw [e]; exact h.1
    · exact sameTs_mem h.2 x e
mutual
theorem same_plain : ∀ (v : D), plainT v = true → sameT v = true
  | .none, _ => rfl
  | .bool _, _ => rfl
  | .int _, _ => rfl
  | .str _, _ => rfl
  | .tuple xs, h => by
    unfold plainT at h
    rw [Bool.and_eq_true] at h
    unfold sameT
    rw [h.1, same_plains xs h.2]
    rfl
  | .list _, h => by cases h
  | .dict _, h => by cases h
theorem same_plains : ∀ (v : List D), plainTs v = true → sameTs v = true
  | [], _ => rfl
  | x :: xs, h => by
    unfold plainTs at h
    rw [Bool.and_eq_true] at h
    unfold sameTs
    rw [same_plain x h.1, same_plains xs h.2]
    rfl
end
theorem zip_self (xs : List D) : zipD xs xs = xs.map fun x => PyData.tuple [x, x] := by
  unfold zipD
  exact List.zipWith_self
theorem eqv_str (x : Str) : PyData.eqv (.str x) (.str x) = true := by simp [PyData.eqv]
section
variable {scr : List Int} {n : Nat} {h h0 : Hm} {j k M C kt kp : Nat} {hs : House} {f : Fd} {b : Bd} {B : Box} {A : List Nat}
theorem isi_list2 (c : Cl) (x : D) (b : Bool) (hb : (typD x == "list" || typD x == "tuple") = b) : unOp c (.isi ["list", "tuple"]) (.d x) h = some (.d (.bool b), h) := by
  subst hb
  cases x <;> rfl
theorem s_same : ∀ (k n : Nat) (v : D) (h : Hm), sameT v = true → v.depth ≤ k → callN tab scr (n + k + 1) "_law_same" none [.d v, .d v] h = some (.d (.bool true), h) := by
  intro k
  induction k with
  | zero =>
    intro n v h hp hd
    rw [callN_eq fd__law_same rfl]
    show kEnd _ _ (evSs _ f__law_same.body [some (.d v), some (.d v), none, none] h) = _
    cases v with
    | tuple xs => simp [PyData.depth] at hd
    | list xs => simp [PyData.depth] at hd
    | dict xs => cases hp
    | none =>
      simp only [f__law_same, evs1, evs2, evs3, evs4, evs5, evs6, evs7, evs8, evs9, evsF, evsH, if_true, if_false, Bool.false_eq_true, List.nil_append, Bool.not_true, Bool.not_false, show ∀ c, unOp c (.isi ["list", "tuple"]) (.d .none) h = some (.d (.bool false), h) from fun _ => rfl, show ∀ c, unOp c (.isi ["bool"]) (.d .none) h = some (.d (.bool false), h) from fun _ => rfl, PyData.depth, Nat.zero_le, PyData.eqv, beq_self_eq_true]
    | bool b =>
      simp only [f__law_same, evs1, evs2, evs3, evs4, evs5, evs6, evs7, evs8, evs9, evsF, evsH, if_true, if_false, Bool.false_eq_true, List.nil_append, Bool.not_true, Bool.not_false, show ∀ c, unOp c (.isi ["list", "tuple"]) (.d (.bool b)) h = some (.d (.bool false), h) from fun _ => rfl, show ∀ c, unOp c (.isi ["bool", "str"]) (.d (.bool b)) h = some (.d (.bool true), h) from fun _ => rfl, show ∀ c, unOp c (.isi ["bool"]) (.d (.bool b)) h = some (.d (.bool true), h) from fun _ => rfl, PyData.depth, Nat.zero_le, PyData.eqv, beq_self_eq_true]
    | int b =>
      simp only [f__law_same, evs1, evs2, evs3, evs4, evs5, evs6, evs7, evs8, evs9, evsF, evsH, if_true, if_false, Bool.false_eq_true, List.nil_append, Bool.not_true, Bool.not_false, show ∀ c, unOp c (.isi ["list", "tuple"]) (.d (.int b)) h = some (.d (.bool false), h) from fun _ => rfl, show ∀ c, unOp c (.isi ["bool", "str"]) (.d (.int b)) h = some (.d (.bool false), h) from fun _ => rfl, show ∀ c, unOp c (.isi ["int"]) (.d (.int b)) h = some (.d (.bool true), h) from fun _ => rfl, show ∀ c, unOp c (.isi ["bool"]) (.d (.int b)) h = some (.d (.bool false), h) from fun _ => rfl, PyData.depth, Nat.zero_le, PyData.eqv, beq_self_eq_true]
    | str b =>
      simp only [f__law_same, evs1, evs2, evs3, evs4, evs5, evs6, evs7, evs8, evs9, evsF, evsH, if_true, if_false, Bool.false_eq_true, List.nil_append, Bool.not_true, Bool.not_false, show ∀ c, unOp c (.isi ["list", "tuple"]) (.d (.str b)) h = some (.d (.bool false), h) from fun _ => rfl, show ∀ c, unOp c (.isi ["bool", "str"]) (.d (.str b)) h = some (.d (.bool true), h) from fun _ => rfl, show ∀ c, unOp c (.isi ["bool"]) (.d (.str b)) h = some (.d (.bool false), h) from fun _ => rfl, show ∀ c, binOp c .isn (.d (.str b)) (.d .none) h = some (.d (.bool false), h) from fun _ => rfl, PyData.depth, Nat.zero_le, PyData.eqv, beq_self_eq_true]
  | succ k ih =>
    intro n v h hp hd
    have ih0 := fun (v : D) (h : Hm) (a : sameT v = true) (b : v.depth ≤ k) => ih (n + 1) v h a b
    rw [show n + 1 + k + 1 = n + (k + 1) + 1 by omega] at ih0
    cases v with
    | dict xs => cases hp
    | none => exact ih0 _ h hp (Nat.zero_le _)
    | bool b => exact ih0 _ h hp (Nat.zero_le _)
    | int b => exact ih0 _ h hp (Nat.zero_le _)
    | str b => exact ih0 _ h hp (Nat.zero_le _)
    | tuple xs =>
      rw [callN_eq fd__law_same rfl]
      show kEnd _ _ (evSs _ f__law_same.body [some (.d _), some (.d _), none, none] h) = _
      unfold sameT at hp
      rw [Bool.and_eq_true, decide_eq_true_eq] at hp
      have eq1 : ((xs.length : Int) == (xs.length : Int)) = true := beq_self_eq_true _
      simp only [f__law_same, evs1, evs2, evs3, evs4, evs5, evs6, evs7, evs8, evs9, evsF, evsH, if_true, if_false, Bool.false_eq_true, List.nil_append, Bool.not_true, Bool.not_false, show ∀ c, unOp c (.isi ["list", "tuple"]) (.d (.tuple xs)) h = some (.d (.bool true), h) from fun _ => rfl, show ∀ c, unOp c (.isi ["list"]) (.d (.tuple xs)) h = some (.d (.bool false), h) from fun _ => rfl, show ∀ c, unOp c (.isi ["tuple"]) (.d (.tuple xs)) h = some (.d (.bool true), h) from fun _ => rfl, PyData.depth, Nat.zero_le, PyData.eqv, beq_self_eq_true, zip_self]
      rw [compL_map (g := fun _ => .bool true)]
      · have e5 : xs.map (fun _ => PyData.bool true) = (xs.map fun _ => true).map PyData.bool := by rw [List.map_map]; rfl
        have e6 : (xs.map fun _ => true).all id = true := by simp
        simp only [evs1, evs2, evs3, evs4, evs5, evs6, evs7, evs8, evs9, evsF, evsH, if_true, if_false, Bool.false_eq_true, List.nil_append, Bool.not_true, Bool.not_false, List.length_map, if_most (show xs.length < 16777216 by omega), e5, e6]
      · intro x hx acc
        have hd2 : x.depth ≤ k := by
          have := depth_mem (xs := xs) x hx
          unfold PyData.depth at hd
          omega
        have := ih n x h (sameTs_mem hp.2 x hx) hd2
        rw [show n + k + 1 = n + (k + 1) from rfl] at this
        simp only [evs1, evs2, evs3, evs4, evs5, evs6, evs7, evs8, evs9, evsF, evsH, if_true, if_false, Bool.false_eq_true, List.nil_append, Bool.not_true, Bool.not_false, this]
    | list xs =>
      rw [callN_eq fd__law_same rfl]
      show kEnd _ _ (evSs _ f__law_same.body [some (.d _), some (.d _), none, none] h) = _
      unfold sameT at hp
      rw [Bool.and_eq_true, decide_eq_true_eq] at hp
      simp only [f__law_same, evs1, evs2, evs3, evs4, evs5, evs6, evs7, evs8, evs9, evsF, evsH, if_true, if_false, Bool.false_eq_true, List.nil_append, Bool.not_true, Bool.not_false, show ∀ c, unOp c (.isi ["list", "tuple"]) (.d (.list xs)) h = some (.d (.bool true), h) from fun _ => rfl, show ∀ c, unOp c (.isi ["list"]) (.d (.list xs)) h = some (.d (.bool true), h) from fun _ => rfl, show ∀ c, unOp c (.isi ["tuple"]) (.d (.list xs)) h = some (.d (.bool false), h) from fun _ => rfl, PyData.depth, Nat.zero_le, PyData.eqv, beq_self_eq_true, zip_self]
      rw [compL_map (g := fun _ => .bool true)]
      · have e5 : xs.map (fun _ => PyData.bool true) = (xs.map fun _ => true).map PyData.bool := by rw [List.map_map]; rfl
        have e6 : (xs.map fun _ => true).all id = true := by simp
        simp only [evs1, evs2, evs3, evs4, evs5, evs6, evs7, evs8, evs9, evsF, evsH, if_true, if_false, Bool.false_eq_true, List.nil_append, Bool.not_true, Bool.not_false, List.length_map, if_most (show xs.length < 16777216 by omega), e5, e6]
      · intro x hx acc
        have hd2 : x.depth ≤ k := by
          have := depth_mem (xs := xs) x hx
          unfold PyData.depth at hd
          omega
        have := ih n x h (sameTs_mem hp.2 x hx) hd2
        rw [show n + k + 1 = n + (k + 1) from rfl] at this
        simp only [evs1, evs2, evs3, evs4, evs5, evs6, evs7, evs8, evs9, evsF, evsH, if_true, if_false, Bool.false_eq_true, List.nil_append, Bool.not_true, Bool.not_false, this]
def ptBox (st : List Nat) : Box := st.map fun x => [x]
theorem s_point (st : List Nat) (hl : st.length < 1000) : callN tab scr (n + 1) "_law_point" none [.d (rowD st)] h = some (.d (boxD (ptBox st)), h) := by
  rw [callN_eq fd__law_point rfl]
  show kEnd _ _ (evSs _ f__law_point.body [some _, none] h) = _
  simp only [f__law_point, evs1, evs2, evs3, evs4, evs5, evs6, evs7, evs8, evs9, evsF, evsH, if_true, if_false, Bool.false_eq_true, List.nil_append, Bool.not_true, Bool.not_false, evsD]
  rw [compL_map (g := fun x => rowD [x])]
  · simp only [evs1, evs2, evs3, evs4, evs5, evs6, evs7, evs8, evs9, evsF, evsH, if_true, if_false, Bool.false_eq_true, List.nil_append, Bool.not_true, Bool.not_false, List.length_map, if_most (show st.length < 16777216 by omega)]
    rw [show PyData.tuple (st.map fun x => rowD [x]) = boxD (ptBox st) from by unfold boxD ptBox; rw [List.map_map]; rfl]
  · intro x hx acc
    simp only [evs1, evs2, evs3, evs4, evs5, evs6, evs7, evs8, evs9, evsF, evsH, if_true, if_false, Bool.false_eq_true, List.nil_append, Bool.not_true, Bool.not_false, List.length_singleton, show 1 ≤ most from by rw [most_eq]; omega]
    rfl
/-! ### rounds by number -/
def rdB (hs : House) (o : Box) (i : Nat) : Box := (roundsL hs o).getD (min i ((roundsL hs o).length - 1)) []
theorem rd_at {o : Box} (i : Nat) : (roundsL hs o)[min i ((roundsL hs o).length - 1)]? = some (rdB hs o i) := by
  have := rounds_pos (hs := hs) (b := o)
  unfold rdB
  rw [List.getD_eq_getElem?_getD, List.getElem?_eq_getElem (by omega)]
  rfl
theorem rd_shut (w : WF hs) {o : Box} (q : BoxNe hs o) (i : Nat) : Shut hs (rdB hs o i) := rounds_all w q _ (List.mem_of_getElem? (rd_at i))
theorem rd_last {o : Box} {i : Nat} (hi : (roundsL hs o).length - 1 ≤ i) : rdB hs o i = limB hs o := by
  have h1 := rd_at (hs := hs) (o := o) i
  rw [Nat.min_eq_right hi, ← List.getLast?_eq_getElem?] at h1
  have h2 := last_is (rounds_ne (hs := hs) (b := o))
  rw [h1] at h2
  exact Option.some.inj h2
theorem rd_succ (w : WF hs) {o : Box} (q : BoxNe hs o) (i : Nat) : toldB hs (rdB hs o i) = rdB hs o (i + 1) := by
  by_cases hi : i + 1 ≤ (roundsL hs o).length - 1
  · have h1 := rd_at (hs := hs) (o := o) i
    have h2 := rd_at (hs := hs) (o := o) (i + 1)
    rw [Nat.min_eq_left (by omega)] at h1
    rw [Nat.min_eq_left hi] at h2
    exact (chain_succ 30 _ i _ _ h1 h2).symm
  · rw [rd_last (by omega), rd_last (by omega)]
    exact lim_fix w q
theorem rd_zero {o : Box} : rdB hs o 0 = grownB hs o := by
  have h1 := rd_at (hs := hs) (o := o) 0
  rw [Nat.zero_min] at h1
  have h2 : (roundsL hs o)[0]? = some (grownB hs o) := chain_0 30 _
  rw [h1] at h2
  exact Option.some.inj h2
end
end K87
set_option Elab.async false
set_option linter.all false
set_option maxRecDepth 100000
set_option maxHeartbeats 4000000
/-! Sp: laps, turn by turn. -/
namespace K87
open PySem Mp Hs
section
variable {scr : List Int} {n : Nat} {h h0 : Hm} {j k M C kt kp : Nat} {hs : House} {f : Fd} {b : Bd} {B : Box} {A : List Nat} {old : Box}
theorem boxB_at (b : Bd) (j : Nat) : bAt (boxB b) j = sortN ((vAt b.vs j).map (·.2)) := by
  unfold bAt boxB vAt
  rw [List.getD_eq_getElem?_getD, List.getElem?_map, List.getD_eq_getElem?_getD]
  cases b.vs[j]? <;> rfl
theorem box_sub (i : InB b B) : Sub (boxB b) B := fun j x hx => by
  rw [boxB_at, mem_sortN] at hx
  obtain ⟨p, hp, e⟩ := List.mem_map.mp hx
  rw [← e]
  exact i j p hp
theorem box_small (h1 : ∀ r ∈ b.vs, r.length = 1) : ∀ r ∈ boxB b, r.length < 1000 := fun r hr => by
  unfold boxB at hr
  obtain ⟨q, hq, e⟩ := List.mem_map.mp hr
  have := h1 q hq
  match q, this with
  | [x], _ =>
    rw [← e]
    simp [sortN, insN]
/-- at the end -/
structure AtEnd (hs : House) (L : Box) (b : Bd) : Prop where
  st : stateB b = ptOf L
  bx : boxB b = ptBox (ptOf L)
  still : actS hs (stateB b) = stateB b
theorem at_end (l : LI hs B A b M) (h1 : ∀ r ∈ b.vs, r.length = 1) {L : Box} (hL : BoxOk hs L) (hp : isPoint L = true) (i : InB b L) (fx : toldB hs L = L) : AtEnd hs L b := by
  have hvl : b.vs.length = hs.length := by rw [l.ok.lv, l.hs_]
  have one : ∀ j, j < hs.length → ∃ x, bAt L j = [x] ∧ lastV (vAt b.vs j) = x ∧ sortN ((vAt b.vs j).map (·.2)) = [x] := fun j hj => by
    have hl := of_decide_eq_true (List.all_eq_true.mp hp _ (List.mem_of_getElem? (at_bAt (show j < L.length by rw [hL.len]; exact hj))))
    have hr := at_rows h1 (show j < b.vs.length by omega)
    have hi := i j
    match q : bAt L j, hl, q2 : vAt b.vs j, hr with
    | [x], _, [p], _ =>
      have := hi p (by rw [q2]; exact List.mem_singleton.mpr rfl)
      rw [q] at this
      have e := List.mem_singleton.mp this
      exact ⟨x, rfl, e, by simp [sortN, insN, e]⟩
  have hst : ∀ j, j < hs.length → sAt (stateB b) j = lastV (vAt b.vs j) := fun j hj => by
    unfold sAt stateB
    rw [List.getD_eq_getElem?_getD, List.getElem?_map, vAt_at (by omega)]
    rfl
  have est : stateB b = ptOf L := by
    refine List.ext_getElem? fun j => ?_
    unfold stateB ptOf
    rw [List.getElem?_map, List.getElem?_map]
    by_cases hj : j < hs.length
    · obtain ⟨x, x1, x2, x3⟩ := one j hj
      rw [vAt_at (by omega), at_bAt (by rw [hL.len]; exact hj), x1]
      show some _ = some x
      rw [x2]
    · rw [List.getElem?_eq_none (by omega), List.getElem?_eq_none (by rw [hL.len]; omega)]
      rfl
  refine ⟨est, ?_, ?_⟩
  · refine box_ext (by unfold boxB ptBox ptOf; rw [List.length_map, List.length_map, List.length_map, hL.len, hvl]) fun j => ?_
    by_cases hj : j < hs.length
    · obtain ⟨x, x1, x2, x3⟩ := one j hj
      rw [boxB_at, x3]
      symm
      refine bAt_at ?_
      unfold ptBox ptOf
      rw [List.getElem?_map, List.getElem?_map, at_bAt (by rw [hL.len]; exact hj), x1]
      rfl
    · have n1 : ∀ {c : Box}, c.length = hs.length → bAt c j = [] := fun {c} hc => by
        unfold bAt
        rw [List.getD_eq_getElem?_getD, List.getElem?_eq_none (by omega)]
        rfl
      rw [n1 (by unfold boxB; rw [List.length_map]; exact hvl), n1 (by unfold ptBox ptOf; rw [List.length_map, List.length_map]; exact hL.len)]
  · refine List.ext_getElem? fun j => ?_
    unfold actS
    rw [List.getElem?_map]
    by_cases hj : j < hs.length
    · obtain ⟨x, x1, x2, x3⟩ := one j hj
      have hf := List.getElem?_eq_getElem hj
      have hw : WF hs := by have := l.ok.w; rw [l.hs_] at this; exact this
      rw [hf, sAt_at (show j < (stateB b).length by unfold stateB; rw [List.length_map]; omega), hst j hj, x2]
      have row : ∀ (es : List Nat), (∀ e ∈ es, e < hs.length) → RowIn (es.map (bAt L)) (es.map (sAt (stateB b))) := by
        intro es
        induction es with
        | nil => intro _; trivial
        | cons e es ih =>
          intro he
          obtain ⟨y, y1, y2, _⟩ := one e (he e (List.mem_cons_self ..))
          refine ⟨?_, ih fun e' h' => he e' (List.mem_cons_of_mem _ h')⟩
          rw [y1, hst e (he e (List.mem_cons_self ..)), y2]
          exact List.mem_singleton.mpr rfl
      have hm : tAt hs hs[j] (hs[j].ey.map (sAt (stateB b))) ∈ bAt (toldB hs L) j := mem_toldB.mpr ⟨_, _, hf, row _ (hw.ey _ (List.getElem_mem hj)).2, rfl⟩
      rw [fx, x1] at hm
      rw [Option.map_some, List.mem_singleton.mp hm]
    · rw [List.getElem?_eq_none (by omega), List.getElem?_eq_none (by unfold stateB; rw [List.length_map]; omega)]
      rfl
abbrev lapsBody : MSs := (.cons (.ifs (.bin .lt (.lenm 5 "Board") (.con (.int 40))) (.cons (.expr (.call "_law_lap_so" (.cons (.var 0) (.cons (.var 5) (.cons (.var 1) (.cons (.bin .eq (.var 4) (.con (.int 0))) .nil)))))) (.cons (.asg (.pt (.nm 10)) (.bin .ix (.var 6) (.bin .min (.bin (.add false) (.var 4) (.con (.int 1))) (.bin .sub (.un .len (.var 6)) (.con (.int 1)))))) (.cons (.ifs (.not (.call "lies_in" (.cons (.var 1) (.cons (.meth 5 "Board" "box" .nil) (.cons (.var 10) .nil))))) (.cons (.ret (.con (.bool false))) .nil) .nil) (.cons (.asg (.pt (.nm 11)) (.bin .min (.bin (.add false) (.var 4) (.con (.int 1))) (.bin .sub (.un .len (.or (.var 7) (.lst false (.cons (.tup .nil) .nil)))) (.con (.int 1))))) (.cons (.ifs (.and (.bin .isnn (.var 7) (.con .none)) (.not (.call "lies_in" (.cons (.var 1) (.cons (.meth 5 "Board" "box" .nil) (.cons (.bin .ix (.var 7) (.var 11)) .nil)))))) (.cons (.ret (.con (.bool false))) .nil) .nil) (.cons (.ifs (.and (.bin .isnn (.var 8) (.con .none)) (.bin .ge (.bin (.add false) (.var 4) (.con (.int 1))) (.var 8))) (.cons (.ifs (.not (.call "_law_same" (.cons (.lst false (.cons (.meth 5 "Board" "state" .nil) (.cons (.meth 5 "Board" "is_still" .nil) (.cons (.meth 5 "Board" "box" .nil) .nil)))) (.cons (.lst false (.cons (.var 9) (.cons (.con (.bool true)) (.cons (.call "_law_point" (.cons (.var 9) .nil)) .nil)))) .nil)))) (.cons (.ret (.con (.bool false))) .nil) .nil) .nil) .nil) .nil)))))) .nil) .nil)
theorem min_nat (i r : Nat) (hr : 1 ≤ r) : (if ((r : Int) - 1) < ((i : Int) + 1) then (r : Int) - 1 else (i : Int) + 1) = ((min (i + 1) (r - 1) : Nat) : Int) := by
  split <;> omega
theorem lap_turn (w : WF hs) (q : BoxNe hs old) (hkt : kt < h0.length) (hkp : kp < h0.length) (ne : kt ≠ kp) (i : Nat) (hi : i < 10) (t : Two kt kp C b h0 h) (hC : C < 2 ^ 36) (hs_ : b.hs = hs) (o : BdOk b) (m : Few b (10 + 21 * i)) (hin : b.pa.length < 40 → InB b (rdB hs old i)) (base : Nat) (e2 e3 x10 x11 : Option EV) :
    ∃ (b' : Bd) (h' : Hm) (y10 y11 : Option EV), Two kt kp (C + 20) b' h0 h' ∧ b'.hs = hs ∧ BdOk b' ∧ Few b' (10 + 21 * (i + 1)) ∧ (b'.pa.length < 40 → InB b' (rdB hs old (i + 1))) ∧
      evSs ⟨callN tab scr (n + 8), scr, base⟩ lapsBody [some (.ref kt), some (.d (hsD hs)), e2, e3, some (.d (natD i)), some (.ref kp), some (.d (.list ((roundsL hs old).map boxD))), some (.d (highD hs old)), some (.d (renewD hs old)), some (.d (pointD (limB hs old))), x10, x11] h =
        some (.next, [some (.ref kt), some (.d (hsD hs)), e2, e3, some (.d (natD i)), some (.ref kp), some (.d (.list ((roundsL hs old).map boxD))), some (.d (highD hs old)), some (.d (renewD hs old)), some (.d (pointD (limB hs old))), y10, y11], h') := by
  have e1 := t.bat hkp
  have hl1 : (0 : Int) ≤ (b.pa.length : Nat) ∧ ((b.pa.length : Nat) : Int) < 2 ^ 63 := by have := m.pa; omega
  have sl := s_blen (scr := scr) (n := n + 7) e1
  by_cases h40 : b.pa.length < 40
  · have d40 : decide (((b.pa.length : Nat) : Int) < 40) = true := decide_eq_true (by omega)
    have sB := (rd_shut w q i).shut
    have l0 : LI hs (rdB hs old i) [] b (10 + 21 * i) := ⟨hs_, o, hin h40, fun j hj => (by cases hj), m⟩
    obtain ⟨b', h', t', l', s', q'⟩ := s_lap (scr := scr) (n := n) w (by rw [t.len]; exact hkt) (by rw [t.len]; exact hkp) ne t (by omega) l0 (by omega) sB ((i : Int) == 0)
    rw [rd_succ w q] at l'
    have e2' := t'.bat hkp
    have hin' := l'.in_
    have rp := rounds_pos (hs := hs) (b := old)
    have hvl : (boxB b').length = hs.length := by unfold boxB; rw [List.length_map, l'.ok.lv, l'.hs_]
    have sbx := s_box (scr := scr) (n := n + 6) l'.ok (fun r hr => by rw [s' r hr]; omega) e2'
    have hsm := box_small s'
    have hli : liesB (boxB b') (rdB hs old (i + 1)) = true := (lies_sub (by rw [hvl, (rd_shut w q (i + 1)).len])).mpr (box_sub hin')
    have sli := s_lies_in (scr := scr) (n := n + 7) (h := h') (c := rdB hs old (i + 1)) (.d (hsD hs)) (show (boxB b').length < 1000 by rw [hvl]; have := w.ln; omega) hsm
    rw [hli] at sli
    have hmin := min_nat i (roundsL hs old).length rp
    have hrd := rd_at (hs := hs) (o := old) (i + 1)
    have mono : Few b' (10 + 21 * (i + 1)) := l'.few.mono (by omega)
    cases pt : isPoint (limB hs old) with
    | false =>
      have hh : highD hs old = .none := by unfold highD; rw [pt]; rfl
      have hr : renewD hs old = .none := by unfold renewD; rw [pt]; rfl
      have hmin2 := min_nat i 1 (Nat.le_refl _)
      refine ⟨b', h', some (.d (boxD (rdB hs old (i + 1)))), some (.d (.int ((min (i + 1) (1 - 1) : Nat) : Int))), t', l'.hs_, l'.ok, mono, fun _ => hin', ?_⟩
      simp only [evs1, evs2, evs3, evs4, evs5, evs6, evs7, evs8, evs9, evsF, evsH, if_true, if_false, Bool.false_eq_true, List.nil_append, Bool.not_true, Bool.not_false, e1, sl, if_pos hl1, d40, natD, PyData.depth, PyData.eqv, Nat.zero_le, q', List.length_map, hmin, at_map, hrd, Option.map_some, e2', sbx, sli, hh, hr, List.length_nil, List.length_singleton, show 1 ≤ most from by rw [most_eq]; omega]
      rw [show (((1 : Nat) : Int) - 1) = (((1 : Nat) : Int) - 1) from rfl, hmin2]
    | true =>
      have hh : highD hs old = .tuple ((roundsL hs old).map boxD) := by unfold highD; rw [pt]; rfl
      have hr : renewD hs old = .int (((roundsL hs old).length - 1 : Nat) : Int) := by unfold renewD; rw [pt]; rfl
      have he : pointD (limB hs old) = rowD (ptOf (limB hs old)) := by unfold pointD; rw [pt]; rfl
      have hemp : (!((roundsL hs old).map boxD).isEmpty) = true := by
        cases z : roundsL hs old with
        | nil => rw [z] at rp; cases rp
        | cons _ _ => rfl
      refine ⟨b', h', some (.d (boxD (rdB hs old (i + 1)))), some (.d (.int ((min (i + 1) ((roundsL hs old).length - 1) : Nat) : Int))), t', l'.hs_, l'.ok, mono, fun _ => hin', ?_⟩
      simp only [evs1, evs2, evs3, evs4, evs5, evs6, evs7, evs8, evs9, evsF, evsH, if_true, if_false, Bool.false_eq_true, List.nil_append, Bool.not_true, Bool.not_false, e1, sl, if_pos hl1, d40, natD, PyData.depth, PyData.eqv, Nat.zero_le, q', List.length_map, hmin, at_map, hrd, Option.map_some, e2', sbx, sli, hh, hr, hemp]
      by_cases hlast : (roundsL hs old).length - 1 ≤ i + 1
      · have hge : decide ((((roundsL hs old).length - 1 : Nat) : Int) ≤ (i : Int) + 1) = true := decide_eq_true (by omega)
        rw [rd_last hlast] at hin'
        have limok := (rounds_all w q _ lim_mem).toBoxOk
        have en := at_end l' s' limok pt hin' (lim_fix w q)
        have sst := s_state (scr := scr) (n := n + 7) l'.ok e2'
        have sis := s_is_still (scr := scr) (n := n + 2) l'.ok e2'
        rw [l'.hs_, en.still, decide_eq_true rfl] at sis
        have hln := w.ln
        have ptl : (ptOf (limB hs old)).length = hs.length := by unfold ptOf; rw [List.length_map]; exact limok.len
        have spt := s_point (scr := scr) (n := n + 7) (h := h') (ptOf (limB hs old)) (by omega)
        have sv : sameT (.list [rowD (ptOf (limB hs old)), .bool true, boxD (ptBox (ptOf (limB hs old)))]) = true := by
          have p1 := same_plain _ (plain_row (r := ptOf (limB hs old)) (by omega))
          have p2 := same_plain _ (plain_box (b := ptBox (ptOf (limB hs old))) (by unfold ptBox; rw [List.length_map]; omega) (fun r hr => by
            unfold ptBox at hr
            obtain ⟨x, _, e⟩ := List.mem_map.mp hr
            rw [← e]
            simp))
          unfold sameT
          simp only [List.length_cons, List.length_nil, sameTs, p1, p2, sameT, Bool.and_true]
          exact decide_eq_true (by omega)
        have ssm := s_same (scr := scr) 3 (n + 4) _ h' sv (by
          have := depth_box2 (ptBox (ptOf (limB hs old)))
          simp only [PyData.depth, PyData.depthAll, depth_row]
          omega)
        rw [show n + 4 + 3 + 1 = n + 8 from rfl] at ssm
        rw [en.st] at sst
        rw [en.bx] at sbx
        simp only [hge, evs1, evs2, evs3, evs4, evs5, evs6, evs7, evs8, evs9, evsF, evsH, if_true, if_false, Bool.false_eq_true, List.nil_append, Bool.not_true, Bool.not_false, e2', sst, sis, sbx, he, spt, List.length_cons, List.length_nil, show 0 + 1 + 1 + 1 ≤ most from by rw [most_eq]; omega, ssm]
      · have hge : decide ((((roundsL hs old).length - 1 : Nat) : Int) ≤ (i : Int) + 1) = false := decide_eq_false (by omega)
        simp only [hge, evs1, evs2, evs3, evs4, evs5, evs6, evs7, evs8, evs9, evsF, evsH, if_true, if_false, Bool.false_eq_true, List.nil_append, Bool.not_true, Bool.not_false]
  · have d40 : decide (((b.pa.length : Nat) : Int) < 40) = false := decide_eq_false (by omega)
    refine ⟨b, h, x10, x11, t.mono (by omega), hs_, o, m.mono (by omega), fun z => absurd z h40, ?_⟩
    simp only [evs1, evs2, evs3, evs4, evs5, evs6, evs7, evs8, evs9, evsF, evsH, if_true, if_false, Bool.false_eq_true, List.nil_append, Bool.not_true, Bool.not_false, e1, sl, if_pos hl1, d40]
end
end K87
set_option Elab.async false
set_option linter.all false
set_option maxRecDepth 100000
set_option maxHeartbeats 4000000
/-! Sq: a Board's beginning is right; laps; the law's drawn part. -/
namespace K87
open PySem Mp Hs
theorem ver_asc : ∀ (row : List Nat) (k : Nat), (((row.zipIdx k).map fun p => (p.2, p.1)) : Ver).Pairwise (fun p q => p.1 < q.1) ∧ ∀ p ∈ (((row.zipIdx k).map fun p => (p.2, p.1)) : Ver), k ≤ p.1 ∧ p.2 ∈ row
  | [], k => ⟨List.Pairwise.nil, fun p hp => by cases hp⟩
  | x :: row, k => by
    obtain ⟨h1, h2⟩ := ver_asc row (k + 1)
    rw [List.zipIdx_cons, List.map_cons]
    refine ⟨List.pairwise_cons.mpr ⟨fun p hp => ?_, h1⟩, fun p hp => ?_⟩
    · have := (h2 p hp).1
      show k < p.1
      omega
    · rcases List.mem_cons.mp hp with e | e
      · rw [e]
        exact ⟨Nat.le_refl _, List.mem_cons_self ..⟩
      · have := h2 p e
        exact ⟨by omega, List.mem_cons_of_mem _ this.2⟩
section
variable {scr : List Int} {n : Nat} {h h0 : Hm} {j k M C kt kp : Nat} {hs : House} {f : Fd} {b : Bd} {B : Box} {A : List Nat} {old : Box} {st : List Nat}
theorem begin_at (hst : StOk hs st) (o : BoxOk hs old) (hj : j < hs.length) : vAt (beginV st old) j = verOf (rowOf (sAt st j) (bAt old j)) := by
  refine vAt_is ?_
  unfold beginV
  rw [List.getElem?_map, show (st.zip old)[j]? = some (sAt st j, bAt old j) from List.getElem?_zip_eq_some.mpr ⟨sAt_at (by rw [hst.len]; exact hj), at_bAt (by rw [o.len]; exact hj)⟩]
  rfl
theorem begin_len (hst : StOk hs st) (o : BoxOk hs old) : (beginV st old).length = hs.length := by unfold beginV; rw [List.length_map, List.length_zip, hst.len, o.len, Nat.min_self]
theorem begin_val (hst : StOk hs st) (o : BoxOk hs old) (hin : ∀ j, j < hs.length → sAt st j ∈ bAt old j) (hj : j < hs.length) : ∀ p ∈ vAt (beginV st old) j, p.2 ∈ bAt old j := fun p hp => by
  rw [begin_at hst o hj] at hp
  have := ((ver_asc (rowOf (sAt st j) (bAt old j)) 0).2 p hp).2
  unfold rowOf at this
  rcases List.mem_append.mp this with z | z
  · exact (List.mem_filter.mp z).1
  · rw [List.mem_singleton.mp z]
    exact hin j hj
theorem pic_lasts {vs : List Ver} (hn : ∀ e, e < vs.length → vAt vs e ≠ []) : ∀ {es : List Nat}, (∀ e ∈ es, e < vs.length) → PicOk vs es (es.map fun e => lastN (vAt vs e))
  | [], _ => trivial
  | e :: es, h => ⟨lastN_mem (hn e (h e (List.mem_cons_self ..))), pic_lasts hn fun e' h' => h e' (List.mem_cons_of_mem _ h')⟩
theorem init_ok (w : WF hs) (hst : StOk hs st) (o : BoxOk hs old) (hin : ∀ j, j < hs.length → sAt st j ∈ bAt old j) : BdOk (initB hs st old) := by
  have hl := begin_len hst o
  have hl' : (initB hs st old).vs.length = hs.length := hl
  refine ⟨w, hl, by show (hs.map _).length = hs.length; rw [List.length_map], rows_of (vs := beginV st old) fun e he => ?_, rows_of (vs := beginV st old) fun e he => ?_, fun j r hr p hp => ?_, fun j f p h1 h2 => ?_⟩
  · rw [begin_at hst o (by rw [← hl]; exact he)]
    exact (ver_asc _ 0).1
  · rw [begin_at hst o (by rw [← hl]; exact he)]
    exact verOf_ne _ _
  · have hj : j < hs.length := by rw [← hl]; exact (List.getElem?_eq_some_iff.mp hr).1
    have hr : (beginV st old)[j]? = some r := hr
    rw [← vAt_is hr] at hp
    exact o.ltA (begin_val hst o hin hj p hp)
  · have h1 : hs[j]? = some f := h1
    have h2 : (hs.map fun f => f.ey.map fun e => lastN (vAt (beginV st old) e))[j]? = some p := h2
    rw [List.getElem?_map, h1] at h2
    cases h2
    refine pic_lasts (vs := beginV st old) (fun e he => ?_) (fun e he => ?_)
    · rw [begin_at hst o (by rw [← hl]; exact he)]
      exact verOf_ne _ _
    · rw [hl]
      exact (w.ey f (List.mem_of_getElem? h1)).2 e he
theorem init_few (w : WF hs) (hst : StOk hs st) (o : BoxOk hs old) : Few (initB hs st old) 10 where
  rw_ := rows_of (vs := beginV st old) fun e he => by
    have hj : e < hs.length := by rw [← begin_len hst o]; exact he
    rw [begin_at hst o hj]
    unfold verOf rowOf
    rw [List.length_map, List.length_zipIdx, List.length_append, List.length_singleton]
    have h1 := List.length_filter_le (fun x => !decide (x = sAt st e)) (bAt old e)
    have h2 := o.len_le w e
    omega
  pa := Nat.zero_le _
  mv := Nat.zero_le _
theorem init_in (w : WF hs) (hst : StOk hs st) (q : BoxNe hs old) (hin : ∀ j, j < hs.length → sAt st j ∈ bAt old j) : InB (initB hs st old) (rdB hs old 0) := fun e p hp => by
  have hp : p ∈ vAt (beginV st old) e := hp
  have he : e < hs.length := by
    have := vAt_mem hp
    rw [begin_len hst q.toBoxOk] at this
    exact this
  rw [rd_zero]
  exact grown_sub w q e _ (begin_val hst q.toBoxOk hin he p hp)
theorem start_ix1 (c : Cl) : binOp c .ix (.d (startD st old)) (.d (.int 1)) h = some (.d (boxD old), h) := rfl
theorem s_laps_right (w : WF hs) (q : BoxNe hs old) (hst : StOk hs st) (hin : ∀ j, j < hs.length → sAt st j ∈ bAt old j) (t : Tin kt C h) (hC : C < 2 ^ 35) (L : Nat) (hL : L < 10) :
    ∃ h' : Hm, Aft kt (C + 200) h h' ∧ callN tab scr (n + 9) "_law_laps_right" none [.ref kt, .d (hsD hs), .d (startD st old), .d (.int (L : Int))] h = some (.d (.bool true), h') := by
  have hkt := t.lt
  rw [callN_eq fd__law_laps_right rfl]
  show ∃ h' : Hm, Aft kt (C + 200) h h' ∧ kEnd _ _ (evSs _ f__law_laps_right.body [some _, some _, some _, some _, none, none, none, none, none, none, none, none] h) = _
  have i1 := s_init (scr := scr) (n := n + 3) (h := h ++ [.ins "Board" []]) (k := h.length) w hst.len q.toBoxOk (app_at0 ..)
  rw [set_app0] at i1
  have hkt0 : kt < (h ++ [insB (initB hs st old)]).length := by rw [List.length_append]; omega
  have hkp0 : h.length < (h ++ [insB (initB hs st old)]).length := by simp
  have t0 : Two kt h.length C (initB hs st old) (h ++ [insB (initB hs st old)]) (h ++ [insB (initB hs st old)]) := by
    obtain ⟨x, y, c, e, l⟩ := t
    refine ⟨x, y, c, l, ?_⟩
    refine List.ext_getElem? fun a => ?_
    rw [List.getElem?_set]
    by_cases z : h.length = a
    · subst z
      rw [if_pos rfl, if_pos (by simp)]
      exact app_at0 ..
    · rw [if_neg z, List.getElem?_set]
      by_cases z2 : kt = a
      · subst z2
        rw [if_pos rfl, if_pos hkt0]
        exact app_old e _
      · rw [if_neg z2]
  have r1 := s_rounds (scr := scr) (n := n + 2) (h := h ++ [insB (initB hs st old)]) w q
  have r2 := s_heights (scr := scr) (n := n) (h := h ++ [insB (initB hs st old)]) w q
  have r3 := s_renewals (scr := scr) (n := n) (h := h ++ [insB (initB hs st old)]) w q
  have r4 := s_end_from (scr := scr) (n := n) (h := h ++ [insB (initB hs st old)]) w q
  have lm : (((L : Nat) : Int) ≤ (most : Nat) ∧ -(2 ^ 62) ≤ ((L : Nat) : Int)) := by rw [most_eq]; omega
  obtain ⟨⟨out, env', h'⟩, q1, q2, ⟨b', t', a1, a2, a3, a4, y4, y10, y11, b2⟩⟩ := forL_inv (step := fturn ⟨callN tab scr (n + 8), scr, h.length⟩ (.nm 4) lapsBody)
    (I := fun i env h1 => ∃ b1 : Bd, Two kt h.length (C + 20 * i) b1 (h ++ [insB (initB hs st old)]) h1 ∧ b1.hs = hs ∧ BdOk b1 ∧ Few b1 (10 + 21 * i) ∧ (b1.pa.length < 40 → InB b1 (rdB hs old i)) ∧
      ∃ y4 y10 y11, env = [some (.ref kt), some (.d (hsD hs)), some (.d (startD st old)), some (.d (.int (L : Int))), y4, some (.ref h.length), some (.d (.list ((roundsL hs old).map boxD))), some (.d (highD hs old)), some (.d (renewD hs old)), some (.d (pointD (limB hs old))), y10, y11])
    ((List.range L).map natD) 0 [some (.ref kt), some (.d (hsD hs)), some (.d (startD st old)), some (.d (.int (L : Int))), none, some (.ref h.length), some (.d (.list ((roundsL hs old).map boxD))), some (.d (highD hs old)), some (.d (renewD hs old)), some (.d (pointD (limB hs old))), none, none] (h ++ [insB (initB hs st old)])
    ⟨initB hs st old, t0, rfl, init_ok w hst q.toBoxOk hin, init_few w hst q.toBoxOk, fun _ => init_in w hst q hin, none, none, none, rfl⟩ (fun i y hy env h1 ⟨b1, t1, a1, a2, a3, a4, y4, y10, y11, b2⟩ => by
      rw [Nat.zero_add] at t1 a3 a4 ⊢
      have hi : i < L := by
        by_cases hi : i < L
        · exact hi
        · rw [List.getElem?_map, List.getElem?_eq_none (by rw [List.length_range]; omega)] at hy
          cases hy
      rw [List.getElem?_map, List.getElem?_range hi] at hy
      cases hy
      subst b2
      obtain ⟨b3, h3, z10, z11, t3, c1, c2, c3, c4, c5⟩ := lap_turn (scr := scr) (n := n) w q hkt0 hkp0 (by omega) i (by omega) t1 (by omega) a1 a2 a3 a4 h.length (some (.d (startD st old))) (some (.d (.int (L : Int)))) y10 y11
      refine ⟨(.next, [some (.ref kt), some (.d (hsD hs)), some (.d (startD st old)), some (.d (.int (L : Int))), some (.d (natD i)), some (.ref h.length), some (.d (.list ((roundsL hs old).map boxD))), some (.d (highD hs old)), some (.d (renewD hs old)), some (.d (pointD (limB hs old))), z10, z11], h3), ?_, rfl, b3, t3.mono (by omega), c1, c2, c3.mono (by omega), c4, _, _, _, rfl⟩
      rw [fturn_nm]
      exact c5)
  simp only [Nat.zero_add, List.length_map, List.length_range] at q1 q2 t' a3 a4 b2
  subst q2 b2
  obtain ⟨x, y, c, lc, hx⟩ := t'
  have hend : h'.take h.length = h.set kt (tinO x y c) := by
    rw [hx, List.set_append_left _ _ hkt, ← List.length_set (as := h) (i := kt) (a := tinO x y c), set_app0]
    exact List.take_left ..
  refine ⟨h.set kt (tinO x y c), ⟨x, y, c, by omega, rfl⟩, ?_⟩
  have rp := rounds_pos (hs := hs) (b := old)
  cases pt : isPoint (limB hs old) with
  | false =>
    have hh : highD hs old = .none := by unfold highD; rw [pt]; rfl
    have hr : renewD hs old = .none := by unfold renewD; rw [pt]; rfl
    have he : pointD (limB hs old) = .none := by unfold pointD; rw [pt]; rfl
    rw [hh, hr, he] at q1
    rw [hh] at r2
    rw [hr] at r3
    rw [he] at r4
    simp only [f__law_laps_right, evs1, evs2, evs3, evs4, evs5, evs6, evs7, evs8, evs9, evsF, evsH, if_true, if_false, Bool.false_eq_true, List.nil_append, Bool.not_true, Bool.not_false, i1, start_ix1, r1, r2, r3, r4, PyData.depth, PyData.eqv, Nat.zero_le, beq_self_eq_true, if_pos lm, Int.toNat_natCast, rng_nat]
    rw [show (List.range L).map (fun (i : Nat) => PyData.int (i : Int)) = (List.range L).map natD from rfl, q1]
    simp only [evs1, evs2, evs3, evs4, evs5, evs6, evs7, evs8, evs9, evsF, evsH, if_true, if_false, Bool.false_eq_true, List.nil_append, Bool.not_true, Bool.not_false, hend]
  | true =>
    have hh : highD hs old = .tuple ((roundsL hs old).map boxD) := by unfold highD; rw [pt]; rfl
    have hr : renewD hs old = .int (((roundsL hs old).length - 1 : Nat) : Int) := by unfold renewD; rw [pt]; rfl
    have he : pointD (limB hs old) = .tuple ((ptOf (limB hs old)).map natD) := by unfold pointD; rw [pt]; rfl
    rw [hh, hr, he] at q1
    rw [hh] at r2
    rw [hr] at r3
    rw [he] at r4
    have el : (((roundsL hs old).length : Int) - 1) = (((roundsL hs old).length - 1 : Nat) : Int) := by omega
    simp only [f__law_laps_right, evs1, evs2, evs3, evs4, evs5, evs6, evs7, evs8, evs9, evsF, evsH, if_true, if_false, Bool.false_eq_true, List.nil_append, Bool.not_true, Bool.not_false, i1, start_ix1, r1, r2, r3, r4, PyData.depth, PyData.eqv, Nat.zero_le, beq_self_eq_true, List.length_map, el, if_pos lm, Int.toNat_natCast, rng_nat]
    rw [show (List.range L).map (fun (i : Nat) => PyData.int (i : Int)) = (List.range L).map natD from rfl, q1]
    simp only [evs1, evs2, evs3, evs4, evs5, evs6, evs7, evs8, evs9, evsF, evsH, if_true, if_false, Bool.false_eq_true, List.nil_append, Bool.not_true, Bool.not_false, hend]
theorem s_right (t : Tin kt C h) (hC : C < 2 ^ 30) : ∃ h' : Hm, Aft kt (C + 300) h h' ∧ callN tab scr (n + 10) "_law_right" none [.ref kt] h = some (.d (.bool true), h') := by
  have hkt := t.lt
  rw [callN_eq fd__law_right rfl]
  show ∃ h' : Hm, Aft kt (C + 300) h h' ∧ kEnd _ _ (evSs _ f__law_right.body [some _, none] h) = _
  obtain ⟨v, h1, v1, v2, v3⟩ := s_take (scr := scr) (n := n + 8) t (by omega) (q := 2) (by omega) (by omega)
  have v3 : callN tab scr (n + 9) "_law_take" none [.ref kt, .d (.int 2)] h = some (.d (.int (v : Int)), h1) := v3
  have hmany : ∃ m : Nat, m ≤ 3 ∧ (2 : Int) + (if (((v : Nat) : Int) == 0) = true then 1 else 0) = (m : Int) := by
    split
    · exact ⟨3, by omega, by omega⟩
    · exact ⟨2, by omega, by omega⟩
  obtain ⟨m, m1, m2⟩ := hmany
  obtain ⟨hs, h2, w, _, w2, w3⟩ := s_hall (scr := scr) (n := n + 5) (v2.tin hkt) (by omega) m m1
  have hk2 : kt < h2.length := by rw [w2.len, v2.len]; exact hkt
  have a2 := v2.trans w2
  obtain ⟨st, old, h3, s1, s2, s3, s4, s5⟩ := s_start (scr := scr) (n := n + 6) w (a2.tin hkt) (by omega)
  have a3 := a2.trans s4
  obtain ⟨u, h4, u1, u2, u3⟩ := s_take (scr := scr) (n := n + 8) (a3.tin hkt) (by omega) (q := 4) (by omega) (by omega)
  have u3 : callN tab scr (n + 9) "_law_take" none [.ref kt, .d (.int 4)] h3 = some (.d (.int (u : Int)), h4) := u3
  have a4 := a3.trans u2
  obtain ⟨h5, x1, x2⟩ := s_laps_right (scr := scr) (n := n) w s2 s1 s3 (a4.tin hkt) (by omega) (2 + u) (by omega)
  refine ⟨h5, (a4.trans x1).mono (by omega), ?_⟩
  have e5 : (2 : Int) + ((u : Nat) : Int) = ((2 + u : Nat) : Int) := by omega
  have hz : ∀ c, unOp c .int (.d (.bool (((v : Nat) : Int) == 0))) h1 = some (.d (.int (if (((v : Nat) : Int) == 0) = true then 1 else 0)), h1) := fun c => by simp only [evs4]
  simp only [f__law_right, evs1, evs2, evs3, evs4, evs5, evs6, evs7, evs8, evs9, evsF, evsH, if_true, if_false, Bool.false_eq_true, List.nil_append, Bool.not_true, Bool.not_false, v3, PyData.depth, PyData.eqv, Nat.zero_le, m2, w3, s5, u3, e5]
  rw [show PyData.tuple [rowD st, boxD old] = startD st old from rfl, x2]
  simp only [evs1, evs2, evs3, evs4, evs5, evs6, evs7, evs8, evs9, evsF, evsH, if_true, if_false, Bool.false_eq_true, List.nil_append, Bool.not_true, Bool.not_false, (a4.trans x1).take0]
end
end K87
set_option Elab.async false
set_option linter.all false
set_option maxRecDepth 100000
set_option maxHeartbeats 4000000
/-! Sr: the script's numbers, the law. -/
namespace K87
open PySem Mp Hs
section
variable {scr : List Int} {n : Nat} {h h0 : Hm} {k M C : Nat}
theorem sl_scr (c : Cl) (m : Bool) (lo hi : Option Int) : slOp c m .scr lo hi h = some (mkL m (cutD (c.scr.map PyData.int) lo hi) h) := rfl
theorem drop_take {α : Type} (l : List α) (a b : Nat) : (l.drop a).take (b - a) = (l.take b).drop a := by
  rw [List.drop_take]
theorem cut_mid (xs : List D) (a b : Nat) : ∃ ys : List D, cutD xs (some (a : Int)) (some (b : Int)) = ys ∧ (∀ y ∈ ys, y ∈ xs) ∧ (xs.length ≤ a → ys = []) ∧ ys.length ≤ b := by
  refine ⟨_, rfl, fun y hy => ?_, fun hl => ?_, ?_⟩
  · unfold cutD at hy
    exact List.mem_of_mem_drop (List.mem_of_mem_take hy)
  · unfold cutD sIx
    simp only [show ¬ ((a : Int) < 0) from by omega, if_false, Int.toNat_natCast]
    rw [Nat.min_eq_right hl, List.drop_eq_nil_of_le (Nat.le_refl _)]
    simp
  · unfold cutD sIx
    simp only [show ¬ ((a : Int) < 0) from by omega, show ¬ ((b : Int) < 0) from by omega, if_false, Int.toNat_natCast]
    rw [List.length_take]
    omega
theorem at_mapI {α : Type} (g : α → D) (l : List α) (j : Nat) : atI (l.map g) (j : Int) = (l[j]?).map g := at_map g l j
abbrev cellBody : MSs := (.cons (.asg (.pt (.nm 5)) (.bin .mod (.un .int (.var 3)) (.var 1))) (.cons (.asg (.sub (.var 2) (.var 5)) (.bin (.add false) (.bin .ix (.var 2) (.var 5)) (.bin .mul (.var 4) (.bin (.add false) (.var 3) (.con (.int 2)))))) .nil))
theorem s_cells (q : Nat) (q1 : 1 ≤ q) (q2 : q ≤ 10) (hl : scr.length ≤ 63) : ∃ l : List Int, 1 ≤ l.length ∧ l.length ≤ q ∧ callN tab scr (n + 1) "_law_cells" none [.scr, .d (.int (q : Int))] h = some (.d (.list (l.map PyData.int)), h) := by
  rw [callN_eq fd__law_cells rfl]
  show ∃ l : List Int, 1 ≤ l.length ∧ l.length ≤ q ∧ kEnd _ _ (evSs _ f__law_cells.body [some _, some _, none, none, none, none] h) = _
  have hc1 : cutD (scr.map PyData.int) none (some (q : Int)) = (scr.take q).map PyData.int := by rw [cut_to, List.map_take]
  obtain ⟨ys, y1, y2, y3, y4⟩ := cut_mid (scr.map PyData.int) q 63
  have y1 : cutD (scr.map PyData.int) (some (q : Int)) (some 63) = ys := y1
  by_cases h0 : scr.take q = []
  · have hs0 : scr = [] := by
      cases scr with
      | nil => rfl
      | cons x xs =>
        obtain ⟨q', rfl⟩ : ∃ q', q = q' + 1 := ⟨q - 1, by omega⟩
        simp at h0
    have hy : ys = [] := y3 (by rw [hs0]; exact Nat.zero_le _)
    refine ⟨[0], Nat.le_refl _, q1, ?_⟩
    have e0 : (h ++ [MO.lst []])[h.length]? = some (.lst []) := app_at0 ..
    have e1 : (h ++ [MO.lst [], .lst [.int 0]])[h.length + 1]? = some (.lst [.int 0]) := app_at1 ..
    simp only [f__law_cells, evs1, evs2, evs3, evs4, evs5, evs6, evs7, evs8, evs9, evsF, evsH, if_true, if_false, Bool.false_eq_true, List.nil_append, Bool.not_true, Bool.not_false, sl_scr, hc1, h0, List.map_nil, tru_ref e0, List.isEmpty_nil, List.length_singleton, show 1 ≤ most from by rw [most_eq]; omega, evsA, y1, hy]
    rw [show enumD [] = [] from rfl]
    simp only [forL, evs1, evs2, evs3, evs4, evs5, evs6, evs7, evs8, evs9, evsF, evsH, if_true, if_false, Bool.false_eq_true, List.nil_append, Bool.not_true, Bool.not_false, fin_list e1 (show h.length ≤ h.length + 1 by omega)]
    rfl
  · obtain ⟨x, r, hx⟩ : ∃ x r, scr.take q = x :: r := by
      cases z : scr.take q with
      | nil => exact absurd z h0
      | cons x r => exact ⟨x, r, rfl⟩
    have hne : (!((scr.take q).map PyData.int).isEmpty) = true := by rw [hx]; rfl
    have hlen : (scr.take q).length ≤ q := by rw [List.length_take]; omega
    have hfull : ys ≠ [] → (scr.take q).length = q := fun z => by
      rw [List.length_take]
      by_cases hq : q ≤ scr.length
      · exact Nat.min_eq_left hq
      · exact absurd (y3 (by rw [List.length_map]; omega)) z
    have e0 : (h ++ [MO.lst ((scr.take q).map PyData.int)])[h.length]? = some (.lst ((scr.take q).map PyData.int)) := app_at0 ..
    obtain ⟨⟨out, env', h'⟩, p1, p2, ⟨l, b1, b2, x3, x4, x5, b3⟩⟩ := forL_inv (step := fturn ⟨callN tab scr n, scr, h.length⟩ (.tup (.cons (.nm 3) (.cons (.nm 4) .nil))) cellBody)
      (I := fun i env h1 => ∃ l : List Int, h1 = h ++ [.lst (l.map PyData.int)] ∧ l.length = (scr.take q).length ∧ ∃ x3 x4 x5, env = [some .scr, some (.d (.int (q : Int))), some (.ref h.length), x3, x4, x5])
      (enumD ys) 0 [some .scr, some (.d (.int (q : Int))), some (.ref h.length), none, none, none] (h ++ [.lst ((scr.take q).map PyData.int)]) ⟨scr.take q, rfl, rfl, none, none, none, rfl⟩ (fun i y hy env h1 ⟨l, b1, b2, x3, x4, x5, b3⟩ => by
        have he := enum_map (fun x : D => x) ys
        rw [List.map_id'] at he
        rw [he, List.getElem?_map, List.getElem?_zipIdx] at hy
        obtain ⟨p, hp, rfl⟩ := Option.map_eq_some_iff.mp hy
        obtain ⟨z, hz, rfl⟩ := Option.map_eq_some_iff.mp hp
        obtain ⟨v, _, rfl⟩ := List.mem_map.mp (y2 z (List.mem_of_getElem? hz))
        have hi := (List.getElem?_eq_some_iff.mp hz).1
        subst b1 b3
        rw [hfull (List.ne_nil_of_mem (List.mem_of_getElem? hz))] at b2
        have e0 : (h ++ [MO.lst (l.map PyData.int)])[h.length]? = some (.lst (l.map PyData.int)) := app_at0 ..
        have hm : i % q < l.length := by rw [b2]; exact Nat.mod_lt _ (by omega)
        obtain ⟨u, hu⟩ : ∃ u, l[i % q]? = some u := ⟨_, List.getElem?_eq_getElem hm⟩
        have hix := ixN_nat (n := (l.map PyData.int).length) (j := i % q) (by rw [List.length_map]; exact hm)
        have hcast : ((0 + i : Nat) : Int) % (q : Int) = ((i % q : Nat) : Int) := by rw [Nat.zero_add]; exact (Int.natCast_emod i q).symm
        have hset : (l.map PyData.int).set (i % q) (.int (u + v * (((0 + i : Nat) : Int) + 2))) = (l.set (i % q) (u + v * (((0 + i : Nat) : Int) + 2))).map PyData.int := by rw [List.map_set]
        refine ⟨(.next, [some .scr, some (.d (.int (q : Int))), some (.ref h.length), some (.d (.int ((0 + i : Nat) : Int))), some (.d (.int v)), some (.d (.int ((i % q : Nat) : Int)))], h ++ [.lst ((l.set (i % q) (u + v * (((0 + i : Nat) : Int) + 2))).map PyData.int)]), ?_, rfl, _, rfl, by rw [List.length_set]; rw [b2, hfull (List.ne_nil_of_mem (List.mem_of_getElem? hz))], _, _, _, rfl⟩
        simp only [evs1, evs2, evs3, evs4, evs5, evs6, evs7, evs8, evs9, evsF, evsH, if_true, if_false, Bool.false_eq_true, List.nil_append, Bool.not_true, Bool.not_false, if_pos (show (0 : Int) < (q : Int) by omega), hcast, ix_ref e0, at_map, hu, Option.map_some]
        rw [if_pos (.inr (by omega))]
        simp only [evs1, evs2, evs3, evs4, evs5, evs6, evs7, evs8, evs9, evsF, evsH, if_true, if_false, Bool.false_eq_true, List.nil_append, Bool.not_true, Bool.not_false, e0, hix, evsA, hset])
    subst b1 b3
    refine ⟨l, ?_, by rw [b2]; exact hlen, ?_⟩
    · rw [b2, hx]; simp
    · simp only at p2
      subst p2
      have e1 : (h ++ [MO.lst (l.map PyData.int)])[h.length]? = some (.lst (l.map PyData.int)) := app_at0 ..
      simp only [f__law_cells, evs1, evs2, evs3, evs4, evs5, evs6, evs7, evs8, evs9, evsF, evsH, if_true, if_false, Bool.false_eq_true, List.nil_append, Bool.not_true, Bool.not_false, sl_scr, hc1, tru_ref e0, hne, y1]
      rw [p1]
      simp only [evs1, evs2, evs3, evs4, evs5, evs6, evs7, evs8, evs9, evsF, evsH, if_true, if_false, Bool.false_eq_true, List.nil_append, Bool.not_true, Bool.not_false, fin_list e1 (Nat.le_refl _)]
theorem s_lbox (l : List Int) (k : Nat) (hk : k < l.length) (hk2 : k < 1000) : ∃ a b : Int, callN tab scr (n + 1) "_law_box" none [.d (.list (l.map PyData.int)), .d (.int (k : Int))] h = some (.ref h.length, h ++ [tinO a b 0]) := by
  rw [callN_eq fd__law_box rfl]
  show ∃ a b : Int, kEnd _ _ (evSs _ f__law_box.body [some _, some _, none] h) = _
  obtain ⟨u, hu⟩ : ∃ u, l[k]? = some u := ⟨_, List.getElem?_eq_getElem hk⟩
  have hd : decide ((k : Int) < (l.length : Int)) = true := decide_eq_true (by omega)
  have hpow : ∀ c h, binOp c .pow (.d (.int 10)) (.d (.int 18)) h = some (.d (.int (10 ^ 18)), h) := fun c h => by
    simp only [binOp]
    rw [if_pos ⟨by omega, by omega, by decide⟩]
    rfl
  refine ⟨(if u < 0 then -u else u) * (if decide ((10 : Int) ^ 18 ≤ (if u < 0 then -u else u)) = true then 1 else 0), u % 2305843009213693951 + 39373 * (k : Int) + 1938087, ?_⟩
  simp only [f__law_box, evs1, evs2, evs3, evs4, evs5, evs6, evs7, evs8, evs9, evsF, evsH, if_true, if_false, Bool.false_eq_true, List.nil_append, Bool.not_true, Bool.not_false, List.length_map, hd, at_map, hu, Option.map_some, hpow]
  generalize (if u < 0 then -u else u) = au
  have h01 : ∃ z : Int, (if decide ((10 : Int) ^ 18 ≤ au) = true then (1 : Int) else 0) = z ∧ 0 ≤ z ∧ z ≤ 1 := by
    split
    · exact ⟨1, rfl, by omega, by omega⟩
    · exact ⟨0, rfl, by omega, by omega⟩
  obtain ⟨z, hz, z0, z1⟩ := h01
  simp only [hz]
  rw [if_pos (.inr (by omega))]
  simp only [evs1, evs2, evs3, evs4, evs5, evs6, evs7, evs8, evs9, evsF, evsH, if_true, if_false, Bool.false_eq_true, List.nil_append, Bool.not_true, Bool.not_false, if_pos (show (0 : Int) < 2305843009213693951 by omega)]
  rw [if_pos (.inl (by omega))]
  simp only [evs1, evs2, evs3, evs4, evs5, evs6, evs7, evs8, evs9, evsF, evsH, if_true, if_false, Bool.false_eq_true, List.nil_append, Bool.not_true, Bool.not_false, List.length_cons, List.length_nil, show 0 + 1 + 1 + 1 ≤ most from by rw [most_eq]; omega]
  rw [fin_fresh (app_at0 ..) (Nat.le_refl _), take_app]
  rfl
theorem s_law_tail (hl : scr.length ≤ 63) (hb : callN tab scr (n + 11) "_law_by_hand_right" none [] h = some (.d (.bool true), h)) : callN tab scr (n + 12) "law" none [.scr] h = some (.d (.bool true), h) := by
  obtain ⟨l, l1, l2, l3⟩ := s_cells (scr := scr) (n := n + 10) (h := h) 2 (by omega) (by omega) hl
  have l3 : callN tab scr (n + 11) "_law_cells" none [.scr, .d (.int 2)] h = some (.d (.list (l.map PyData.int)), h) := l3
  rw [callN_eq fd_law rfl]
  show kEnd _ _ (evSs _ f_law.body [some _, none, none] h) = _
  have lm : (((l.length : Nat) : Int) ≤ (most : Nat) ∧ -(2 ^ 62) ≤ ((l.length : Nat) : Int)) := by rw [most_eq]; omega
  simp only [f_law, evs1, evs2, evs3, evs4, evs5, evs6, evs7, evs8, evs9, evsF, evsH, if_true, if_false, Bool.false_eq_true, List.nil_append, Bool.not_true, Bool.not_false, hb, l3, List.length_map, if_pos lm, Int.toNat_natCast, rng_nat]
  rw [show (List.range l.length).map (fun (i : Nat) => PyData.int (i : Int)) = (List.range l.length).map natD from rfl]
  obtain ⟨⟨acc, h'⟩, q1, ⟨a1, junk, a2⟩⟩ := compL_inv (step := turn ⟨callN tab scr (n + 11), scr, h.length⟩ (.call "_law_right" (.cons (.call "_law_box" (.cons (.var 1) (.cons (.var 2) .nil))) .nil)) (.nm 2) (.con (.bool true)) [2] [some .scr, some (.d (.list (l.map PyData.int))), none])
    (fun m acc h1 => acc = List.replicate m (.bool true) ∧ ∃ junk, h1 = h ++ junk) ((List.range l.length).map natD) 0 [] h ⟨rfl, [], by simp⟩ (fun m x hx acc h1 ⟨a1, junk, a2⟩ => by
    rw [Nat.zero_add] at a1 ⊢
    have hm := (List.getElem?_eq_some_iff.mp hx).1
    rw [List.length_map, List.length_range] at hm
    rw [List.getElem?_map, List.getElem?_range hm] at hx
    cases hx
    obtain ⟨a, b, e⟩ := s_lbox (scr := scr) (n := n + 10) (h := h1) l m hm (by omega)
    obtain ⟨h2, r1, r2⟩ := s_right (scr := scr) (n := n + 1) (kt := h1.length) (C := 0) (h := h1 ++ [tinO a b 0]) ⟨a, b, 0, app_at0 .., Nat.le_refl _⟩ (by omega)
    refine ⟨(acc ++ [.bool true], h2), ?_, ?_, ?_⟩
    · simp only [evs1, evs2, evs3, evs4, evs5, evs6, evs7, evs8, evs9, evsF, evsH, if_true, if_false, Bool.false_eq_true, List.nil_append, Bool.not_true, Bool.not_false, natD, e, r2]
    · rw [a1, List.replicate_succ']
    · obtain ⟨x, y, c, _, rfl⟩ := r1
      rw [a2, set_app0]
      exact ⟨junk ++ [tinO x y c], by simp⟩)
  simp only [Nat.zero_add, List.length_map, List.length_range] at a1
  rw [q1, a1]
  have e5 : List.replicate l.length (PyData.bool true) = (List.replicate l.length true).map PyData.bool := by rw [List.map_replicate]
  have e6 : (List.replicate l.length true).all id = true := by simp
  simp only [evs1, evs2, evs3, evs4, evs5, evs6, evs7, evs8, evs9, evsF, evsH, if_true, if_false, Bool.false_eq_true, List.nil_append, Bool.not_true, Bool.not_false, List.length_map, List.length_replicate, if_most (show l.length < 16777216 by omega), e5, e6]
  rw [show h' = h ++ junk from a2, take_app]
end
end K87
set_option Elab.async false
set_option linter.all false
set_option maxRecDepth 100000
set_option maxHeartbeats 0
/-! Ss: the law's part by hand, by one run of the kernel. -/
namespace K87
open PySem Mp PyProof.Rows
theorem by_hand (scr : List Int) : callN tab scr 19 "_law_by_hand_right" none [] [] = some (.d (.bool true), []) := by
  kernel_rfl
theorem law_true (scr : List Int) (hl : scr.length ≤ 63) : ∃ h', callN tab scr 20 "law" none [.scr] [] = some (.d (.bool true), h') :=
  ⟨[], s_law_tail (n := 8) hl (by_hand scr)⟩
end K87
set_option Elab.async false
set_option linter.all false
set_option maxRecDepth 100000
set_option maxHeartbeats 0
/-! K87H: the head of the law (written by gen_law.py). -/
namespace K87
open PySem PySem.Spec PyProof.Rows L2 Mp
def top (i : Nat) : Stmt := PySem.Challenge.pw_latesights_k87_whole_laps_and_renewals.main.body.getD i (.Pass ⟨0, 0, 0, 0⟩)
def d_is_number : He.DefD := ⟨("is_number", none), "is_number", "is_number", defArgs (top 7), defBody (top 7), defScope (top 7), [], []⟩
def d_tupled : He.DefD := ⟨("tupled", none), "tupled", "tupled", defArgs (top 8), defBody (top 8), defScope (top 8), [], []⟩
def d_set_of : He.DefD := ⟨("set_of", none), "set_of", "set_of", defArgs (top 9), defBody (top 9), defScope (top 9), [], []⟩
def d_sizes_of : He.DefD := ⟨("sizes_of", none), "sizes_of", "sizes_of", defArgs (top 15), defBody (top 15), defScope (top 15), [], []⟩
def d_is_value : He.DefD := ⟨("is_value", none), "is_value", "is_value", defArgs (top 16), defBody (top 16), defScope (top 16), [], []⟩
def d_check_place : He.DefD := ⟨("check_place", none), "check_place", "check_place", defArgs (top 17), defBody (top 17), defScope (top 17), [], []⟩
def d_table_at : He.DefD := ⟨("table_at", none), "table_at", "table_at", defArgs (top 18), defBody (top 18), defScope (top 18), [], []⟩
def d_is_row : He.DefD := ⟨("is_row", none), "is_row", "is_row", defArgs (top 19), defBody (top 19), defScope (top 19), [], []⟩
def d_check_row : He.DefD := ⟨("check_row", none), "check_row", "check_row", defArgs (top 20), defBody (top 20), defScope (top 20), [], []⟩
def d_tells : He.DefD := ⟨("tells", none), "tells", "tells", defArgs (top 21), defBody (top 21), defScope (top 21), [], []⟩
def d_tells_now : He.DefD := ⟨("tells_now", none), "tells_now", "tells_now", defArgs (top 22), defBody (top 22), defScope (top 22), [], []⟩
def d_all_act : He.DefD := ⟨("all_act", none), "all_act", "all_act", defArgs (top 23), defBody (top 23), defScope (top 23), [], []⟩
def d_is_rest : He.DefD := ⟨("is_rest", none), "is_rest", "is_rest", defArgs (top 24), defBody (top 24), defScope (top 24), [], []⟩
def d_rows_among : He.DefD := ⟨("rows_among", none), "rows_among", "rows_among", defArgs (top 26), defBody (top 26), defScope (top 26), [], []⟩
def d_lies_in : He.DefD := ⟨("lies_in", none), "lies_in", "lies_in", defArgs (top 27), defBody (top 27), defScope (top 27), [], []⟩
def d_point_of : He.DefD := ⟨("point_of", none), "point_of", "point_of", defArgs (top 28), defBody (top 28), defScope (top 28), [], []⟩
def d_rows_inside : He.DefD := ⟨("rows_inside", none), "rows_inside", "rows_inside", defArgs (top 29), defBody (top 29), defScope (top 29), [], []⟩
def d_told_part : He.DefD := ⟨("told_part", none), "told_part", "told_part", defArgs (top 30), defBody (top 30), defScope (top 30), [], []⟩
def d_told_box : He.DefD := ⟨("told_box", none), "told_box", "told_box", defArgs (top 31), defBody (top 31), defScope (top 31), [], []⟩
def d_laps_grown : He.DefD := ⟨("laps_grown", none), "laps_grown", "laps_grown", defArgs (top 32), defBody (top 32), defScope (top 32), [], []⟩
def d_grown : He.DefD := ⟨("grown", none), "grown", "grown", defArgs (top 33), defBody (top 33), defScope (top 33), [], []⟩
def d_rounds : He.DefD := ⟨("rounds", none), "rounds", "rounds", defArgs (top 34), defBody (top 34), defScope (top 34), [], []⟩
def d_limit : He.DefD := ⟨("limit", none), "limit", "limit", defArgs (top 35), defBody (top 35), defScope (top 35), [], []⟩
def d_begin_versions : He.DefD := ⟨("begin_versions", none), "begin_versions", "begin_versions", defArgs (top 39), defBody (top 39), defScope (top 39), [], []⟩
def d_put_at : He.DefD := ⟨("put_at", none), "put_at", "put_at", defArgs (top 40), defBody (top 40), defScope (top 40), [], []⟩
def d_Board___init__ : He.DefD := ⟨("Board", some "__init__"), "__init__", "Board.__init__", defArgs (inClass (top 41) 0), defBody (inClass (top 41) 0), defScope (inClass (top 41) 0), [], []⟩
def d_Board___len__ : He.DefD := ⟨("Board", some "__len__"), "__len__", "Board.__len__", defArgs (inClass (top 41) 1), defBody (inClass (top 41) 1), defScope (inClass (top 41) 1), [], []⟩
def d_Board___iter__ : He.DefD := ⟨("Board", some "__iter__"), "__iter__", "Board.__iter__", defArgs (inClass (top 41) 2), defBody (inClass (top 41) 2), defScope (inClass (top 41) 2), [], []⟩
def d_Board___eq__ : He.DefD := ⟨("Board", some "__eq__"), "__eq__", "Board.__eq__", defArgs (inClass (top 41) 3), defBody (inClass (top 41) 3), defScope (inClass (top 41) 3), [], []⟩
def d_Board_seen : He.DefD := ⟨("Board", some "seen"), "seen", "Board.seen", defArgs (inClass (top 41) 4), defBody (inClass (top 41) 4), defScope (inClass (top 41) 4), [], []⟩
def d_Board_note : He.DefD := ⟨("Board", some "note"), "note", "Board.note", defArgs (inClass (top 41) 5), defBody (inClass (top 41) 5), defScope (inClass (top 41) 5), [], []⟩
def d_Board_check_place : He.DefD := ⟨("Board", some "check_place"), "check_place", "Board.check_place", defArgs (inClass (top 41) 6), defBody (inClass (top 41) 6), defScope (inClass (top 41) 6), [], []⟩
def d_Board_check_spot : He.DefD := ⟨("Board", some "check_spot"), "check_spot", "Board.check_spot", defArgs (inClass (top 41) 7), defBody (inClass (top 41) 7), defScope (inClass (top 41) 7), [], []⟩
def d_Board_check_version : He.DefD := ⟨("Board", some "check_version"), "check_version", "Board.check_version", defArgs (inClass (top 41) 8), defBody (inClass (top 41) 8), defScope (inClass (top 41) 8), [], []⟩
def d_Board_value_of : He.DefD := ⟨("Board", some "value_of"), "value_of", "Board.value_of", defArgs (inClass (top 41) 9), defBody (inClass (top 41) 9), defScope (inClass (top 41) 9), [], []⟩
def d_Board_worth : He.DefD := ⟨("Board", some "worth"), "worth", "Board.worth", defArgs (inClass (top 41) 10), defBody (inClass (top 41) 10), defScope (inClass (top 41) 10), [], []⟩
def d_Board_put : He.DefD := ⟨("Board", some "put"), "put", "Board.put", defArgs (inClass (top 41) 11), defBody (inClass (top 41) 11), defScope (inClass (top 41) 11), [], []⟩
def d_Board_show : He.DefD := ⟨("Board", some "show"), "show", "Board.show", defArgs (inClass (top 41) 12), defBody (inClass (top 41) 12), defScope (inClass (top 41) 12), [], []⟩
def d_Board_act : He.DefD := ⟨("Board", some "act"), "act", "Board.act", defArgs (inClass (top 41) 13), defBody (inClass (top 41) 13), defScope (inClass (top 41) 13), [], []⟩
def d_Board_tell : He.DefD := ⟨("Board", some "tell"), "tell", "Board.tell", defArgs (inClass (top 41) 14), defBody (inClass (top 41) 14), defScope (inClass (top 41) 14), [], []⟩
def d_Board_lose : He.DefD := ⟨("Board", some "lose"), "lose", "Board.lose", defArgs (inClass (top 41) 15), defBody (inClass (top 41) 15), defScope (inClass (top 41) 15), [], []⟩
def d_Board_turn : He.DefD := ⟨("Board", some "turn"), "turn", "Board.turn", defArgs (inClass (top 41) 16), defBody (inClass (top 41) 16), defScope (inClass (top 41) 16), [], []⟩
def d_Board_back : He.DefD := ⟨("Board", some "back"), "back", "Board.back", defArgs (inClass (top 41) 17), defBody (inClass (top 41) 17), defScope (inClass (top 41) 17), [], []⟩
def d_Board_twin : He.DefD := ⟨("Board", some "twin"), "twin", "Board.twin", defArgs (inClass (top 41) 18), defBody (inClass (top 41) 18), defScope (inClass (top 41) 18), [], []⟩
def d_Board_house : He.DefD := ⟨("Board", some "house"), "house", "Board.house", defArgs (inClass (top 41) 19), defBody (inClass (top 41) 19), defScope (inClass (top 41) 19), [], []⟩
def d_Board_state : He.DefD := ⟨("Board", some "state"), "state", "Board.state", defArgs (inClass (top 41) 20), defBody (inClass (top 41) 20), defScope (inClass (top 41) 20), [], []⟩
def d_Board_box : He.DefD := ⟨("Board", some "box"), "box", "Board.box", defArgs (inClass (top 41) 21), defBody (inClass (top 41) 21), defScope (inClass (top 41) 21), [], []⟩
def d_Board_versions : He.DefD := ⟨("Board", some "versions"), "versions", "Board.versions", defArgs (inClass (top 41) 22), defBody (inClass (top 41) 22), defScope (inClass (top 41) 22), [], []⟩
def d_Board_pictures : He.DefD := ⟨("Board", some "pictures"), "pictures", "Board.pictures", defArgs (inClass (top 41) 23), defBody (inClass (top 41) 23), defScope (inClass (top 41) 23), [], []⟩
def d_Board_late : He.DefD := ⟨("Board", some "late"), "late", "Board.late", defArgs (inClass (top 41) 24), defBody (inClass (top 41) 24), defScope (inClass (top 41) 24), [], []⟩
def d_Board_would : He.DefD := ⟨("Board", some "would"), "would", "Board.would", defArgs (inClass (top 41) 25), defBody (inClass (top 41) 25), defScope (inClass (top 41) 25), [], []⟩
def d_Board_run : He.DefD := ⟨("Board", some "run"), "run", "Board.run", defArgs (inClass (top 41) 26), defBody (inClass (top 41) 26), defScope (inClass (top 41) 26), [], []⟩
def d_Board_is_still : He.DefD := ⟨("Board", some "is_still"), "is_still", "Board.is_still", defArgs (inClass (top 41) 27), defBody (inClass (top 41) 27), defScope (inClass (top 41) 27), [], []⟩
def d_Board_shrinks_to : He.DefD := ⟨("Board", some "shrinks_to"), "shrinks_to", "Board.shrinks_to", defArgs (inClass (top 41) 28), defBody (inClass (top 41) 28), defScope (inClass (top 41) 28), [], []⟩
def d_Board_ends : He.DefD := ⟨("Board", some "ends"), "ends", "Board.ends", defArgs (inClass (top 41) 29), defBody (inClass (top 41) 29), defScope (inClass (top 41) 29), [], []⟩
def d_Board_will_settle : He.DefD := ⟨("Board", some "will_settle"), "will_settle", "Board.will_settle", defArgs (inClass (top 41) 30), defBody (inClass (top 41) 30), defScope (inClass (top 41) 30), [], []⟩
def d_Board_can_come : He.DefD := ⟨("Board", some "can_come"), "can_come", "Board.can_come", defArgs (inClass (top 41) 31), defBody (inClass (top 41) 31), defScope (inClass (top 41) 31), [], []⟩
def d_end_from : He.DefD := ⟨("end_from", none), "end_from", "end_from", defArgs (top 43), defBody (top 43), defScope (top 43), [], []⟩
def d_heights : He.DefD := ⟨("heights", none), "heights", "heights", defArgs (top 44), defBody (top 44), defScope (top 44), [], []⟩
def d_renewals : He.DefD := ⟨("renewals", none), "renewals", "renewals", defArgs (top 45), defBody (top 45), defScope (top 45), [], []⟩
def d__law_box : He.DefD := ⟨("_law_box", none), "_law_box", "_law_box", defArgs (top 47), defBody (top 47), defScope (top 47), [], []⟩
def d__law_take : He.DefD := ⟨("_law_take", none), "_law_take", "_law_take", defArgs (top 48), defBody (top 48), defScope (top 48), [], []⟩
def d__law_cells : He.DefD := ⟨("_law_cells", none), "_law_cells", "_law_cells", defArgs (top 49), defBody (top 49), defScope (top 49), [], []⟩
def d__law_of : He.DefD := ⟨("_law_of", none), "_law_of", "_law_of", defArgs (top 50), defBody (top 50), defScope (top 50), [], []⟩
def d__law_pick : He.DefD := ⟨("_law_pick", none), "_law_pick", "_law_pick", defArgs (top 51), defBody (top 51), defScope (top 51), [], []⟩
def d__law_same : He.DefD := ⟨("_law_same", none), "_law_same", "_law_same", defArgs (top 52), defBody (top 52), defScope (top 52), [], []⟩
def d__law_hall : He.DefD := ⟨("_law_hall", none), "_law_hall", "_law_hall", defArgs (top 53), defBody (top 53), defScope (top 53), [], []⟩
def d__law_spot : He.DefD := ⟨("_law_spot", none), "_law_spot", "_law_spot", defArgs (top 54), defBody (top 54), defScope (top 54), [], []⟩
def d__law_start : He.DefD := ⟨("_law_start", none), "_law_start", "_law_start", defArgs (top 55), defBody (top 55), defScope (top 55), [], []⟩
def d__law_point : He.DefD := ⟨("_law_point", none), "_law_point", "_law_point", defArgs (top 56), defBody (top 56), defScope (top 56), [], []⟩
def d__law_lap_so : He.DefD := ⟨("_law_lap_so", none), "_law_lap_so", "_law_lap_so", defArgs (top 57), defBody (top 57), defScope (top 57), [], []⟩
def d__law_laps_right : He.DefD := ⟨("_law_laps_right", none), "_law_laps_right", "_law_laps_right", defArgs (top 58), defBody (top 58), defScope (top 58), [], []⟩
def d__law_by_hand_right : He.DefD := ⟨("_law_by_hand_right", none), "_law_by_hand_right", "_law_by_hand_right", defArgs (top 59), defBody (top 59), defScope (top 59), [], []⟩
def d__law_right : He.DefD := ⟨("_law_right", none), "_law_right", "_law_right", defArgs (top 60), defBody (top 60), defScope (top 60), [], []⟩
def d_law : He.DefD := ⟨("law", none), "law", "law", defArgs (top 61), defBody (top 61), defScope (top 61), [], []⟩
def fnl : List He.DefD := [d_is_number, d_tupled, d_set_of, d_sizes_of, d_is_value, d_check_place, d_table_at, d_is_row, d_check_row, d_tells, d_tells_now, d_all_act, d_is_rest, d_rows_among, d_lies_in, d_point_of, d_rows_inside, d_told_part, d_told_box, d_laps_grown, d_grown, d_rounds, d_limit, d_begin_versions, d_put_at, d_Board___init__, d_Board___len__, d_Board___iter__, d_Board___eq__, d_Board_seen, d_Board_note, d_Board_check_place, d_Board_check_spot, d_Board_check_version, d_Board_value_of, d_Board_worth, d_Board_put, d_Board_show, d_Board_act, d_Board_tell, d_Board_lose, d_Board_turn, d_Board_back, d_Board_twin, d_Board_house, d_Board_state, d_Board_box, d_Board_versions, d_Board_pictures, d_Board_late, d_Board_would, d_Board_run, d_Board_is_still, d_Board_shrinks_to, d_Board_ends, d_Board_will_settle, d_Board_can_come, d_end_from, d_heights, d_renewals, d__law_box, d__law_take, d__law_cells, d__law_of, d__law_pick, d__law_same, d__law_hall, d__law_spot, d__law_start, d__law_point, d__law_lap_so, d__law_laps_right, d__law_by_hand_right, d__law_right, d_law]
def lwc : List (Str × D) := [("VALUES_houses", .int 0), ("WATCHED_houses", .int 1), ("TABLE", .int 2), ("PAIR", .int 2), ("VALUES_board", .int 0), ("WATCHED_board", .int 1)]
def lwb0 : List Str := ["abs", "all", "bool", "dict", "enumerate", "int", "isinstance", "len", "list", "max", "min", "range", "set", "sorted", "str", "tuple", "zip"]
def lwb : List Str := lwb0
def lwf0 : List Str := ["is_number", "tupled", "set_of", "sizes_of", "is_value", "check_place", "table_at", "is_row", "check_row", "tells", "tells_now", "all_act", "is_rest", "rows_among", "lies_in", "point_of", "rows_inside", "told_part", "told_box", "laps_grown", "grown", "rounds", "limit", "begin_versions", "put_at"]
def lwf1 : List Str := ["end_from", "heights", "renewals", "_law_box", "_law_take", "_law_cells", "_law_of", "_law_pick", "_law_same", "_law_hall", "_law_spot", "_law_start", "_law_point", "_law_lap_so", "_law_laps_right", "_law_by_hand_right", "_law_right", "law"]
def lwf : List Str := lwf0 ++ lwf1
def lwm0 : List (Str × Str) := [("Board", "__init__"), ("Board", "__len__"), ("Board", "__iter__"), ("Board", "__eq__"), ("Board", "seen"), ("Board", "note"), ("Board", "check_place"), ("Board", "check_spot"), ("Board", "check_version"), ("Board", "value_of"), ("Board", "worth"), ("Board", "put"), ("Board", "show"), ("Board", "act"), ("Board", "tell"), ("Board", "lose"), ("Board", "turn"), ("Board", "back"), ("Board", "twin"), ("Board", "house"), ("Board", "state"), ("Board", "box"), ("Board", "versions"), ("Board", "pictures"), ("Board", "late")]
def lwm1 : List (Str × Str) := [("Board", "would"), ("Board", "run"), ("Board", "is_still"), ("Board", "shrinks_to"), ("Board", "ends"), ("Board", "will_settle"), ("Board", "can_come")]
def lwm : List (Str × Str) := lwm0 ++ lwm1
def lwk : List Str := ["Board"]
def lwa0 : List (Str × Str) := [("Board", "own_versions"), ("Board", "own_pictures"), ("Board", "own_house"), ("Board", "own_start"), ("Board", "own_moves"), ("Board", "own_free"), ("Board", "own_past")]
def lwa : List (Str × Str) := lwa0
def lw : Lw := ⟨lwc, lwb, lwf, lwm, lwk, lwa⟩
def ns0 : List PySem.Str := ["_wall", "__name__", "NoName", "NoNumber", "NothingDone", "Unfit", "is_number", "tupled", "set_of", "VALUES_houses", "WATCHED_houses", "TABLE", "PAIR", "sizes_of", "is_value", "check_place", "table_at", "is_row", "check_row", "tells", "tells_now", "all_act", "is_rest", "rows_among", "lies_in", "point_of", "rows_inside", "told_part", "told_box", "laps_grown"]
def ns1 : List PySem.Str := ["grown", "rounds", "limit", "VALUES_board", "WATCHED_board", "begin_versions", "put_at", "Board", "end_from", "heights", "renewals", "_law_box", "_law_take", "_law_cells", "_law_of", "_law_pick", "_law_same", "_law_hall", "_law_spot", "_law_start", "_law_point", "_law_lap_so", "_law_laps_right", "_law_by_hand_right", "_law_right"]
def nsl : List PySem.Str := ns0 ++ ns1
abbrev R : PySem.W.OpenRow := PySem.W.OpenLaw.row PySem.Challenge.rw_latesights_k87_whole_laps_and_renewals
abbrev hk : PySem.W.Hook := He.hookD 5 (faOf lw) fnl
def ob (s : PySem.W.SharedT) : He.AlD := He.obsDG 5 (faOf lw) fnl (HandSHeadRun.getT s)
theorem ob_eq (s : PySem.W.SharedT) : ob s = hk.obs s.abs := He.obsDG_eq (HandSHeadRun.getT_eq s)
theorem run (w : World) : HandSHeadRun.RunEq R (PySem.W.view R.prog [61]) hk ob 6000 nsl w := by
  intro os
  kernel_rfl
theorem lw_ok : lwOk lw tab = true := by decide +kernel
theorem dfs_ok : okDfs lw tab fnl = true := by decide +kernel
end K87
open PySem PySem.W PySem.Calls PyProof.Rows
theorem K87.head (hlaw : ∀ ns : List Int, ns.length ≤ 63 → ∃ h', Mp.callN K87.tab ns 20 "law" none [.scr] [] = some (.d (.bool true), h')) : PySem.Challenge.rw_latesights_k87_whole_laps_and_renewals.Holds := by
  w_on; o_law
  refine HandSHeadRun.head_any (r := OpenLaw.row PySem.Challenge.rw_latesights_k87_whole_laps_and_renewals) (q := view (OpenLaw.row PySem.Challenge.rw_latesights_k87_whole_laps_and_renewals).prog [61]) (H := K87.hk) (ob := K87.ob) (M := 6000) (loose := K87.nsl) (d := HandSHeadRun.topDef (OpenLaw.row PySem.Challenge.rw_latesights_k87_whole_laps_and_renewals).prog 61) (kwd := []) K87.ob_eq
    (by kernel_rfl) (fun s => by kernel_rfl) K87.run (by kernel_rfl) (by kernel_rfl) (by kernel_rfl) (by rfl) (by first | assumption | decide +kernel) (by decide +kernel) ⟨rfl, rfl, rfl, rfl, rfl, by decide +kernel⟩ ?hw ?hc
  case hw => w_witness2
  case hc =>
    refine L2.walk_ofE (l := PySem.Challenge.rw_latesights_k87_whole_laps_and_renewals) (n := 63) (k := 2 * 20) (x := "_law_script") (CX := Mp.CX0) rfl (by decide) (by kernel_rfl) ⟨rfl, by decide, by decide⟩ ?F (fun _ _ _ _ z => z)
    intro w mg fa h Y G hmg0
    obtain ⟨K, KX, c⟩ := Y
    have hmg : mg ("law" : PySem.Str) = some (.ref fa) := by
      have e : (HandSHeadRun.topDef (OpenLaw.row PySem.Challenge.rw_latesights_k87_whole_laps_and_renewals).prog 61).name = ("law" : PySem.Str) := by kernel_rfl
      rw [← e]
      exact hmg0
    obtain ⟨fd, sp, hb, hsp, hF⟩ := Mp.law_facts (P := (PySem.Challenge.rw_latesights_k87_whole_laps_and_renewals).prog) (w := w) (T := K87.tab) (E := K87.fnl) (L := K87.lw) (x := "_law_script") (n := 20) KX G hmg c K87.lw_ok K87.dfs_ok (by decide +kernel) K87.fd_law rfl hlaw
    exact ⟨K, fd, sp, KX, hb, hsp, hF⟩
theorem PySem.Challenge.cw_latesights_k87_whole_laps_and_renewals_holds : PySem.Challenge.rw_latesights_k87_whole_laps_and_renewals.Holds := by
  exact K87.head K87.law_true
