import PyProof.Rows.All
import HandS.ForMost
import HandS.TupAny
import HandS.ForExc
import HandS.Flow
import HandS.Style
import HandS.Deep
import HandS.Conv
import HandS.IsInst
import HandS.TupMul
import HandS.More
import HandS.Text
import HandS.Dict
import HandS.SortInts
import HandS.WordsDict
import HandS.ExcOwn
import HandS.DictTup
import HandS.TupSets
import HandS.SortRule
import HandS.Zip
import HandS.Iter
import KE.GoesEnum
import HandS.WordsExc
import HandS.ExcCtx
import HandS.Words
import HandS.Defaults
import HandS.HeadHook1
import HandS.HeadHook2
import HandS.HeadHook3
import HandS.HeadHook4
import HandS.HeadEnd
import PySem.Challenge.RW_boxwire_k01_ports
import HandS.Head0
import HandS.Head1
import HandS.Head2
set_option Elab.async false
set_option autoImplicit false
set_option linter.all false
set_option maxRecDepth 100000
/-! GenA: plain data, a small language over it, its evaluator. -/
namespace B
open PySem

/-- plain data -/
inductive D where
  | non | bl (b : Bool) | int (i : Int) | str (s : Str)
  | tup (xs : List D) | lst (xs : List D) | dct (kvs : List (D × D)) | exc (c : Nat) | arg (ns : List Int)
  deriving Inhabited

inductive R (α : Type) where
  | ok (a : α) | exc (c : Nat) | bad
namespace R
@[inline] def bind {α β : Type} : R α → (α → R β) → R β
  | .ok a, f => f a
  | .exc c, _ => .exc c
  | .bad, _ => .bad
@[simp] theorem bind_ok {α β : Type} (a : α) (f : α → R β) : (R.ok a).bind f = f a := rfl
@[simp] theorem bind_exc {α β : Type} (c : Nat) (f : α → R β) : (R.exc c : R α).bind f = .exc c := rfl
@[simp] theorem bind_bad {α β : Type} (f : α → R β) : (R.bad : R α).bind f = .bad := rfl
/-- no exception is let out -/
def nox {α : Type} : R α → R α
  | .exc _ => .bad
  | r => r
@[simp] theorem nox_ok {α : Type} (a : α) : (R.ok a).nox = .ok a := rfl
@[simp] theorem nox_bad {α : Type} : (R.bad : R α).nox = .bad := rfl
@[simp] theorem nox_exc {α : Type} (c : Nat) : (R.exc c : R α).nox = .bad := rfl
end R

abbrev SZ : Nat := 16777216

namespace D
mutual
/-- nothing that can be changed stands in it -/
def imm : D → Bool
  | .non | .bl _ | .int _ | .str _ => true
  | .tup xs => immL xs
  | .lst _ | .dct _ | .exc _ | .arg _ => false
def immL : List D → Bool
  | [] => true
  | x :: xs => imm x && immL xs
end
def immKV : List (D × D) → Bool
  | [] => true
  | (_, b) :: r => imm b && immKV r
/-- a list or dict of things that can't be changed -/
def immTop : D → Bool
  | .lst xs => immL xs
  | .dct kvs => immKV kvs
  | _ => false
mutual
/-- no dict, no exception within -/
def plain : D → Bool
  | .non | .bl _ | .int _ | .str _ => true
  | .tup xs | .lst xs => plainL xs
  | .dct _ | .exc _ | .arg _ => false
def plainL : List D → Bool
  | [] => true
  | x :: xs => plain x && plainL xs
end
mutual
def dep : D → Nat
  | .non | .bl _ | .int _ | .str _ | .exc _ | .arg _ => 0
  | .tup xs | .lst xs => depL xs + 1
  | .dct _ => 0
def depL : List D → Nat
  | [] => 0
  | x :: xs => max (dep x) (depL xs)
end
mutual
/-- == -/
def eqv : D → D → Bool
  | .non, .non => true
  | .bl a, .bl b => a == b
  | .bl a, .int j => (if a then 1 else 0) == j
  | .int i, .bl b => i == (if b then 1 else 0)
  | .int i, .int j => i == j
  | .str x, .str y => x == y
  | .lst xs, .lst ys => eqvL xs ys
  | .tup xs, .tup ys => eqvL xs ys
  | _, _ => false
def eqvL : List D → List D → Bool
  | [], [] => true
  | x :: xs, y :: ys => eqv x y && eqvL xs ys
  | _, _ => false
end
/-- the depth that == may go down to -/
abbrev DM : Nat := 150
def eqOk (d e : D) : Bool := plain d && plain e && decide (min (dep d) (dep e) ≤ DM)

def truth : D → R Bool
  | .non => .ok false
  | .bl b => .ok b
  | .int i => .ok (i != 0)
  | .str s => .ok ((s.length : Int) != 0)
  | .tup xs => .ok (!xs.isEmpty)
  | .lst xs => .ok (!xs.isEmpty)
  | .dct _ | .exc _ | .arg _ => .bad
def small (i : Int) : Bool := decide (-(2 ^ 64) < i ∧ i < 2 ^ 64)
def fits63 (i : Int) : Bool := decide (-(2 ^ 63) ≤ i ∧ i < 2 ^ 63)
def fits62 (i : Int) : Bool := decide (-(2 ^ 62) ≤ i ∧ i < 2 ^ 62)
def add : D → D → R D
  | .int a, .int b => .ok (.int (a + b))
  | .str a, .str b => if a.length + b.length ≤ SZ then .ok (.str (a ++ b)) else .bad
  | .tup a, .tup b => if a.length + b.length ≤ SZ then .ok (.tup (a ++ b)) else .bad
  | .lst a, .lst b => if a.length + b.length ≤ SZ then .ok (.lst (a ++ b)) else .bad
  | _, _ => .bad
def sub : D → D → R D
  | .int a, .int b => .ok (.int (a - b))
  | _, _ => .bad
def mul : D → D → R D
  | .int a, .int b => if small a || small b then .ok (.int (a * b)) else .bad
  | .lst xs, .int k => if fits63 k && decide (xs.length * k.toNat ≤ SZ) then .ok (.lst (List.replicate k.toNat xs).flatten) else .bad
  | _, _ => .bad
def mod : D → D → R D
  | .int a, .int b => if 0 < b then .ok (.int (a % b)) else .bad
  | _, _ => .bad
def fdiv : D → D → R D
  | .int a, .int b => if 0 < b ∧ b < 1073741824 then .ok (.int (a / b)) else .bad
  | _, _ => .bad
end D

inductive Op where | add | sub | mul | mod | fdiv
inductive Cm where | eq | ne | lt | le | gt | ge | «in» | nin | is | isnot
inductive Ty where | int | bool | str | tuple | cls (c : Nat)
inductive Bi where
  | len | tup | lst | sorted | sset | lset | dict | max | max0 | min | sum | all | any | isi (ts : List Ty) | str | int
  | get | index | copy | join | split | count | upper
/-- what is walked -/
inductive IK where | seq | rng1 | rng2 | enu | zip | keys | str
/-- a target -/
inductive Tg where | nm (i : Nat) | tp (is : List Nat)

namespace D
def opD : Op → D → D → R D
  | .add => add | .sub => sub | .mul => mul | .mod => mod | .fdiv => fdiv
def find (kvs : List (D × D)) (k : D) : Option D := (kvs.find? fun p => eqv p.1 k).map (·.2)
def put (kvs : List (D × D)) (k v : D) : List (D × D) :=
  if kvs.any (fun p => eqv p.1 k) then kvs.map (fun p => if eqv p.1 k then (p.1, v) else p) else kvs ++ [(k, v)]
def isKey : D → Bool
  | .int _ | .str _ => true
  | _ => false
def isKeys : List D → Bool
  | [] => true
  | x :: xs => isKey x && isKeys xs
/-- a key of a dict: a number, a text; a tuple of such -/
def keyTy : D → Option Bool
  | .int _ | .str _ => some false
  | .tup xs => if isKeys xs then some true else none
  | _ => none
/-- the dict's keys are of one sort -/
def keysTy (t : Bool) : List (D × D) → Bool
  | [] => true
  | p :: r => (keyTy p.1 == some t) && keysTy t r
def mem (x : D) : D → R Bool
  | .lst xs | .tup xs => if plain x && plainL xs && decide (min (depL xs) (dep x) ≤ DM) then .ok (xs.any fun y => eqv y x) else .bad
  | .dct kvs => match keyTy x with
    | some t => if keysTy t kvs && !(t && kvs.isEmpty) then .ok (find kvs x).isSome else .bad
    | none => .bad
  | .str s => match x with
    | .str c => (match c.cps.toList with
      | [a] => .ok (s.cps.toList.contains a)
      | _ => .bad)
    | _ => .bad
  | _ => .bad
def ltD : D → D → R Bool
  | .int a, .int b => .ok (decide (a < b))
  | .str a, .str b => .ok (decide (a.cps.toList < b.cps.toList))
  | _, _ => .bad
def leD : D → D → R Bool
  | .int a, .int b => .ok (decide (a ≤ b))
  | .str a, .str b => .ok (!decide (b.cps.toList < a.cps.toList))
  | _, _ => .bad
def cmD : Cm → D → D → R Bool
  | .eq, a, b => if eqOk a b then .ok (eqv a b) else .bad
  | .ne, a, b => if eqOk a b then .ok (!eqv a b) else .bad
  | .lt, a, b => ltD a b
  | .le, a, b => leD a b
  | .gt, .int a, .int b => .ok (decide (b < a))
  | .ge, .int a, .int b => .ok (decide (b ≤ a))
  | .in, a, b => mem a b
  | .nin, a, b => (mem a b).bind fun c => .ok (!c)
  | .is, .non, .non => .ok true
  | .is, .exc _, .non => .ok false
  | .is, .bl a, .bl b => .ok (a == b)
  | .is, .int _, .non => .ok false
  | .is, .bl _, .non => .ok false
  | .is, .str _, .non => .ok false
  | .is, .tup _, .non => .ok false
  | .is, .lst _, .non => .ok false
  | .isnot, .non, .non => .ok false
  | .isnot, .exc _, .non => .ok true
  | .isnot, .bl a, .bl b => .ok (!(a == b))
  | .isnot, .int _, .non => .ok true
  | .isnot, .bl _, .non => .ok true
  | .isnot, .str _, .non => .ok true
  | .isnot, .tup _, .non => .ok true
  | .isnot, .lst _, .non => .ok true
  | _, _, _ => .bad
def cut {α : Type} (xs : List α) (lo hi : Option Int) : List α := (xs.drop (HT.sIx xs.length 0 lo)).take (HT.sIx xs.length xs.length hi - HT.sIx xs.length 0 lo)
def ixD : D → D → R D
  | .tup xs, .int i => match L2.atI xs i with
    | some v => .ok v
    | none => .bad
  | .lst xs, .int i => match L2.atI xs i with
    | some v => .ok v
    | none => .bad
  | .str s, .int i => match L2.atI s.cps.toList i with
    | some c => .ok (.str ⟨#[c]⟩)
    | none => .bad
  | .arg ns, .int i => match L2.atI ns i with
    | some n => .ok (.int n)
    | none => .bad
  | .dct kvs, k => match keyTy k with
    | some t => if keysTy t kvs && !(t && kvs.isEmpty) then (match find kvs k with
      | some v => .ok v
      | none => .bad) else .bad
    | none => .bad
  | _, _ => .bad
def slD (d : D) (lo hi : Option Int) : R D := match d with
  | .tup xs => .ok (.tup (cut xs lo hi))
  | .lst xs => .ok (.lst (cut xs lo hi))
  | .str s => .ok (.str (L2.cutS s lo hi))
  | _ => .bad
/-! ### sorting -/
/-- all intsD -/
def intsD : List D → Option (List Int)
  | [] => some []
  | .int i :: r => (intsD r).map (i :: ·)
  | _ => none
/-- a tuple of intsD -/
def intTup : D → Option (List Int)
  | .tup xs => intsD xs
  | _ => none
def tupsD : List D → Option (List (List Int))
  | [] => some []
  | d :: r => match intTup d with
    | some n => (tupsD r).map (n :: ·)
    | none => none
def ins {α : Type} (lt : α → α → Bool) (x : α) : List α → List α
  | [] => [x]
  | y :: ys => if lt y x then y :: ins lt x ys else x :: y :: ys
/-- sorted, equal ones in their order -/
def isort {α : Type} (lt : α → α → Bool) : List α → List α
  | [] => []
  | x :: xs => ins lt x (isort lt xs)
def iTup (ns : List Int) : D := .tup (ns.map .int)
def nub {α : Type} (eq : α → α → Bool) : List α → List α
  | [] => []
  | x :: xs => x :: (nub eq xs).filter fun y => !eq x y
def sortL (xs : List D) : R D := match intsD xs with
  | some ns => .ok (.lst ((isort (fun a b => decide (a < b)) ns).map .int))
  | none => match tupsD xs with
    | some ts => if ts.all (fun t => !t.isEmpty) then .ok (.lst ((isort HT.lexLt ts).map iTup)) else .bad
    | none => .bad
def items : D → Option (List D)
  | .lst xs | .tup xs => some xs
  | _ => none
/-- tuples of d numbers, none below nought -/
def evenT (ts : List (List Int)) : Bool := ts.all fun t => (t.length == (ts.headD []).length) && !t.isEmpty && t.all fun n => decide (0 ≤ n)
def setL (xs : List D) : R (List D) := match intsD xs with
  | some ns => if ns.length < 64 then .ok ((nub (· == ·) ns).map .int) else .bad
  | none => match tupsD xs with
    | some ts => if ts.length < 64 then .ok ((nub (· == ·) ts).map iTup) else .bad
    | none => .bad
/-- sorted(set(xs)) -/
def ssetL (xs : List D) : R D := match tupsD xs with
  | some ts => if ts.length < 64 && evenT ts then .ok (.lst ((isort HT.lexLt (nub (· == ·) ts)).map iTup)) else .bad
  | none => .bad
def boolsD : List D → Option (List Bool)
  | [] => some []
  | .bl b :: r => (boolsD r).map (b :: ·)
  | _ => none
def strsD : List D → Option (List Str)
  | [] => some []
  | .str b :: r => (strsD r).map (b :: ·)
  | _ => none
def pairs : List D → Option (List (D × D))
  | [] => some []
  | .tup [k, v] :: r => (pairs r).map ((k, v) :: ·)
  | _ => none
def putAll (acc : List (D × D)) : List (D × D) → List (D × D)
  | [] => acc
  | p :: r => putAll (put acc p.1 p.2) r
def dictD (xs : List D) : R D := match pairs xs with
  | some ps => if keysTy false ps then .ok (.dct (putAll [] ps)) else .bad
  | none => .bad
def maxL : Int → List Int → Int
  | m, [] => m
  | m, x :: r => maxL (if x > m then x else m) r
def minL : Int → List Int → Int
  | m, [] => m
  | m, x :: r => minL (if x < m then x else m) r
def isTy (t : Ty) : D → Option Bool
  | .exc _ => none
  | .dct _ => none
  | .arg _ => none
  | d => match t, d with
    | .int, .int _ => some true
    | .int, .bl _ => some true
    | .bool, .bl _ => some true
    | .str, .str _ => some true
    | .tuple, .tup _ => some true
    | .cls _, _ => none
    | _, _ => some false
def isTys : List Ty → D → Option Bool
  | [], _ => some false
  | t :: ts, d => match isTy t d with
    | some true => some true
    | some false => isTys ts d
    | none => none
def indexOf (x : D) : List D → Option Nat
  | [] => none
  | y :: ys => if eqv y x then some 0 else (indexOf x ys).map (· + 1)
/-- builtins of one, two, three -/
def bi1 : Bi → D → R D
  | .len, .str s => .ok (.int s.length)
  | .len, .arg ns => .ok (.int ns.length)
  | .len, .tup xs => .ok (.int xs.length)
  | .len, .lst xs => .ok (.int xs.length)
  | .len, .dct kvs => if keysTy false kvs then .ok (.int kvs.length) else .bad
  | .tup, .tup xs => .ok (.tup xs)
  | .tup, .lst xs => .ok (.tup xs)
  | .lst, .tup xs => .ok (.lst xs)
  | .lst, .lst xs => .ok (.lst xs)
  | .sorted, .lst xs => sortL xs
  | .sset, .lst xs => ssetL xs
  | .lset, .lst xs => (setL xs).bind fun ys => .ok (.int ys.length)
  | .lset, .tup xs => (setL xs).bind fun ys => .ok (.int ys.length)
  | .dict, .lst xs => dictD xs
  | .max, .lst xs => (match intsD xs with
    | some (m :: ns) => .ok (.int (maxL m ns))
    | _ => .bad)
  | .min, .lst xs => (match intsD xs with
    | some (m :: ns) => .ok (.int (minL m ns))
    | _ => .bad)
  | .sum, .lst xs => (match intsD xs with
    | some ns => .ok (.int ns.sum)
    | none => .bad)
  | .all, .lst xs => (match boolsD xs with
    | some bs => .ok (.bl (bs.all id))
    | none => .bad)
  | .any, .lst xs => (match boolsD xs with
    | some bs => .ok (.bl (bs.any id))
    | none => .bad)
  | .isi ts, d => (match isTys ts d with
    | some b => .ok (.bl b)
    | none => .bad)
  | .str, .int i => if 0 ≤ i ∧ i < 1000000 then .ok (.str (toString i)) else .bad
  | .int, .int i => .ok (.int i)
  | .int, .bl b => .ok (.int (if b then 1 else 0))
  | _, _ => .bad
def biD (b : Bi) (ds : List D) : R D := match ds with
  | [d] => bi1 b d
  | _ => .bad
/-- methods: what they are called on -/
def recv : Bi → D → Bool
  | .get, .dct _ => true
  | .copy, .dct _ => true
  | .index, .lst _ => true
  | .join, .str _ => true
  | .split, .str _ => true
  | .count, .str _ => true
  | .upper, .str _ => true
  | _, _ => false
def getM (kvs : List (D × D)) (k v : D) : R D := match keyTy k with
  | some t => if keysTy t kvs && !(t && kvs.isEmpty) then .ok ((find kvs k).getD v) else .bad
  | none => .bad
def indexM (xs : List D) (x : D) : R D := if plain x && plainL xs && decide (depL xs ≤ 60) && decide (dep x ≤ 60) then (match indexOf x xs with
  | some j => .ok (.int (j : Nat))
  | none => .bad) else .bad
def mtD : Bi → D → List D → R D
  | .get, .dct kvs, [k, v] => getM kvs k v
  | .copy, .dct kvs, [] => .ok (.dct kvs)
  | .index, .lst xs, [x] => indexM xs x
  | _, _, _ => .bad
def enumFrom (n : Nat) : List D → List D
  | [] => []
  | x :: xs => .tup [.int n, x] :: enumFrom (n + 1) xs
def zipD : List D → List D → List D
  | x :: xs, y :: ys => .tup [x, y] :: zipD xs ys
  | _, _ => []
def rangeD (lo : Int) : Nat → List D
  | 0 => []
  | n + 1 => .int lo :: rangeD (lo + 1) n
def itD : IK → List D → R (List D)
  | .seq, [.lst xs] => .ok xs
  | .seq, [.tup xs] => .ok xs
  | .rng1, [.int n] => if fits62 n && decide (n ≤ SZ) then .ok (rangeD 0 n.toNat) else .bad
  | .rng2, [.int a, .int b] => if fits62 a && fits62 b && decide (b - a ≤ SZ) then .ok (rangeD a (b - a).toNat) else .bad
  | .enu, [.lst xs] => .ok (enumFrom 0 xs)
  | .enu, [.tup xs] => .ok (enumFrom 0 xs)
  | .zip, [.lst xs, .lst ys] => .ok (zipD xs ys)
  | .zip, [.tup xs, .tup ys] => .ok (zipD xs ys)
  | .keys, [.dct kvs] => .ok (kvs.map (·.1))
  | .str, [.str s] => .ok (s.cps.toList.map fun c => .str ⟨#[c]⟩)
  | _, _ => .bad
end D

/-! ### the language -/
mutual
inductive DE where
  | v (i : Nat) | k (d : D) | g (i : Nat)
  | tup (es : DEs) | lst (es : DEs) | dct (ks : List Str) (es : DEs)
  | op (o : Op) (a b : DE) | cmp (o : Cm) (a b : DE) | chn (o o' : Cm) (a b c : DE)
  | and (a b : DE) | or (a b : DE) | not (a : DE) | neg (a : DE) | ite (c a b : DE)
  | ix (a i : DE) | gix (g : Nat) (i : DE) | gin (g : Nat) (i : DE) | slA (a lo : DE) | slB (a hi : DE) | slC (a lo hi : DE) | rev (a : DE)
  | call (f : Nat) (es : DEs) | bi (b : Bi) (es : DEs) | mt (b : Bi) (a : DE) (es : DEs)
  | lc (m : Bool) (elt : DE) (t : Tg) (k : IK) (src : DEs) (cond : DEs) (own : List Nat)
inductive DEs where
  | nil | cons (e : DE) (es : DEs)
end
abbrev Env := List (Option D)
def wipeE (env : Env) : List Nat → Env
  | [] => env
  | v :: vs => (wipeE env vs).set v none
def getE (env : Env) (i : Nat) : R D := match env[i]? with
  | some (some d) => .ok d
  | _ => .bad
/-- several slots, one after another -/
def setEs : List Nat → List D → Env → Option Env
  | [], [], env => some env
  | i :: is, d :: ds, env => setEs is ds (env.set i (some d))
  | _, _, _ => none
/-- a target takes a value -/
def tgE : Tg → D → Env → Option Env
  | .nm i, d, env => some (env.set i (some d))
  | .tp is, .tup ds, env => setEs is ds env
  | .tp _, _, _ => none
/-- a comprehension over these items; f: what an item gives, none where a test leaves it out -/
def lcE (f : D → R (Option D)) : List D → R (List D)
  | [] => .ok []
  | x :: xs => (f x).bind fun o => (lcE f xs).bind fun r => .ok (match o with
    | some d => d :: r
    | none => r)
section
variable (C : Nat → List D → R D) (G : List D)
mutual
def ev : DE → Env → R D
  | .v i, env => getE env i
  | .k d, _ => .ok d
  | .g i, _ => match G[i]? with
    | some (.int n) => .ok (.int n)
    | some (.str z) => .ok (.str z)
    | _ => .bad
  | .tup es, env => (evs es env).bind fun ds => .ok (.tup ds)
  | .lst es, env => (evs es env).bind fun ds => .ok (.lst ds)
  | .dct ks es, env => (evs es env).bind fun ds => .ok (.dct (D.putAll [] ((ks.map D.str).zip ds)))
  | .op o a b, env => (ev a env).bind fun x => (ev b env).bind fun y => D.opD o x y
  | .cmp o a b, env => (ev a env).bind fun x => (ev b env).bind fun y => (D.cmD o x y).bind fun c => .ok (.bl c)
  | .chn o o' a b c, env => (ev a env).bind fun x => (ev b env).bind fun y => (D.cmD o x y).bind fun t => if t then (ev c env).bind fun z => (D.cmD o' y z).bind fun u => .ok (.bl u) else .ok (.bl false)
  | .and a b, env => (ev a env).bind fun x => (D.truth x).bind fun t => if t then ev b env else .ok x
  | .or a b, env => (ev a env).bind fun x => (D.truth x).bind fun t => if t then .ok x else ev b env
  | .not a, env => (ev a env).bind fun x => (D.truth x).bind fun t => .ok (.bl (!t))
  | .neg a, env => (ev a env).bind fun x => match x with
    | .int i => .ok (.int (-i))
    | _ => .bad
  | .ite c a b, env => (ev c env).bind fun x => (D.truth x).bind fun t => if t then ev a env else ev b env
  | .ix a i, env => (ev a env).bind fun x => (ev i env).bind fun y => D.ixD x y
  | .gix g i, env => match G[g]? with
    | some (.dct kvs) => (ev i env).bind fun y => match y with
      | .str z => (match D.find kvs (.str z) with
        | some d => .ok d
        | none => .bad)
      | _ => .bad
    | _ => .bad
  | .gin g i, env => match G[g]? with
    | some (.dct kvs) => (ev i env).bind fun y => match y with
      | .str z => .ok (.bl (D.find kvs (.str z)).isSome)
      | _ => .bad
    | _ => .bad
  | .slA a lo, env => (ev a env).bind fun x => (ev lo env).bind fun y => match y with
    | .int i => D.slD x (some i) none
    | _ => .bad
  | .slB a hi, env => (ev a env).bind fun x => (ev hi env).bind fun y => match y with
    | .int i => D.slD x none (some i)
    | _ => .bad
  | .slC a lo hi, env => (ev a env).bind fun x => (ev lo env).bind fun y => match y with
    | .int i => (ev hi env).bind fun z => (match z with
      | .int j => D.slD x (some i) (some j)
      | _ => .bad)
    | _ => .bad
  | .rev a, env => (ev a env).bind fun x => match x with
    | .lst xs => .ok (.lst xs.reverse)
    | _ => .bad
  | .call f es, env => (evs es env).bind fun ds => C f ds
  | .bi b es, env => (evs es env).bind fun ds => D.biD b ds
  | .mt b a es, env => (ev a env).bind fun x => if D.recv b x then (evs es env).bind fun ds => D.mtD b x ds else .bad
  | .lc m elt t k src cond own, env => (evs src env).bind fun ds => (D.itD k ds).bind fun xs => if m && !D.immL xs then .bad else (lcE (fun x => match tgE t x (wipeE env own) with
    | none => .bad
    | some env1 => (evc cond env1).nox.bind fun c => if c then (ev elt env1).nox.bind fun d => (if m && !d.imm then .bad else .ok (some d)) else .ok none) xs).bind fun r => .ok (.lst r)
def evs : DEs → Env → R (List D)
  | .nil, _ => .ok []
  | .cons e es, env => (ev e env).bind fun d => (evs es env).bind fun ds => .ok (d :: ds)
/-- all these tests -/
def evc : DEs → Env → R Bool
  | .nil, _ => .ok true
  | .cons e es, env => (ev e env).bind fun x => (D.truth x).bind fun t => if t then evc es env else .ok false
end
end

/-! ### statements -/
inductive O where
  | nx (e : Env) | rt (d : D) | bk (e : Env) | ct (e : Env) | exc (c : Nat) (e : Env) | bad
mutual
inductive DS where
  /-- name = e: a name that is never changed in its place -/
  | set (i : Nat) (e : DE)
  /-- .. whose e may tell of such a name: what comes must be of things that can't be changed -/
  | setI (i : Nat) (e : DE)
  /-- .. of a name that is changed in its place: e makes it anew -/
  | setM (i : Nat) (e : DE)
  | tp (is : List Nat) (e : DE)
  | app (i : Nat) (e : DE) | ext (i : Nat) (e : DE) | pop (j i : Nat) | put (i : Nat) (k e : DE)
  | ex (e : DE)
  | ite (c : DE) (a b : DSs)
  | «for» (m : Bool) (t : Tg) (k : IK) (src : DEs) (body : DSs)
  | «while» (c : DE) (body : DSs)
  | ret (e : DE) | retN | raise (c : Nat) | brk | cont | pass
inductive DSs where
  | nil | cons (s : DS) (ss : DSs)
end
def R.then {α : Type} (r : R α) (env : Env) (f : α → O) : O := match r with
  | .ok a => f a
  | .exc c => .exc c env
  | .bad => .bad
@[simp] theorem R.then_ok {α : Type} (a : α) (env : Env) (f : α → O) : (R.ok a).then env f = f a := rfl
@[simp] theorem R.then_exc {α : Type} (c : Nat) (env : Env) (f : α → O) : (R.exc c : R α).then env f = .exc c env := rfl
@[simp] theorem R.then_bad {α : Type} (env : Env) (f : α → O) : (R.bad : R α).then env f = .bad := rfl
/-- one turn's end -/
def O.turn (o : O) (f : Env → O) : O := match o with
  | .nx e => f e
  | .ct e => f e
  | .bk e => .nx e
  | o => o
def O.next (o : O) (f : Env → O) : O := match o with
  | .nx e => f e
  | o => o
@[simp] theorem O.next_nx (e : Env) (f : Env → O) : (O.nx e).next f = f e := rfl
@[simp] theorem O.next_rt (d : D) (f : Env → O) : (O.rt d).next f = .rt d := rfl
@[simp] theorem O.next_bk (e : Env) (f : Env → O) : (O.bk e).next f = .bk e := rfl
@[simp] theorem O.next_ct (e : Env) (f : Env → O) : (O.ct e).next f = .ct e := rfl
@[simp] theorem O.next_exc (c : Nat) (e : Env) (f : Env → O) : (O.exc c e).next f = .exc c e := rfl
@[simp] theorem O.next_bad (f : Env → O) : O.bad.next f = .bad := rfl
@[simp] theorem O.turn_nx (e : Env) (f : Env → O) : (O.nx e).turn f = f e := rfl
@[simp] theorem O.turn_ct (e : Env) (f : Env → O) : (O.ct e).turn f = f e := rfl
@[simp] theorem O.turn_bk (e : Env) (f : Env → O) : (O.bk e).turn f = .nx e := rfl
@[simp] theorem O.turn_rt (d : D) (f : Env → O) : (O.rt d).turn f = .rt d := rfl
@[simp] theorem O.turn_exc (c : Nat) (e : Env) (f : Env → O) : (O.exc c e).turn f = .exc c e := rfl
@[simp] theorem O.turn_bad (f : Env → O) : O.bad.turn f = .bad := rfl
def forE (t : Tg) (f : Env → O) : List D → Env → O
  | [], env => .nx env
  | x :: xs, env => match tgE t x env with
    | none => .bad
    | some env1 => (f env1).turn (forE t f xs)
def whileE (c : Env → R Bool) (f : Env → O) : Nat → Env → O
  | 0, _ => .bad
  | n + 1, env => (c env).then env fun b => if b then (f env).turn (whileE c f n) else .nx env
section
variable (C : Nat → List D → R D) (G : List D) (W : Nat)
mutual
def evS : DS → Env → O
  | .set i e, env => (ev C G e env).then env fun d => .nx (env.set i (some d))
  | .setI i e, env => (ev C G e env).then env fun d => if d.imm then .nx (env.set i (some d)) else .bad
  | .setM i e, env => (ev C G e env).then env fun d => if d.immTop then .nx (env.set i (some d)) else .bad
  | .tp is e, env => (ev C G e env).then env fun d => (match d with
    | .tup ds => (match setEs is ds env with
      | some env1 => .nx env1
      | none => .bad)
    | _ => .bad)
  | .app i e, env => (getE env i).then env fun x => match x with
    | .lst xs => (ev C G e env).then env fun d => if d.imm && decide (xs.length < SZ) then .nx (env.set i (some (.lst (xs ++ [d])))) else .bad
    | _ => .bad
  | .ext i e, env => (getE env i).then env fun x => match x with
    | .lst xs => (ev C G e env).then env fun d => (match d with
      | .lst ys => if D.immL ys && decide (xs.length + ys.length ≤ SZ) then .nx (env.set i (some (.lst (xs ++ ys)))) else .bad
      | _ => .bad)
    | _ => .bad
  | .pop j i, env => (getE env i).then env fun x => match x with
    | .lst xs => (match xs.getLast? with
      | some d => .nx ((env.set i (some (.lst xs.dropLast))).set j (some d))
      | none => .bad)
    | _ => .bad
  | .put i k e, env => (ev C G e env).then env fun d => (getE env i).then env fun x => (ev C G k env).then env fun y => if d.imm then (match x with
    | .lst xs => (match y with
      | .int n => (match L2.ixN xs.length n with
        | some j => .nx (env.set i (some (.lst (xs.set j d))))
        | none => .bad)
      | _ => .bad)
    | .dct kvs => if (D.keyTy y == some false) && D.keysTy false kvs && decide (kvs.length < SZ) then .nx (env.set i (some (.dct (D.put kvs y d)))) else .bad
    | _ => .bad) else .bad
  | .ex e, env => (ev C G e env).then env fun _ => .nx env
  | .ite c a b, env => ((ev C G c env).bind D.truth).then env fun t => if t then evSs a env else evSs b env
  | .for m t k src body, env => ((evs C G src env).bind (D.itD k)).then env fun xs => if m && !D.immL xs then .bad else forE t (evSs body) xs env
  | .while c body, env => whileE (fun e => (ev C G c e).bind D.truth) (evSs body) W env
  | .ret e, env => (ev C G e env).then env fun d => .rt d
  | .retN, _ => .rt .non
  | .raise c, env => .exc c env
  | .brk, env => .bk env
  | .cont, env => .ct env
  | .pass, env => .nx env
def evSs : DSs → Env → O
  | .nil, env => .nx env
  | .cons s ss, env => (evS s env).next (evSs ss)
end
end
mutual
/-- the slots that it may write -/
def DS.wr : DS → List Nat
  | .set i _ | .setI i _ | .setM i _ | .app i _ | .ext i _ | .put i _ _ => [i]
  | .pop j i => [i, j]
  | .tp is _ => is
  | .ite _ a b => a.wr ++ b.wr
  | .for _ t _ _ body => (match t with
    | .nm i => [i]
    | .tp is => is) ++ body.wr
  | .while _ body => body.wr
  | .ex _ | .ret _ | .retN | .raise _ | .brk | .cont | .pass => []
def DSs.wr : DSs → List Nat
  | .nil => []
  | .cons s ss => s.wr ++ ss.wr
end
/-- a def: how many parameters, how many slots, the slots that are changed in their place, the body -/
structure Fn where
  np : Nat
  nl : Nat
  M : List Nat
  body : DSs
def startE (n : Nat) (ds : List D) : Env := ds.map some ++ List.replicate (n - ds.length) none
def endR : O → R D
  | .rt d => .ok d
  | .nx _ => .ok .non
  | .exc c _ => .exc c
  | _ => .bad
/-- a call of the i-th def, at most k calls deep -/
def run (T : Nat → Option Fn) (G : List D) (W : Nat) : Nat → Nat → List D → R D
  | 0, _, _ => .bad
  | k + 1, i, ds => match T i with
    | none => .bad
    | some f => if ds.length = f.np then endR (evSs (run T G W k) G W f.body (startE f.nl ds)) else .bad
end B

/-! GenB: what bears a datum; the judgement of an expression. -/
namespace B
open PySem PySem.Spec PyProof.Rows L2

theorem sz_eq : sizeLine = SZ := sizeLine_eq

/-! ### what bears a datum: in the abstract heap H; lists and dicts stand where A allows -/
mutual
inductive Rep (K : PySem.W.Frag) (H : Hp) (A : Addr → Prop) : V → D → Prop
  | non : Rep K H A .non .non
  | bl (b : Bool) : Rep K H A (.bl b) (.bl b)
  | int (i : Int) : Rep K H A (.int i) (.int i)
  | str (x : Str) : PyData.strOk x = true → x.length ≤ SZ → Rep K H A (.str x) (.str x)
  | tup {a : Addr} {xs : List V} {ds : List D} : SqT K H a xs → RepL K H A xs ds → ds.length ≤ SZ → Rep K H A (.ref a) (.tup ds)
  | lst {a : Addr} {xs : List V} {ds : List D} : H a = some (.lst xs) → A a → RepL K H A xs ds → ds.length ≤ SZ → Rep K H A (.ref a) (.lst ds)
  | dk {a : Addr} {kvs : List (Key × V)} {ds : List (D × D)} : Rd H a (.dK kvs) → A a → RepK K H A kvs ds → ds.length ≤ SZ → Rep K H A (.ref a) (.dct ds)
  | dt {a : Addr} {kvs : List (List Key × V)} {ds : List (D × D)} : Rd H a (.dT kvs) → A a → RepT K H A kvs ds → ds ≠ [] → ds.length ≤ SZ → Rep K H A (.ref a) (.dct ds)
  | arg {a : Addr} {ns : List Int} {o : Obj} : (H a = some (.frz o (.lst (ns.map V.int))) ∨ ∃ (o : Obj) (its : Array Value) (n : Nat), K.lookup a = some o ∧ o.cls = .type "list" ∧ o.dict = none ∧ o.data = .seq its n ∧ its.size ≤ sizeLine ∧ Vals (ns.map V.int) its.toList) → Rep K H A (.ref a) (.arg ns)
inductive RepL (K : PySem.W.Frag) (H : Hp) (A : Addr → Prop) : List V → List D → Prop
  | nil : RepL K H A [] []
  | cons {v : V} {vs : List V} {d : D} {ds : List D} : Rep K H A v d → RepL K H A vs ds → RepL K H A (v :: vs) (d :: ds)
inductive RepK (K : PySem.W.Frag) (H : Hp) (A : Addr → Prop) : List (Key × V) → List (D × D) → Prop
  | nil : RepK K H A [] []
  | int {i : Int} {v : V} {vs : List (Key × V)} {d : D} {ds : List (D × D)} : Rep K H A v d → RepK K H A vs ds → RepK K H A ((.inl i, v) :: vs) ((.int i, d) :: ds)
  | str {x : Str} {v : V} {vs : List (Key × V)} {d : D} {ds : List (D × D)} : PyData.strOk x = true → x.length ≤ SZ → Rep K H A v d → RepK K H A vs ds → RepK K H A ((.inr x, v) :: vs) ((.str x, d) :: ds)
inductive RepT (K : PySem.W.Frag) (H : Hp) (A : Addr → Prop) : List (List Key × V) → List (D × D) → Prop
  | nil : RepT K H A [] []
  | cons {ks : List Key} {xs : List D} {v : V} {vs : List (List Key × V)} {d : D} {ds : List (D × D)} : RepL K H A (ks.map kV) xs → D.isKeys xs = true → xs.length ≤ SZ → Rep K H A v d → RepT K H A vs ds → RepT K H A ((ks, v) :: vs) ((.tup xs, d) :: ds)
end

section
variable {K : PySem.W.Frag} {H H' : Hp} {A A' : Addr → Prop}
/-- tuples, locked things stay; so do the lists and dicts at what A allows -/
structure Keep (A : Addr → Prop) (H H' : Hp) : Prop where
  own : ∀ b o, A b → H b = some o → H' b = some o
  tup : ∀ b xs, H b = some (.tup xs) → H' b = some (.tup xs)
  frz : ∀ b o u, H b = some (.frz o u) → H' b = some (.frz o u)
theorem Keep.of_same (h : Same H H') : Keep A H H' := ⟨fun b o _ e => h b o e, fun b xs e => h b _ e, fun b o u e => h b _ e⟩
theorem Keep.sqT (k : Keep A H H') {a : Addr} {xs : List V} (h : SqT K H a xs) : SqT K H' a xs := by
  rcases h with (h | ⟨o, h⟩) | h
  · exact .inl (.inl (k.tup _ _ h))
  · exact .inl (.inr ⟨o, k.frz _ _ _ h⟩)
  · exact .inr h
theorem Keep.rd (k : Keep A H H') {a : Addr} {o : HO} (ha : A a) (h : Rd H a o) : Rd H' a o := by
  rcases h with h | ⟨ob, h⟩
  · exact .inl (k.own _ _ ha h)
  · exact .inr ⟨ob, k.frz _ _ _ h⟩
mutual
theorem Rep.keep (k : Keep A H H') (hA : ∀ a, A a → A' a) : ∀ {v : V} {d : D}, Rep K H A v d → Rep K H' A' v d
  | _, _, .non => .non
  | _, _, .bl b => .bl b
  | _, _, .int i => .int i
  | _, _, .str x h1 h2 => .str x h1 h2
  | _, _, .tup h r z => .tup (k.sqT h) (RepL.keep k hA r) z
  | _, _, .lst h a r z => .lst (k.own _ _ a h) (hA _ a) (RepL.keep k hA r) z
  | _, _, .dk h a r z => .dk (k.rd a h) (hA _ a) (RepK.keep k hA r) z
  | _, _, .dt h a r n z => .dt (k.rd a h) (hA _ a) (RepT.keep k hA r) n z
  | _, _, .arg (o := o) h => .arg (o := o) (h.elim (fun h => .inl (k.frz _ _ _ h)) .inr)
theorem RepL.keep (k : Keep A H H') (hA : ∀ a, A a → A' a) : ∀ {v : List V} {d : List D}, RepL K H A v d → RepL K H' A' v d
  | _, _, .nil => .nil
  | _, _, .cons r rs => .cons (Rep.keep k hA r) (RepL.keep k hA rs)
theorem RepK.keep (k : Keep A H H') (hA : ∀ a, A a → A' a) : ∀ {v : List (Key × V)} {d : List (D × D)}, RepK K H A v d → RepK K H' A' v d
  | _, _, .nil => .nil
  | _, _, .int r rs => .int (Rep.keep k hA r) (RepK.keep k hA rs)
  | _, _, .str h1 h2 r rs => .str h1 h2 (Rep.keep k hA r) (RepK.keep k hA rs)
theorem RepT.keep (k : Keep A H H') (hA : ∀ a, A a → A' a) : ∀ {v : List (List Key × V)} {d : List (D × D)}, RepT K H A v d → RepT K H' A' v d
  | _, _, .nil => .nil
  | _, _, .cons rk h z r rs => .cons (RepL.keep k hA rk) h z (Rep.keep k hA r) (RepT.keep k hA rs)
end
mutual
/-- what can't be changed leans on no list and no dict -/
theorem Rep.imm : ∀ {d : D} {v : V}, d.imm = true → Rep K H A v d → Rep K H A' v d
  | .non, _, _, .non => .non
  | .bl _, _, _, .bl b => .bl b
  | .int _, _, _, .int i => .int i
  | .str _, _, _, .str x h1 h2 => .str x h1 h2
  | .tup xs, _, h, .tup h1 r z => .tup h1 (RepL.imm (show D.immL xs = true by simpa [D.imm] using h) r) z
  | .lst _, _, h, _ => by simp [D.imm] at h
  | .dct _, _, h, _ => by simp [D.imm] at h
  | .exc _, _, h, _ => by simp [D.imm] at h
  | .arg _, _, h, _ => by simp [D.imm] at h
theorem RepL.imm : ∀ {d : List D} {v : List V}, D.immL d = true → RepL K H A v d → RepL K H A' v d
  | [], _, _, .nil => .nil
  | x :: xs, _, h, .cons r rs => by
    have h' : D.imm x = true ∧ D.immL xs = true := by simpa [D.immL] using h
    exact .cons (Rep.imm h'.1 r) (RepL.imm h'.2 rs)
end
theorem RepL.length : ∀ {v : List V} {d : List D}, RepL K H A v d → v.length = d.length
  | _, _, .nil => rfl
  | _, _, .cons _ r => by simp [RepL.length r]
theorem RepL.get : ∀ {v : List V} {d : List D} {i : Nat} {x : D}, RepL K H A v d → d[i]? = some x → ∃ y, v[i]? = some y ∧ Rep K H A y x
  | _, _, _, _, .nil, h => by simp at h
  | _, _, 0, _, .cons r _, h => by simp at h; subst h; exact ⟨_, rfl, r⟩
  | _, _, i + 1, x, .cons _ r, h => by
    obtain ⟨y, h1, h2⟩ := RepL.get (i := i) (x := x) r (by simpa using h)
    exact ⟨y, by simpa using h1, h2⟩
theorem RepL.getV : ∀ {v : List V} {d : List D} {i : Nat} {y : V}, RepL K H A v d → v[i]? = some y → ∃ x, d[i]? = some x ∧ Rep K H A y x
  | _, _, _, _, .nil, h => by simp at h
  | _, _, 0, _, .cons r _, h => by simp at h; subst h; exact ⟨_, rfl, r⟩
  | _, _, i + 1, x, .cons _ r, h => by
    obtain ⟨y, h1, h2⟩ := RepL.getV (i := i) (y := x) r (by simpa using h)
    exact ⟨y, by simpa using h1, h2⟩
theorem RepL.append : ∀ {v w : List V} {d e : List D}, RepL K H A v d → RepL K H A w e → RepL K H A (v ++ w) (d ++ e)
  | _, _, _, _, .nil, r => r
  | _, _, _, _, .cons r rs, q => .cons r (RepL.append rs q)
theorem RepL.take : ∀ {v : List V} {d : List D} (n : Nat), RepL K H A v d → RepL K H A (v.take n) (d.take n)
  | _, _, 0, _ => .nil
  | _, _, _ + 1, .nil => .nil
  | _, _, n + 1, .cons r rs => .cons r (RepL.take n rs)
theorem RepL.drop : ∀ {v : List V} {d : List D} (n : Nat), RepL K H A v d → RepL K H A (v.drop n) (d.drop n)
  | _, _, 0, r => r
  | _, _, _ + 1, .nil => .nil
  | _, _, n + 1, .cons _ rs => RepL.drop n rs
theorem RepL.reverse {v : List V} {d : List D} (h : RepL K H A v d) : RepL K H A v.reverse d.reverse := by
  have go : ∀ {v : List V} {d : List D}, RepL K H A v d → RepL K H A v.reverse d.reverse := by
    intro v
    induction v with
    | nil => intro d h; cases h; exact .nil
    | cons x xs ih =>
      intro d h
      cases h with
      | cons r rs =>
        rw [List.reverse_cons, List.reverse_cons]
        exact (ih rs).append (.cons r .nil)
  exact go h
theorem RepL.set : ∀ {v : List V} {d : List D} {x : V} {y : D} (i : Nat), RepL K H A v d → Rep K H A x y → RepL K H A (v.set i x) (d.set i y)
  | _, _, _, _, _, .nil, _ => .nil
  | _, _, _, _, 0, .cons _ rs, q => .cons q rs
  | _, _, _, _, i + 1, .cons r rs, q => .cons r (RepL.set i rs q)
theorem RepL.ints : ∀ {ds : List D} {vs : List V} {ns : List Int}, D.intsD ds = some ns → RepL K H A vs ds → vs = ns.map V.int
  | [], _, _, h, .nil => by simp [D.intsD] at h; subst h; rfl
  | .int i :: r, _, ns, h, .cons q qs => by
    cases q
    simp only [D.intsD, Option.map_eq_some_iff] at h
    obtain ⟨m, h1, h2⟩ := h
    subst h2
    rw [RepL.ints h1 qs]
    rfl
  | .non :: _, _, _, h, _ => by simp [D.intsD] at h
  | .bl _ :: _, _, _, h, _ => by simp [D.intsD] at h
  | .str _ :: _, _, _, h, _ => by simp [D.intsD] at h
  | .tup _ :: _, _, _, h, _ => by simp [D.intsD] at h
  | .lst _ :: _, _, _, h, _ => by simp [D.intsD] at h
  | .dct _ :: _, _, _, h, _ => by simp [D.intsD] at h
  | .exc _ :: _, _, _, h, _ => by simp [D.intsD] at h
  | .arg _ :: _, _, _, h, _ => by simp [D.intsD] at h
theorem repL_ints : ∀ (ns : List Int), RepL K H A (ns.map V.int) (ns.map D.int)
  | [] => .nil
  | n :: r => .cons (.int n) (repL_ints r)
theorem intsD_map : ∀ (ns : List Int), D.intsD (ns.map D.int) = some ns
  | [] => rfl
  | n :: r => by simp [D.intsD, intsD_map r]
theorem intsD_eq : ∀ {ds : List D} {ns : List Int}, D.intsD ds = some ns → ds = ns.map D.int
  | [], _, h => by simp [D.intsD] at h; subst h; rfl
  | .int i :: r, ns, h => by
    simp only [D.intsD, Option.map_eq_some_iff] at h
    obtain ⟨m, h1, h2⟩ := h
    subst h2
    rw [intsD_eq h1]
    rfl
  | .non :: _, _, h => by simp [D.intsD] at h
  | .bl _ :: _, _, h => by simp [D.intsD] at h
  | .str _ :: _, _, h => by simp [D.intsD] at h
  | .tup _ :: _, _, h => by simp [D.intsD] at h
  | .lst _ :: _, _, h => by simp [D.intsD] at h
  | .dct _ :: _, _, h => by simp [D.intsD] at h
  | .exc _ :: _, _, h => by simp [D.intsD] at h
  | .arg _ :: _, _, h => by simp [D.intsD] at h
theorem boolsD_eq : ∀ {ds : List D} {vs : List V} {ns : List Bool}, D.boolsD ds = some ns → RepL K H A vs ds → vs = ns.map V.bl
  | [], _, _, h, .nil => by simp [D.boolsD] at h; subst h; rfl
  | .bl i :: r, _, ns, h, .cons q qs => by
    cases q
    simp only [D.boolsD, Option.map_eq_some_iff] at h
    obtain ⟨m, h1, h2⟩ := h
    subst h2
    rw [boolsD_eq h1 qs]
    rfl
  | .non :: _, _, _, h, _ => by simp [D.boolsD] at h
  | .int _ :: _, _, _, h, _ => by simp [D.boolsD] at h
  | .str _ :: _, _, _, h, _ => by simp [D.boolsD] at h
  | .tup _ :: _, _, _, h, _ => by simp [D.boolsD] at h
  | .lst _ :: _, _, _, h, _ => by simp [D.boolsD] at h
  | .dct _ :: _, _, _, h, _ => by simp [D.boolsD] at h
  | .exc _ :: _, _, _, h, _ => by simp [D.boolsD] at h
  | .arg _ :: _, _, _, h, _ => by simp [D.boolsD] at h
end

/-! ### == of data -/
mutual
def D.toP : D → PyData
  | .non => .none
  | .bl b => .bool b
  | .int i => .int i
  | .str s => .str s
  | .tup xs => .tuple (D.toPL xs)
  | .lst xs => .list (D.toPL xs)
  | .dct _ => .none
  | .exc _ => .none
  | .arg _ => .none
def D.toPL : List D → List PyData
  | [] => []
  | x :: xs => D.toP x :: D.toPL xs
end
mutual
theorem eqv_toP : ∀ {d e : D}, d.plain = true → e.plain = true → PyData.eqv d.toP e.toP = D.eqv d e := by
  intro d e hd he
  cases d with
  | tup xs => cases e with
    | tup ys => simp only [D.toP, PyData.eqv, D.eqv]; exact eqv_toPL (by simpa [D.plain] using hd) (by simpa [D.plain] using he)
    | dct _ => simp [D.plain] at he
    | exc _ => simp [D.plain] at he
    | arg _ => simp [D.plain] at he
    | _ => simp [D.toP, PyData.eqv, D.eqv]
  | lst xs => cases e with
    | lst ys => simp only [D.toP, PyData.eqv, D.eqv]; exact eqv_toPL (by simpa [D.plain] using hd) (by simpa [D.plain] using he)
    | dct _ => simp [D.plain] at he
    | exc _ => simp [D.plain] at he
    | arg _ => simp [D.plain] at he
    | _ => simp [D.toP, PyData.eqv, D.eqv]
  | dct _ => simp [D.plain] at hd
  | exc _ => simp [D.plain] at hd
  | arg _ => simp [D.plain] at hd
  | _ => cases e with
    | dct _ => simp [D.plain] at he
    | exc _ => simp [D.plain] at he
    | arg _ => simp [D.plain] at he
    | _ => simp [D.toP, PyData.eqv, D.eqv]
theorem eqv_toPL : ∀ {d e : List D}, D.plainL d = true → D.plainL e = true → PyData.eqvAll (D.toPL d) (D.toPL e) = D.eqvL d e := by
  intro d e hd he
  cases d with
  | nil => cases e <;> simp [D.toPL, PyData.eqvAll, D.eqvL]
  | cons x xs => cases e with
    | nil => simp [D.toPL, PyData.eqvAll, D.eqvL]
    | cons y ys =>
      have h1 : x.plain = true ∧ D.plainL xs = true := by simpa [D.plainL] using hd
      have h2 : y.plain = true ∧ D.plainL ys = true := by simpa [D.plainL] using he
      simp only [D.toPL, PyData.eqvAll, D.eqvL]
      rw [eqv_toP h1.1 h2.1, eqv_toPL h1.2 h2.2]
end
mutual
theorem dep_toP : ∀ {d : D}, d.plain = true → d.toP.depth = d.dep
  | .non, _ => by simp [D.toP, PyData.depth, D.dep]
  | .bl _, _ => by simp [D.toP, PyData.depth, D.dep]
  | .int _, _ => by simp [D.toP, PyData.depth, D.dep]
  | .str _, _ => by simp [D.toP, PyData.depth, D.dep]
  | .tup xs, h => by simp only [D.toP, PyData.depth, D.dep]; rw [dep_toPL (show D.plainL xs = true by simpa [D.plain] using h)]
  | .lst xs, h => by simp only [D.toP, PyData.depth, D.dep]; rw [dep_toPL (show D.plainL xs = true by simpa [D.plain] using h)]
  | .dct _, h => by simp [D.plain] at h
  | .exc _, h => by simp [D.plain] at h
  | .arg _, h => by simp [D.plain] at h
theorem dep_toPL : ∀ {d : List D}, D.plainL d = true → PyData.depthAll (D.toPL d) = D.depL d
  | [], _ => by simp [D.toPL, PyData.depthAll, D.depL]
  | x :: xs, h => by
    have h1 : x.plain = true ∧ D.plainL xs = true := by simpa [D.plainL] using h
    simp only [D.toPL, PyData.depthAll, D.depL]
    rw [dep_toP h1.1, dep_toPL h1.2]
end
section
variable {K : PySem.W.Frag} {H : Hp} {A : Addr → Prop}
mutual
theorem Rep.dp : ∀ {d : D} {v : V}, d.plain = true → Rep K H A v d → Dp K H v d.toP
  | .non, _, _, .non => by simp only [D.toP]; exact .non
  | .bl _, _, _, .bl b => by simp only [D.toP]; exact .bl b
  | .int _, _, _, .int i => by simp only [D.toP]; exact .int i
  | .str _, _, _, .str x _ _ => by simp only [D.toP]; exact .str x
  | .tup xs, _, h, .tup h1 r z => by simp only [D.toP]; exact .tup h1 (RepL.dp (show D.plainL xs = true by simpa [D.plain] using h) r)
  | .lst xs, _, h, .lst h1 _ r z => by simp only [D.toP]; exact .lst (.of h1) (RepL.dp (show D.plainL xs = true by simpa [D.plain] using h) r)
  | .dct _, _, h, _ => by simp [D.plain] at h
  | .exc _, _, h, _ => by simp [D.plain] at h
  | .arg _, _, h, _ => by simp [D.plain] at h
theorem RepL.dp : ∀ {d : List D} {v : List V}, D.plainL d = true → RepL K H A v d → DpAll K H v (D.toPL d)
  | [], _, _, .nil => by simp only [D.toPL]; exact .nil
  | x :: xs, _, h, .cons r rs => by
    have h1 : x.plain = true ∧ D.plainL xs = true := by simpa [D.plainL] using h
    simp only [D.toPL]
    exact .cons (Rep.dp h1.1 r) (RepL.dp h1.2 rs)
end
mutual
theorem Rep.lay : ∀ {d : D} {v : V}, d.plain = true → Rep K H A v d → d.toP.canLay0 = true
  | .non, _, _, _ => by simp [D.toP, PyData.canLay0]
  | .bl _, _, _, _ => by simp [D.toP, PyData.canLay0]
  | .int _, _, _, _ => by simp [D.toP, PyData.canLay0]
  | .str _, _, _, .str x h _ => by simpa [D.toP, PyData.canLay0] using h
  | .tup xs, _, h, .tup h1 r z => by simp only [D.toP, PyData.canLay0]; exact RepL.lay (show D.plainL xs = true by simpa [D.plain] using h) r
  | .lst xs, _, h, .lst h1 _ r z => by simp only [D.toP, PyData.canLay0]; exact RepL.lay (show D.plainL xs = true by simpa [D.plain] using h) r
  | .dct _, _, h, _ => by simp [D.plain] at h
  | .exc _, _, h, _ => by simp [D.plain] at h
  | .arg _, _, h, _ => by simp [D.plain] at h
theorem RepL.lay : ∀ {d : List D} {v : List V}, D.plainL d = true → RepL K H A v d → PyData.canLayAll0 (D.toPL d) = true
  | [], _, _, .nil => by simp [D.toPL, PyData.canLayAll0]
  | x :: xs, _, h, .cons r rs => by
    have h1 : x.plain = true ∧ D.plainL xs = true := by simpa [D.plainL] using h
    simp only [D.toPL, PyData.canLayAll0]
    rw [Rep.lay h1.1 r, RepL.lay h1.2 rs]
    rfl
end
end

/-! ### the judgement -/
/-- several data on slots -/
structure EnvOk (K : PySem.W.Frag) (M : List Nat) (A : Addr → Prop) (σ : L2.St) (H : Hp) (env : Env) : Prop where
  len : env.length = σ.length
  at_ : ∀ (i : Nat) (d : D), env[i]? = some (some d) → ∃ v, σ[i]? = some (some v) ∧ Rep K H (fun _ => True) v d ∧ (i ∉ M → Rep K H A v d)
theorem EnvOk.same {K : PySem.W.Frag} {M : List Nat} {A : Addr → Prop} {σ : L2.St} {H H' : Hp} {env : Env} (e : EnvOk K M A σ H env) (h : Same H H') : EnvOk K M A σ H' env :=
  ⟨e.len, fun i d q => let ⟨v, h1, h2, h3⟩ := e.at_ i d q; ⟨v, h1, h2.keep (.of_same h) fun _ z => z, fun m => (h3 m).keep (.of_same h) fun _ z => z⟩⟩
/-- a new list or dict -/
def Fresh (H H' : Hp) (v : V) : Prop := ∃ p, v = .ref p ∧ H p = none ∧ ((∃ xs, H' p = some (.lst xs)) ∨ ∃ kvs, H' p = some (.dK kvs))
theorem Fresh.back {H H1 H' : Hp} {v : V} (h : Same H H1) (f : Fresh H1 H' v) : Fresh H H' v := by
  obtain ⟨p, e, n, q⟩ := f
  exact ⟨p, e, h.free n, q⟩
def D.isMut : D → Bool
  | .lst _ | .dct _ => true
  | _ => false
/-- the wish of an exception of the c-th class -/
abbrev WC := Nat → L2.St → Hp → Prop
abbrev RA (t : Bool) (A : Addr → Prop) : Addr → Prop := fun p => t = true ∨ A p
def Pst (K : PySem.W.Frag) (W : WC) (A : Addr → Prop) (σ : L2.St) (H : Hp) (Q : VK) (fr t : Bool) : R D → Prop
  | .ok d => ∀ v H', Same H H' → Rep K H' (RA t A) v d → (fr = true → d.isMut = true → Fresh H H' v) → Q v H'
  | .exc c => ∀ H', Same H H' → W c σ H'
  | .bad => False
/-- lists of data -/
def PstL (K : PySem.W.Frag) (W : WC) (A : Addr → Prop) (σ : L2.St) (H : Hp) (Q : List V → Hp → Prop) (t : Bool) : R (List D) → Prop
  | .ok d => ∀ v H', Same H H' → RepL K H' (RA t A) v d → Q v H'
  | .exc c => ∀ H', Same H H' → W c σ H'
  | .bad => False
def PstB (W : WC) (σ : L2.St) (H : Hp) (Q : Bool → Hp → Prop) : R Bool → Prop
  | .ok b => ∀ H', Same H H' → Q b H'
  | .exc c => ∀ H', Same H H' → W c σ H'
  | .bad => False
/-- new places are allowed -/
def OkA (H : Hp) (A : Addr → Prop) : Prop := ∀ p, H p = none → A p
theorem OkA.same {H H' : Hp} {A : Addr → Prop} (a : OkA H A) (h : Same H H') : OkA H' A := fun p n => a p (h.free n)
def tD (K : PySem.W.Frag) (W : WC) (M : List Nat) (m : Env → R D) (fr t : Bool) : TE := fun σ H Q => ∃ env A, OkA H A ∧ EnvOk K M A σ H env ∧ Pst K W A σ H Q fr t (m env)
def tL (K : PySem.W.Frag) (W : WC) (M : List Nat) (m : Env → R (List D)) (t : Bool) : TA := fun σ H Q => ∃ env A, OkA H A ∧ EnvOk K M A σ H env ∧ PstL K W A σ H Q t (m env)
def tB' (K : PySem.W.Frag) (W : WC) (M : List Nat) (m : Env → R Bool) : TT := fun σ H Q => ∃ env A, OkA H A ∧ EnvOk K M A σ H env ∧ PstB W σ H Q (m env)
section
variable {K : PySem.W.Frag} {W : WC} {A : Addr → Prop} {σ : L2.St} {H H1 : Hp} {Q Q' : VK} {fr fr' t t' : Bool} {r : R D}
theorem Pst.mono (s : Same H H1) : ∀ {r : R D}, Pst K W A σ H Q fr t r → Pst K W A σ H1 Q fr t r
  | .ok _, h => fun v H' s' re f => h v H' (s.trans s') re fun q m => (f q m).back s
  | .exc _, h => fun H' s' => h H' (s.trans s')
  | .bad, h => h
theorem PstB.mono {Q : Bool → Hp → Prop} (s : Same H H1) : ∀ {r : R Bool}, PstB W σ H Q r → PstB W σ H1 Q r
  | .ok _, h => fun H' s' => h H' (s.trans s')
  | .exc _, h => fun H' s' => h H' (s.trans s')
  | .bad, h => h
theorem PstL.mono {Q : List V → Hp → Prop} (s : Same H H1) : ∀ {r : R (List D)}, PstL K W A σ H Q t r → PstL K W A σ H1 Q t r
  | .ok _, h => fun v H' s' re => h v H' (s.trans s') re
  | .exc _, h => fun H' s' => h H' (s.trans s')
  | .bad, h => h
theorem Pst.bindE {f : D → R D} (h : Pst K W A σ H Q fr t (r.bind f)) (k : ∀ d v H1, r = .ok d → Same H H1 → Rep K H1 (RA t' A) v d → (fr' = true → d.isMut = true → Fresh H H1 v) → Pst K W A σ H1 Q fr t (f d) → Q' v H1) : Pst K W A σ H Q' fr' t' r := by
  cases r with
  | ok d => exact fun v H1 s re q => k d v H1 rfl s re q (Pst.mono s h)
  | exc c => exact h
  | bad => exact h
theorem Pst.bindL {r : R (List D)} {Q' : List V → Hp → Prop} {f : List D → R D} (h : Pst K W A σ H Q fr t (r.bind f)) (k : ∀ d v H1, r = .ok d → Same H H1 → RepL K H1 (RA t' A) v d → Pst K W A σ H1 Q fr t (f d) → Q' v H1) : PstL K W A σ H Q' t' r := by
  cases r with
  | ok d => exact fun v H1 s re => k d v H1 rfl s re (Pst.mono s h)
  | exc c => exact h
  | bad => exact h
theorem Pst.bindB {r : R Bool} {Q' : Bool → Hp → Prop} {f : Bool → R D} (h : Pst K W A σ H Q fr t (r.bind f)) (k : ∀ d H1, r = .ok d → Same H H1 → Pst K W A σ H1 Q fr t (f d) → Q' d H1) : PstB W σ H Q' r := by
  cases r with
  | ok d => exact fun H1 s => k d H1 rfl s (Pst.mono s h)
  | exc c => exact h
  | bad => exact h
theorem PstB.bindE {r : R D} {Q : Bool → Hp → Prop} {f : D → R Bool} (h : PstB W σ H Q (r.bind f)) (k : ∀ d v H1, r = .ok d → Same H H1 → Rep K H1 (RA t' A) v d → PstB W σ H1 Q (f d) → Q' v H1) : Pst K W A σ H Q' false t' r := by
  cases r with
  | ok d => exact fun v H1 s re _ => k d v H1 rfl s re (PstB.mono s h)
  | exc c => exact h
  | bad => exact h
theorem PstB.bindB {r : R Bool} {Q Q' : Bool → Hp → Prop} {f : Bool → R Bool} (h : PstB W σ H Q (r.bind f)) (k : ∀ d H1, r = .ok d → Same H H1 → PstB W σ H1 Q (f d) → Q' d H1) : PstB W σ H Q' r := by
  cases r with
  | ok d => exact fun H1 s => k d H1 rfl s (PstB.mono s h)
  | exc c => exact h
  | bad => exact h
theorem PstL.bindE {r : R D} {Q : List V → Hp → Prop} {f : D → R (List D)} (h : PstL K W A σ H Q t (r.bind f)) (k : ∀ d v H1, r = .ok d → Same H H1 → Rep K H1 (RA t' A) v d → PstL K W A σ H1 Q t (f d) → Q' v H1) : Pst K W A σ H Q' false t' r := by
  cases r with
  | ok d => exact fun v H1 s re _ => k d v H1 rfl s re (PstL.mono s h)
  | exc c => exact h
  | bad => exact h
theorem PstL.bindL {r : R (List D)} {Q Q' : List V → Hp → Prop} {f : List D → R (List D)} (h : PstL K W A σ H Q t (r.bind f)) (k : ∀ d v H1, r = .ok d → Same H H1 → RepL K H1 (RA t' A) v d → PstL K W A σ H1 Q t (f d) → Q' v H1) : PstL K W A σ H Q' t' r := by
  cases r with
  | ok d => exact fun v H1 s re => k d v H1 rfl s re (PstL.mono s h)
  | exc c => exact h
  | bad => exact h
/-- at once -/
theorem Pst.now {d : D} {v : V} (h : Pst K W A σ H Q fr t (.ok d)) (re : Rep K H (RA t A) v d) (f : fr = true → d.isMut = true → False) : Q v H := h v H (Same.refl H) re fun q m => (f q m).elim
end
theorem PE.imp {X : Cx} {e : Expr} {t t' : TE} (h : PE X e t) (i : ∀ σ H Q, t' σ H Q → t σ H Q) : PE X e t' := ⟨fun pins s σ H Q I q => h.run pins s σ H Q I (i σ H Q q)⟩
theorem PT.imp {X : Cx} {e : Expr} {t t' : TT} (h : PT X e t) (i : ∀ σ H Q, t' σ H Q → t σ H Q) : PT X e t' := ⟨fun pins s σ H Q I q => h.run pins s σ H Q I (i σ H Q q)⟩
theorem PA.imp {X : Cx} {e : List Expr} {t t' : TA} (h : PA X e t) (i : ∀ σ H Q, t' σ H Q → t σ H Q) : PA X e t' := ⟨fun p pins s σ H Q I q => h.run p pins s σ H Q I (i σ H Q q)⟩
theorem PSs.imp {X : Cx} {e : List Stmt} {t t' : TS} (h : PSs X e t) (i : ∀ D σ H, t' D σ H → t D σ H) : PSs X e t' := ⟨fun pins s σ H D I q => h.run pins s σ H D I (i D σ H q)⟩
theorem PS.imp {X : Cx} {e : Stmt} {t t' : TS} (h : PS X e t) (i : ∀ D σ H, t' D σ H → t D σ H) : PS X e t' := ⟨fun pins s σ H D I q => h.run pins s σ H D I (i D σ H q)⟩
theorem PI.imp {X : Cx} {tg e : Expr} {t t' : TI} (h : PI X tg e t) (i : ∀ σ H Q, t' σ H Q → t σ H Q) : PI X tg e t' := ⟨fun pins s σ H R I q => h.run pins s σ H R I (i σ H R q)⟩
end B

set_option maxHeartbeats 1000000
/-! GenC: the rules of the judgement, construct by construct. -/
namespace B
open PySem PySem.Spec PyProof.Rows L2

theorem same_upd {H : Hp} {p : Addr} {o : HO} (h : H p = none) : Same H (upd H p o) := fun b x e => by
  rw [upd_ne (ne_of_none e h)]
  exact e
theorem RA.of {t : Bool} {A : Addr → Prop} {p : Addr} (h : A p) : RA t A p := .inr h
section
variable {K : PySem.W.Frag} {H H1 : Hp} {A : Addr → Prop} {t : Bool}
theorem Rep.same {v : V} {d : D} (h : Same H H1) (r : Rep K H A v d) : Rep K H1 A v d := r.keep (.of_same h) fun _ z => z
theorem RepL.same {v : List V} {d : List D} (h : Same H H1) (r : RepL K H A v d) : RepL K H1 A v d := RepL.keep (.of_same h) (fun _ z => z) r
theorem Rep.newL {p : Addr} {xs : List V} {ds : List D} (n : H p = none) (a : A p) (r : RepL K H A xs ds) (z : ds.length ≤ SZ) : Rep K (upd H p (.lst xs)) A (.ref p) (.lst ds) := .lst upd_same a (r.same (same_upd n)) z
theorem Rep.newT {p : Addr} {xs : List V} {ds : List D} (n : H p = none) (r : RepL K H A xs ds) (z : ds.length ≤ SZ) : Rep K (upd H p (.tup xs)) A (.ref p) (.tup ds) := .tup (.of upd_same) (r.same (same_upd n)) z
theorem freshL {p : Addr} {xs : List V} (n : H p = none) : Fresh H (upd H p (.lst xs)) (.ref p) := ⟨p, rfl, n, .inl ⟨xs, upd_same⟩⟩
theorem freshK {p : Addr} {kvs : List (Key × V)} (n : H p = none) : Fresh H (upd H p (.dK kvs)) (.ref p) := ⟨p, rfl, n, .inr ⟨kvs, upd_same⟩⟩
variable {W : WC} {σ : L2.St} {Q : VK} {fr : Bool}
theorem Pst.newL {p : Addr} {xs : List V} {ds : List D} (h : Pst K W A σ H Q fr t (.ok (.lst ds))) (hA : OkA H A) (n : H p = none) (r : RepL K H (RA t A) xs ds) (z : ds.length ≤ SZ) : Q (.ref p) (upd H p (.lst xs)) :=
  h _ _ (same_upd n) (.newL n (.inr (hA p n)) r z) fun _ _ => freshL n
theorem Pst.newT {p : Addr} {xs : List V} {ds : List D} (h : Pst K W A σ H Q fr t (.ok (.tup ds))) (n : H p = none) (r : RepL K H (RA t A) xs ds) (z : ds.length ≤ SZ) : Q (.ref p) (upd H p (.tup xs)) :=
  h _ _ (same_upd n) (.newT n r z) fun _ m => by cases m
theorem Pst.bl {b : Bool} (h : Pst K W A σ H Q fr t (.ok (.bl b))) : Q (.bl b) H := h.now (.bl b) fun _ m => by cases m
theorem Pst.int {b : Int} (h : Pst K W A σ H Q fr t (.ok (.int b))) : Q (.int b) H := h.now (.int b) fun _ m => by cases m
theorem Pst.str {b : Str} (h : Pst K W A σ H Q fr t (.ok (.str b))) (h1 : PyData.strOk b = true) (h2 : b.length ≤ SZ) : Q (.str b) H := h.now (.str b h1 h2) fun _ m => by cases m
theorem Pst.tup {a : Addr} {xs : List V} {ds : List D} (h : Pst K W A σ H Q fr t (.ok (.tup ds))) (h1 : SqT K H a xs) (r : RepL K H (RA t A) xs ds) (z : ds.length ≤ SZ) : Q (.ref a) H := h.now (.tup h1 r z) fun _ m => by cases m
end

section
variable {X : Cx} {W : WC} {M : List Nat} {C : Nat → List D → R D} {G : List D} {fr t : Bool}
/-- the expression e does what de says -/
abbrev SE (X : Cx) (W : WC) (M : List Nat) (C : Nat → List D → R D) (G : List D) (fr t : Bool) (e : Expr) (de : DE) : Prop := PE X e (tD X.K W M (ev C G de) fr t)
abbrev SEs (X : Cx) (W : WC) (M : List Nat) (C : Nat → List D → R D) (G : List D) (t : Bool) (e : List Expr) (de : DEs) : Prop := PA X e (tL X.K W M (evs C G de) t)
/-- .. as a test -/
abbrev ST (X : Cx) (W : WC) (M : List Nat) (C : Nat → List D → R D) (G : List D) (e : Expr) (de : DE) : Prop := PT X e (tB' X.K W M fun env => (ev C G de env).bind D.truth)

/-! ### names, constants, displays -/
theorem se_v {i : Nat} {x : Str} {pos : Pos} (hN : X.N[i]? = some x) (hv : Vis X.env.scope x) (hd : (x == ("__debug__" : Str)) = false) (hc : (x == ("__classdict__" : Str)) = false) (ht : i ∈ M → t = true) : SE X W M C G false t (.Name x pos) (.v i) :=
  PE.imp (pe_var hN hv hd hc) fun σ H Q ⟨env, A, hA, hE, h⟩ => by
    simp only [ev, getE] at h
    split at h
    · rename_i d e
      obtain ⟨v, h1, h2, h3⟩ := hE.at_ i d e
      refine ⟨v, h1, h.now ?_ fun q _ => by cases q⟩
      by_cases hm : i ∈ M
      · exact h2.keep (.of_same (Same.refl _)) fun p _ => .inl (ht hm)
      · exact (h3 hm).keep (.of_same (Same.refl _)) fun p z => .inr z
    · exact h.elim
theorem se_non {j : Nat} {pos : Pos} : SE X W M C G false t (.Constant .none j pos) (.k .non) := PE.imp pe_non fun σ H Q ⟨env, A, hA, hE, h⟩ => by
  simp only [ev] at h
  exact h.now .non fun _ m => by cases m
theorem se_bl {b : Bool} {j : Nat} {pos : Pos} : SE X W M C G false t (.Constant (.bool b) j pos) (.k (.bl b)) := PE.imp pe_bl fun σ H Q ⟨env, A, hA, hE, h⟩ => by
  simp only [ev] at h
  exact h.bl
theorem se_int {b : Int} {j : Nat} {pos : Pos} : SE X W M C G false t (.Constant (.int b) j pos) (.k (.int b)) := PE.imp pe_int fun σ H Q ⟨env, A, hA, hE, h⟩ => by
  simp only [ev] at h
  exact h.int
theorem se_str {b : Str} {j : Nat} {pos : Pos} (h1 : PyData.strOk b = true) (h2 : b.length ≤ SZ) : SE X W M C G false t (.Constant (.str b) j pos) (.k (.str b)) := PE.imp pe_str fun σ H Q ⟨env, A, hA, hE, h⟩ => by
  simp only [ev] at h
  exact h.str h1 h2
/-- what the module's names hold -/
def GOk (K : PySem.W.Frag) (w : World) (mg : Str → Option Value) (G : List D) (gn : List Str) : Prop := ∀ (i : Nat) (d : D) (x : Str), G[i]? = some d → gn[i]? = some x → match d with
  | .int n => ∃ tk, mg x = some (.int n tk)
  | .str z => (∃ tk, mg x = some (.str z tk)) ∧ PyData.strOk z = true ∧ z.length ≤ SZ
  | .dct kvs => ∃ a es n, mg x = some (.ref a) ∧ KDict K w a es n ∧ ∀ z : Str, match D.find kvs (.str z) with
    | some d => ∃ u v, PySem.W.nsIn K a z = some (some u) ∧ RelV v u ∧ ∀ H A, Rep K H A v d
    | none => PySem.W.nsIn K a z = some none
  | _ => True
theorem se_g {gn : List Str} {i : Nat} {x : Str} {pos : Pos} (hG : GOk X.K X.w X.mg G gn) (hx : gn[i]? = some x) (hg : Gl X x) (hd : (x == ("__debug__" : Str)) = false) : SE X W M C G false t (.Name x pos) (.g i) := by
  cases e : G[i]? with
  | none => exact ⟨fun pins s σ H Q I ⟨env, A, hA, hE, h⟩ => by simp only [ev, e] at h; exact h.elim⟩
  | some d =>
    have hq := hG i d x e hx
    cases d with
    | int n =>
      obtain ⟨tk, q⟩ := hq
      exact PE.imp (pe_glob (v := .int n) hg q ⟨tk, rfl⟩ hd) fun σ H Q ⟨env, A, hA, hE, h⟩ => by
        simp only [ev, e] at h
        exact h.int
    | str n =>
      obtain ⟨⟨tk, q⟩, q1, q2⟩ := hq
      exact PE.imp (pe_glob (v := .str n) hg q ⟨tk, rfl⟩ hd) fun σ H Q ⟨env, A, hA, hE, h⟩ => by
        simp only [ev, e] at h
        exact h.str q1 q2
    | _ => exact ⟨fun pins s σ H Q I ⟨env, A, hA, hE, h⟩ => by simp only [ev, e] at h; exact h.elim⟩
theorem ses_nil : SEs X W M C G t [] .nil := PA.imp pa_nil fun σ H Q ⟨env, A, hA, hE, h⟩ => by
  simp only [evs] at h
  exact h [] H (Same.refl H) .nil
theorem ses_cons {e : Expr} {es : List Expr} {de : DE} {des : DEs} (ha : SE X W M C G false t e de) (hr : SEs X W M C G t es des) (hs : starEach (e :: es) X.env = (false, eval e X.env) :: starEach es X.env) : SEs X W M C G t (e :: es) (.cons de des) :=
  PA.imp (pa_cons ha hr hs) fun σ H Q ⟨env, A, hA, hE, h⟩ => by
    simp only [evs] at h
    exact ⟨env, A, hA, hE, h.bindE (t' := t) fun d v H1 _ s1 r1 h1 => ⟨env, A, hA.same s1, hE.same s1, h1.bindL (t' := t) fun ds vs H2 _ s2 r2 h2 => h2 _ _ (Same.refl _) (.cons (r1.same s2) r2)⟩⟩
def DEs.len : DEs → Nat
  | .nil => 0
  | .cons _ es => es.len + 1
theorem evs_len {env : Env} : ∀ {es : DEs} {ds : List D}, evs C G es env = .ok ds → ds.length = es.len
  | .nil, ds, h => by simp only [evs, R.ok.injEq] at h; subst h; rfl
  | .cons e es, ds, h => by
    simp only [evs] at h
    cases h1 : ev C G e env with
    | ok d =>
      rw [h1, R.bind_ok] at h
      cases h2 : evs C G es env with
      | ok r =>
        rw [h2, R.bind_ok] at h
        injection h with h
        subst h
        simp [DEs.len, evs_len h2]
      | exc c => rw [h2] at h; cases h
      | bad => rw [h2] at h; cases h
    | exc c => rw [h1] at h; cases h
    | bad => rw [h1] at h; cases h
theorem se_tup {es : List Expr} {des : DEs} {k : Nat} {pos : Pos} (h : SEs X W M C G t es des) (z : des.len ≤ SZ) : SE X W M C G false t (.Tuple es k pos) (.tup des) :=
  PE.imp (pe_tup h) fun σ H Q ⟨env, A, hA, hE, h⟩ => by
    simp only [ev] at h
    refine ⟨env, A, hA, hE, h.bindL (t' := t) fun ds vs H1 e s1 r1 h1 => ?_⟩
    have z1 : ds.length ≤ SZ := by rw [evs_len e]; exact z
    refine ⟨by rw [r1.length, sz_eq]; exact z1, fun p n => h1.newT n r1 z1⟩
theorem se_lst {es : List Expr} {des : DEs} {pos : Pos} (h : SEs X W M C G t es des) (z : des.len ≤ SZ) : SE X W M C G fr t (.List es pos) (.lst des) :=
  PE.imp (pe_lst h) fun σ H Q ⟨env, A, hA, hE, h⟩ => by
    simp only [ev] at h
    refine ⟨env, A, hA, hE, h.bindL (t' := t) fun ds vs H1 e s1 r1 h1 => ?_⟩
    have z1 : ds.length ≤ SZ := by rw [evs_len e]; exact z
    refine ⟨by rw [r1.length, sz_eq]; exact z1, fun p n => h1.newL (hA.same s1) n r1 z1⟩

/-! ### operators -/
/-- two data and what is wanted of a function of them -/
def D2 (K : PySem.W.Frag) (f : D → D → R D) (fr : Bool) : R2 := fun x y H Q => ∃ (W : WC) (A : Addr → Prop) (σ : L2.St) (t : Bool) (d e : D), OkA H A ∧ Rep K H (RA t A) x d ∧ Rep K H (RA t A) y e ∧ Pst K W A σ H Q fr t (f d e)
theorem OpR.imp {f : Value → Value → Sem Value} {r r' : R2} (h : OpR X f r) (i : ∀ x y H Q, r' x y H Q → r x y H Q) : OpR X f r' := fun pins s σ H x y v u Q I rx ry q => h pins s σ H x y v u Q I rx ry (i x y H Q q)
theorem se_op {o : Op} {oc : Operator} {a b : Expr} {da db : DE} {pos : Pos} (ho : OpR X (binaryOp oc) (D2 X.K (D.opD o) fr)) (ha : SE X W M C G false t a da) (hb : SE X W M C G false t b db) : SE X W M C G fr t (.BinOp a oc b pos) (.op o da db) :=
  PE.imp (pe_op ho ha hb) fun σ H Q ⟨env, A, hA, hE, h⟩ => by
    simp only [ev] at h
    exact ⟨env, A, hA, hE, h.bindE (t' := t) fun d v H1 _ s1 r1 _ h1 => ⟨env, A, hA.same s1, hE.same s1, h1.bindE (t' := t) fun e u H2 _ s2 r2 _ h2 => ⟨W, A, σ, t, d, e, (hA.same s1).same s2, r1.same s2, r2, h2⟩⟩⟩
theorem op_addD : OpR X (binaryOp .Add) (D2 X.K (D.opD .add) fr) := by
  refine OpR.imp (op_add.or (op_add_str.or (op_catA.or op_cat))) fun x y H Q ⟨W, A, σ, t, d, e, hA, rx, ry, h⟩ => ?_
  cases rx with
  | int i => cases ry with
    | int j => exact .inl ⟨i, j, rfl, rfl, h.int⟩
    | _ => exact h.elim
  | str i h1 h2 => cases ry with
    | str j h3 h4 =>
      refine .inr (.inl ⟨i, j, rfl, rfl, ?_⟩)
      simp only [D.opD, D.add] at h
      split at h
      · rename_i hz
        refine ⟨by rw [sz_eq]; exact hz, h.str ?_ ?_⟩
        · show (i.cps ++ j.cps).all _ = true
          rw [Array.all_append, show i.cps.all _ = true from h1, show j.cps.all _ = true from h3]
          rfl
        · show (i.cps ++ j.cps).size ≤ SZ
          rw [Array.size_append]
          exact hz
      · exact h.elim
    | _ => exact h.elim
  | @tup a xs ds h1 r1 z1 => cases ry with
    | @tup b ys es h2 r2 z2 =>
      refine .inr (.inr (.inl ⟨a, b, xs, ys, rfl, rfl, h1, h2, ?_⟩))
      simp only [D.opD, D.add] at h
      split at h
      · rename_i hz
        have hl : xs.length + ys.length ≤ sizeLine := by rw [r1.length, r2.length, sz_eq]; exact hz
        refine ⟨hl, fun hx => ?_, fun hx hy => ?_, fun hx hy p n => ?_⟩
        · subst hx
          cases r1
          exact h.tup h2 (by simpa using r2) (by simpa using z2)
        · subst hy
          cases r2
          exact h.tup h1 (by simpa using r1) (by simpa using z1)
        · exact h.newT n (r1.append r2) (by simpa using hz)
      · exact h.elim
    | _ => exact h.elim
  | @lst a xs ds h1 a1 r1 z1 => cases ry with
    | @lst b ys es h2 a2 r2 z2 =>
      refine .inr (.inr (.inr ⟨a, b, xs, ys, rfl, rfl, h1, h2, ?_⟩))
      simp only [D.opD, D.add] at h
      split at h
      · rename_i hz
        refine ⟨by rw [r1.length, r2.length, sz_eq]; exact hz, fun p n => ?_⟩
        exact h.newL hA n (r1.append r2) (by simpa using hz)
      · exact h.elim
    | _ => exact h.elim
  | non => exact h.elim
  | bl _ => exact h.elim
  | dk _ _ _ _ => exact h.elim
  | dt _ _ _ _ _ => exact h.elim
  | arg _ => exact h.elim
theorem op_subD : OpR X (binaryOp .Sub) (D2 X.K (D.opD .sub) fr) := by
  refine OpR.imp op_sub fun x y H Q ⟨W, A, σ, t, d, e, hA, rx, ry, h⟩ => ?_
  cases rx with
  | int i => cases ry with
    | int j => exact ⟨i, j, rfl, rfl, h.int⟩
    | _ => exact h.elim
  | _ => exact h.elim
theorem op_modD : OpR X (binaryOp .Mod) (D2 X.K (D.opD .mod) fr) := by
  refine OpR.imp op_mod fun x y H Q ⟨W, A, σ, t, d, e, hA, rx, ry, h⟩ => ?_
  cases rx with
  | int i => cases ry with
    | int j =>
      simp only [D.opD, D.mod] at h
      split at h
      · rename_i hz
        exact ⟨i, j, rfl, rfl, hz, h.int⟩
      · exact h.elim
    | _ => exact h.elim
  | _ => exact h.elim
theorem op_fdivD : OpR X (binaryOp .FloorDiv) (D2 X.K (D.opD .fdiv) fr) := by
  refine OpR.imp op_fdiv fun x y H Q ⟨W, A, σ, t, d, e, hA, rx, ry, h⟩ => ?_
  cases rx with
  | int i => cases ry with
    | int j =>
      simp only [D.opD, D.fdiv] at h
      split at h
      · rename_i hz
        exact ⟨i, j, rfl, rfl, hz, h.int⟩
      · exact h.elim
    | _ => exact h.elim
  | _ => exact h.elim
theorem RepL.rep {K : PySem.W.Frag} {H : Hp} {A : Addr → Prop} {v : List V} {d : List D} (h : RepL K H A v d) : ∀ n : Nat, RepL K H A (List.replicate n v).flatten (List.replicate n d).flatten
  | 0 => .nil
  | n + 1 => by
    rw [List.replicate_succ, List.replicate_succ, List.flatten_cons, List.flatten_cons]
    exact h.append (RepL.rep h n)
theorem rep_length {α : Type} (xs : List α) (n : Nat) : (List.replicate n xs).flatten.length = n * xs.length := by
  simp [List.length_flatten]
theorem op_mulD : OpR X (binaryOp .Mult) (D2 X.K (D.opD .mul) fr) := by
  refine OpR.imp (op_mul.or op_rep) fun x y H Q ⟨W, A, σ, t, d, e, hA, rx, ry, h⟩ => ?_
  cases rx with
  | int i => cases ry with
    | int j =>
      simp only [D.opD, D.mul] at h
      split at h
      · rename_i hz
        refine .inl ⟨i, j, rfl, rfl, ?_, h.int⟩
        simp only [D.small, Bool.or_eq_true, decide_eq_true_eq] at hz
        exact hz
      · exact h.elim
    | _ => exact h.elim
  | @lst a xs ds h1 a1 r1 z1 => cases ry with
    | int k =>
      simp only [D.opD, D.mul] at h
      split at h
      · rename_i hz
        simp only [D.fits63, Bool.and_eq_true, decide_eq_true_eq] at hz
        obtain ⟨⟨k1, k2⟩, k3⟩ := hz
        refine .inr ⟨a, k, xs, rfl, rfl, h1, k1, k2, by rw [r1.length, sz_eq]; exact k3, fun p n => ?_⟩
        refine h.newL hA n (r1.rep _) ?_
        rw [rep_length, Nat.mul_comm]
        exact k3
      · exact h.elim
    | _ => exact h.elim
  | _ => exact h.elim

/-! ### comparisons -/
/-- what is wanted of a truth -/
def D2B (K : PySem.W.Frag) (f : D → D → R Bool) : R2 := fun x y H Q => ∃ (W : WC) (A B : Addr → Prop) (σ : L2.St) (d e : D), Rep K H A x d ∧ Rep K H B y e ∧ PstB W σ H (fun b H' => Q (.bl b) H') (f d e)
theorem PstB.now {W : WC} {σ : L2.St} {H : Hp} {Q : Bool → Hp → Prop} {b : Bool} (h : PstB W σ H Q (.ok b)) : Q b H := h H (Same.refl H)
theorem Pst.toB {K : PySem.W.Frag} {W : WC} {A : Addr → Prop} {σ : L2.St} {H : Hp} {Q : VK} {fr t : Bool} {r : R Bool} (h : Pst K W A σ H Q fr t (r.bind fun c => .ok (.bl c))) : PstB W σ H (fun b H' => Q (.bl b) H') r := h.bindB fun d H1 _ s1 h1 => h1.bl
theorem se_cmp {o : Cm} {oc : CmpOp} {a b : Expr} {da db : DE} {pos : Pos} (ho : OpR X (compareOp oc) (D2B X.K (D.cmD o))) (ha : SE X W M C G false true a da) (hb : SE X W M C G false true b db) (hm : behindInMarks oc b = false) : SE X W M C G fr t (.Compare a [oc] [b] pos) (.cmp o da db) :=
  PE.imp (pe_cmpR ho ha hb hm) fun σ H Q ⟨env, A, hA, hE, h⟩ => by
    simp only [ev] at h
    exact ⟨env, A, hA, hE, h.bindE (t' := true) fun d v H1 _ s1 r1 _ h1 => ⟨env, A, hA.same s1, hE.same s1, h1.bindE (t' := true) fun e u H2 _ s2 r2 _ h2 => ⟨W, _, _, σ, d, e, r1.same s2, r2, h2.toB⟩⟩⟩
theorem st_cmp {o : Cm} {oc : CmpOp} {a b : Expr} {da db : DE} {pos : Pos} (ho : OpR X (compareOp oc) (D2B X.K (D.cmD o))) (ha : SE X W M C G false true a da) (hb : SE X W M C G false true b db) (hm : behindInMarks oc b = false) : ST X W M C G (.Compare a [oc] [b] pos) (.cmp o da db) :=
  PT.imp (pt_cmpR ho ha hb hm) fun σ H Q ⟨env, A, hA, hE, h⟩ => by
    simp only [ev] at h
    refine ⟨env, A, hA, hE, ?_⟩
    cases e1 : ev C G da env with
    | exc c => rw [e1] at h; exact h
    | bad => rw [e1] at h; exact h
    | ok d =>
      rw [e1] at h
      refine fun v H1 s1 r1 _ => ⟨env, A, hA.same s1, hE.same s1, ?_⟩
      cases e2 : ev C G db env with
      | exc c => rw [e2] at h; exact fun H' s' => h H' (s1.trans s')
      | bad => rw [e2] at h; exact h
      | ok e =>
        rw [e2] at h
        refine fun u H2 s2 r2 _ => ⟨W, _, _, σ, d, e, r1.same s2, r2, ?_⟩
        have h' := PstB.mono (s1.trans s2) h
        cases e3 : D.cmD o d e with
        | exc c => rw [R.bind_ok, R.bind_ok, e3] at h'; exact h'
        | bad => rw [R.bind_ok, R.bind_ok, e3] at h'; exact h'
        | ok b => rw [R.bind_ok, R.bind_ok, e3] at h'; exact fun H' s' => ⟨b, rfl, h' H' s'⟩
theorem reads_eq {op : CmpOp} {f : Bool → Bool} (hu : X.A.units + 200 < cLine)
    (rule : ∀ {s : Shared} {a b : Value} {da db : PyData} {as bs : List Addr} {Q : Value → Shared → Prop}, Reads s.heap a da as → Reads s.heap b db bs → da.canLay0 = true → db.canLay0 = true → X.A.units + min da.depth db.depth < cLine → Q (.bool (f (PyData.eqv da db))) s → wpAny (model X.prog X.w) X.A (compareOp op a b) Q X.xe s)
    : OpR X (compareOp op) (D2B X.K fun a b => if D.eqOk a b then .ok (f (D.eqv a b)) else .bad) := by
  intro pins s σ H x y v u Q I rx ry ⟨W, A, B, σ', d, e, r1, r2, h⟩
  have h : PstB W σ' H (fun b H' => Q (.bl b) H') (if D.eqOk d e then .ok (f (D.eqv d e)) else .bad) := h
  split at h
  · rename_i hk
    simp only [D.eqOk, Bool.and_eq_true, decide_eq_true_eq] at hk
    obtain ⟨⟨k1, k2⟩, k3⟩ := hk
    obtain ⟨as, q1⟩ := Dp.reads I d.toP x v (r1.dp k1) rx
    obtain ⟨bs, q2⟩ := Dp.reads I e.toP y u (r2.dp k2) ry
    refine rule q1 q2 (r1.lay k1) (r2.lay k2) ?_ ⟨.bl _, H, I, rfl, ?_⟩
    · rw [dep_toP k1, dep_toP k2]
      have : D.DM = 150 := rfl
      omega
    · rw [eqv_toP k1 k2]
      exact h.now
  · exact h.elim
theorem op_eqD' (hu : X.A.units + 200 < cLine) : OpR X (compareOp .Eq) (D2B X.K (D.cmD .eq)) :=
  reads_eq (f := fun b => b) hu fun q1 q2 l1 l2 hd h => SeqAt.compareEq_reads q1 q2 l1 l2 hd h
theorem op_neD' (hu : X.A.units + 200 < cLine) : OpR X (compareOp .NotEq) (D2B X.K (D.cmD .ne)) :=
  reads_eq (f := fun b => !b) hu fun q1 q2 l1 l2 hd h => SeqAt.compareNe_reads q1 q2 l1 l2 hd h
theorem op_ltD : OpR X (compareOp .Lt) (D2B X.K (D.cmD .lt)) := by
  refine OpR.imp (op_lt.or op_lt_str) fun x y H Q ⟨W, A, B, σ, d, e, rx, ry, h⟩ => ?_
  cases rx with
  | int i => cases ry with
    | int j => exact .inl ⟨i, j, rfl, rfl, h.now⟩
    | _ => exact h.elim
  | str i _ _ => cases ry with
    | str j _ _ => exact .inr ⟨i, j, rfl, rfl, h.now⟩
    | _ => exact h.elim
  | _ => exact h.elim
theorem op_leD : OpR X (compareOp .LtE) (D2B X.K (D.cmD .le)) := by
  refine OpR.imp (op_le.or op_le_str) fun x y H Q ⟨W, A, B, σ, d, e, rx, ry, h⟩ => ?_
  cases rx with
  | int i => cases ry with
    | int j => exact .inl ⟨i, j, rfl, rfl, h.now⟩
    | _ => exact h.elim
  | str i _ _ => cases ry with
    | str j _ _ => exact .inr ⟨i, j, rfl, rfl, h.now⟩
    | _ => exact h.elim
  | _ => exact h.elim
theorem op_gtD : OpR X (compareOp .Gt) (D2B X.K (D.cmD .gt)) := by
  refine OpR.imp op_gt fun x y H Q ⟨W, A, B, σ, d, e, rx, ry, h⟩ => ?_
  cases rx with
  | int i => cases ry with
    | int j => exact ⟨i, j, rfl, rfl, h.now⟩
    | _ => exact h.elim
  | _ => exact h.elim
theorem op_geD : OpR X (compareOp .GtE) (D2B X.K (D.cmD .ge)) := by
  refine OpR.imp op_ge fun x y H Q ⟨W, A, B, σ, d, e, rx, ry, h⟩ => ?_
  cases rx with
  | int i => cases ry with
    | int j => exact ⟨i, j, rfl, rfl, h.now⟩
    | _ => exact h.elim
  | _ => exact h.elim
theorem op_isD : OpR X (compareOp .Is) (D2B X.K (D.cmD .is)) := by
  refine OpR.imp (op_isN.or op_isBl) fun x y H Q ⟨W, A, B, σ, d, e, rx, ry, h⟩ => ?_
  cases ry with
  | non =>
    refine .inl ⟨rfl, ?_⟩
    cases rx with
    | non => exact h.now
    | bl _ => exact h.now
    | int _ => exact h.now
    | str _ _ _ => exact h.now
    | tup _ _ _ => exact h.now
    | lst _ _ _ _ => exact h.now
    | _ => exact h.elim
  | bl b => cases rx with
    | bl a => exact .inr ⟨a, b, rfl, rfl, by have h2 := h.now; rw [Bool.beq_eq_decide_eq] at h2; exact h2⟩
    | _ => exact h.elim
  | _ => cases rx <;> exact h.elim
theorem op_isnotD : OpR X (compareOp .IsNot) (D2B X.K (D.cmD .isnot)) := by
  refine OpR.imp (op_notN.or op_notBl) fun x y H Q ⟨W, A, B, σ, d, e, rx, ry, h⟩ => ?_
  cases ry with
  | non =>
    refine .inl ⟨rfl, ?_⟩
    cases rx with
    | non => exact h.now
    | bl _ => exact h.now
    | int _ => exact h.now
    | str _ _ _ => exact h.now
    | tup _ _ _ => exact h.now
    | lst _ _ _ _ => exact h.now
    | _ => exact h.elim
  | bl b => cases rx with
    | bl a => exact .inr ⟨a, b, rfl, rfl, by have h2 := h.now; rw [Bool.beq_eq_decide_eq] at h2; exact h2⟩
    | _ => exact h.elim
  | _ => cases rx <;> exact h.elim

/-! ### dicts -/
def kD : Key → D
  | .inl i => .int i
  | .inr x => .str x
theorem eqv_kD : ∀ (a b : Key), D.eqv (kD a) (kD b) = decide (a = b)
  | .inl i, .inl j => by simp [kD, D.eqv]; exact Bool.beq_eq_decide_eq _ _
  | .inl i, .inr j => by simp [kD, D.eqv]
  | .inr i, .inl j => by simp [kD, D.eqv]
  | .inr i, .inr j => by simp [kD, D.eqv]; exact Bool.beq_eq_decide_eq _ _
theorem eqvL_kD : ∀ (a b : List Key), D.eqvL (a.map kD) (b.map kD) = decide (a = b)
  | [], [] => by simp [D.eqvL]
  | [], _ :: _ => by simp [D.eqvL]
  | _ :: _, [] => by simp [D.eqvL]
  | a :: as, b :: bs => by
    simp only [List.map_cons, D.eqvL, eqv_kD, eqvL_kD as bs, List.cons.injEq]
    by_cases h : a = b <;> by_cases h2 : as = bs <;> simp [h, h2]
section
variable {K : PySem.W.Frag} {H : Hp} {A : Addr → Prop}
theorem rep_key {v : V} {d : D} (r : Rep K H A v d) (h : D.keyTy d = some false) : ∃ k : Key, v = kV k ∧ d = kD k := by
  cases r with
  | int i => exact ⟨.inl i, rfl, rfl⟩
  | str x _ _ => exact ⟨.inr x, rfl, rfl⟩
  | tup _ _ _ => simp only [D.keyTy] at h; split at h <;> cases h
  | _ => cases h
theorem repL_keys : ∀ {vs : List V} {xs : List D}, RepL K H A vs xs → D.isKeys xs = true → ∃ ks : List Key, vs = ks.map kV ∧ xs = ks.map kD
  | _, _, .nil, _ => ⟨[], rfl, rfl⟩
  | _, _, .cons r rs, h => by
    simp only [D.isKeys, Bool.and_eq_true] at h
    obtain ⟨ks, h1, h2⟩ := repL_keys rs h.2
    have hk : ∃ k : Key, _ = kV k ∧ _ = kD k := rep_key r (by
      cases r with
      | int i => rfl
      | str x _ _ => rfl
      | _ => have := h.1; simp [D.isKey] at this)
    obtain ⟨k, h3, h4⟩ := hk
    exact ⟨k :: ks, by simp [h1, h3], by simp [h2, h4]⟩
theorem rep_tupkey {v : V} {d : D} (r : Rep K H A v d) (h : D.keyTy d = some true) : ∃ (b : Addr) (ks : List Key), v = .ref b ∧ SqT K H b (ks.map kV) ∧ d = .tup (ks.map kD) := by
  cases r with
  | @tup a xs ds h1 r1 z1 =>
    have hk : D.isKeys ds = true := by
      simp only [D.keyTy] at h
      split at h
      · assumption
      · cases h
    obtain ⟨ks, h2, h3⟩ := repL_keys r1 hk
    subst h2 h3
    exact ⟨a, ks, rfl, h1, rfl⟩
  | int _ => cases h
  | str _ _ _ => cases h
  | _ => cases h
def RelRep (K : PySem.W.Frag) (H : Hp) (A : Addr → Prop) : Option V → Option D → Prop
  | some v, some d => Rep K H A v d
  | none, none => True
  | _, _ => False
theorem find_cons (p : D × D) (r : List (D × D)) (k : D) : D.find (p :: r) k = if D.eqv p.1 k then some p.2 else D.find r k := by
  unfold D.find
  rw [List.find?_cons]
  cases h : D.eqv p.1 k <;> simp
theorem find_k : ∀ {kvs : List (Key × V)} {ds : List (D × D)}, RepK K H A kvs ds → ∀ k : Key, RelRep K H A (valV kvs k) (D.find ds (kD k))
  | _, _, .nil, k => by simp [valV, D.find, RelRep]
  | _, _, .int (i := i) (v := v) (vs := vs) (d := d) (ds := ds) r rs, k => by
    rw [find_cons, show D.eqv (D.int i) (kD k) = decide ((.inl i : Key) = k) from eqv_kD (.inl i) k]
    by_cases h : (.inl i : Key) = k
    · rw [valV_pos (show (((.inl i : Key), v)).1 = k from h), if_pos (decide_eq_true h)]
      exact r
    · rw [valV_neg (show ¬ (((.inl i : Key), v)).1 = k from h), if_neg (by rw [decide_eq_false h]; exact Bool.false_ne_true)]
      exact find_k rs k
  | _, _, .str (x := i) (v := v) (vs := vs) (d := d) (ds := ds) _ _ r rs, k => by
    rw [find_cons, show D.eqv (D.str i) (kD k) = decide ((.inr i : Key) = k) from eqv_kD (.inr i) k]
    by_cases h : (.inr i : Key) = k
    · rw [valV_pos (show (((.inr i : Key), v)).1 = k from h), if_pos (decide_eq_true h)]
      exact r
    · rw [valV_neg (show ¬ (((.inr i : Key), v)).1 = k from h), if_neg (by rw [decide_eq_false h]; exact Bool.false_ne_true)]
      exact find_k rs k
theorem find_t : ∀ {kvs : List (List Key × V)} {ds : List (D × D)}, RepT K H A kvs ds → ∀ k : List Key, RelRep K H A (valV kvs k) (D.find ds (.tup (k.map kD)))
  | _, _, .nil, k => by simp [valV, D.find, RelRep]
  | _, _, .cons (ks := ks) (xs := xs) (v := v) (vs := vs) (d := d) (ds := ds) rk hk z r rs, k => by
    obtain ⟨ks', h2, h3⟩ := repL_keys rk hk
    have e : ks = ks' := kVs_inj h2
    subst e h3
    rw [find_cons, show D.eqv (.tup (ks.map kD)) (.tup (k.map kD)) = decide (ks = k) from by rw [D.eqv]; exact eqvL_kD ks k]
    by_cases h : ks = k
    · rw [valV_pos (show ((ks, v)).1 = k from h), if_pos (decide_eq_true h)]
      exact r
    · rw [valV_neg (show ¬ ((ks, v)).1 = k from h), if_neg (by rw [decide_eq_false h]; exact Bool.false_ne_true)]
      exact find_t rs k
theorem RelRep.isSome {o : Option V} {u : Option D} (r : RelRep K H A o u) : o.isSome = u.isSome := by
  cases o <;> cases u <;> first | rfl | exact r.elim
theorem repK_keys : ∀ {kvs : List (Key × V)} {ds : List (D × D)}, RepK K H A kvs ds → D.keysTy false ds = true
  | _, _, .nil => rfl
  | _, _, .int _ rs => by simp [D.keysTy, D.keyTy, repK_keys rs]
  | _, _, .str _ _ _ rs => by simp [D.keysTy, D.keyTy, repK_keys rs]
end
section
variable {pins : List (Addr × Obj)} {σ : L2.St} {H : Hp} {s : Shared} {E : Value → Shared → Prop}
theorem key_ofT {b : Addr} {ks : List Key} (I : L2.Inv X pins σ H s) (h : SqT X.K H b (ks.map kV)) : (tupleKind (mixKind X.prog X.w)).is s.heap ks b := by
  obtain ⟨its, r, ⟨o, e, c, n, d⟩, _⟩ := I.tuple h
  exact ⟨o, its.toArray, n, e, c, d, by simpa using items_are r⟩
/-- a dict and a key of its sort -/
theorem d_in2 {A B : Addr → Prop} {v x : V} {d y : D} {u uy : Value} {t : Bool} {kvs : List (D × D)} {Q : Value → Shared → Prop} {A0 : Around} (hu : A0.units + 1 < cLine) (I : L2.Inv X pins σ H s) (r : Rep X.K H A v (.dct kvs)) (rv : RelV v u) (rk : Rep X.K H B x y) (rx : RelV x uy) (ht : D.keyTy y = some t) (hk : D.keysTy t kvs = true) (hn : (t && kvs.isEmpty) = false)
    (h : ∀ s', L2.Inv X pins σ H s' → Q (.bool (D.find kvs y).isSome) s') : wpAny (model X.prog X.w) A0 (compareOp .In uy u) Q E s := by
  cases t with
  | false =>
    obtain ⟨k, e1, e2⟩ := rep_key rk ht
    subst e1 e2
    cases r with
    | @dk a kv ds hd ha r1 z =>
      cases rv
      refine d_in hu I (.inl ⟨kv, k, hd, rfl, rfl⟩) rx fun s' I' => ?_
      rw [(find_k r1 k).isSome]
      exact h s' I'
    | @dt a kv ds hd ha r1 z0 z =>
      exfalso
      cases r1 with
      | nil => exact z0 rfl
      | cons rk2 hk2 _ _ _ => simp [D.keysTy, D.keyTy, hk2] at hk
  | true =>
    obtain ⟨b, k, e1, e2, e3⟩ := rep_tupkey rk ht
    subst e1 e3
    cases r with
    | @dk a kv ds hd ha r1 z =>
      exfalso
      cases r1 with
      | nil => simp at hn
      | int _ _ => simp [D.keysTy, D.keyTy] at hk
      | str _ _ _ _ => simp [D.keysTy, D.keyTy] at hk
    | @dt a kv ds hd ha r1 z0 z =>
      cases rv
      cases rx
      obtain ⟨z, hsm, xs, rel, dd⟩ := dt_rd I.hok hd
      refine wpAny_in_heap (tupleKind_room_in1 hu) (key_ofT I e2) hsm dd ?_
      have q := (rel.val k).isSome_eq
      rw [Option.isSome_map] at q
      rw [← q, (find_t r1 k).isSome]
      exact h _ (I.tok _)
theorem d_notIn2 {A B : Addr → Prop} {v x : V} {d y : D} {u uy : Value} {t : Bool} {kvs : List (D × D)} {Q : Value → Shared → Prop} {A0 : Around} (hu : A0.units + 1 < cLine) (I : L2.Inv X pins σ H s) (r : Rep X.K H A v (.dct kvs)) (rv : RelV v u) (rk : Rep X.K H B x y) (rx : RelV x uy) (ht : D.keyTy y = some t) (hk : D.keysTy t kvs = true) (hn : (t && kvs.isEmpty) = false)
    (h : ∀ s', L2.Inv X pins σ H s' → Q (.bool (!(D.find kvs y).isSome)) s') : wpAny (model X.prog X.w) A0 (compareOp .NotIn uy u) Q E s := by
  cases t with
  | false =>
    obtain ⟨k, e1, e2⟩ := rep_key rk ht
    subst e1 e2
    cases r with
    | @dk a kv ds hd ha r1 z =>
      cases rv
      refine d_notIn hu I (.inl ⟨kv, k, hd, rfl, rfl⟩) rx fun s' I' => ?_
      rw [(find_k r1 k).isSome]
      exact h s' I'
    | @dt a kv ds hd ha r1 z0 z =>
      exfalso
      cases r1 with
      | nil => exact z0 rfl
      | cons rk2 hk2 _ _ _ => simp [D.keysTy, D.keyTy, hk2] at hk
  | true =>
    obtain ⟨b, k, e1, e2, e3⟩ := rep_tupkey rk ht
    subst e1 e3
    cases r with
    | @dk a kv ds hd ha r1 z =>
      exfalso
      cases r1 with
      | nil => simp at hn
      | int _ _ => simp [D.keysTy, D.keyTy] at hk
      | str _ _ _ _ => simp [D.keysTy, D.keyTy] at hk
    | @dt a kv ds hd ha r1 z0 z =>
      cases rv
      cases rx
      obtain ⟨z, hsm, xs, rel, dd⟩ := dt_rd I.hok hd
      refine wpAny_notIn_heap (tupleKind_room_in1 hu) (key_ofT I e2) hsm dd ?_
      have q := (rel.val k).isSome_eq
      rw [Option.isSome_map] at q
      rw [← q, (find_t r1 k).isSome]
      exact h _ (I.tok _)
theorem RelRep.some_of {K : PySem.W.Frag} {H : Hp} {A : Addr → Prop} {o : Option V} {d : D} (r : RelRep K H A o (some d)) : ∃ v, o = some v ∧ Rep K H A v d := by
  cases o with
  | none => exact r.elim
  | some v => exact ⟨v, rfl, r⟩
/-- d[k], there -/
theorem d_get2' {A B : Addr → Prop} {v x : V} {d0 y : D} {u uy : Value} {t : Bool} {kvs : List (D × D)} {Q : Value → Shared → Prop} {A0 : Around} (hu : A0.units + 1 < cLine) (I : L2.Inv X pins σ H s) (r : Rep X.K H A v (.dct kvs)) (rv : RelV v u) (rk : Rep X.K H B x y) (rx : RelV x uy) (ht : D.keyTy y = some t) (hk : D.keysTy t kvs = true) (hf : D.find kvs y = some d0)
    (h : ∀ w' x' s', L2.Inv X pins σ H s' → RelV x' w' → Rep X.K H A x' d0 → Q w' s') : wpAny (model X.prog X.w) A0 (getItem u uy) Q E s := by
  cases t with
  | false =>
    obtain ⟨k, e1, e2⟩ := rep_key rk ht
    subst e1 e2
    cases r with
    | @dk a kv ds hd ha r1 z =>
      cases rv
      have q := find_k r1 k
      rw [hf] at q
      obtain ⟨v0, hv, rr⟩ := q.some_of
      exact d_getItem hu I (.inl ⟨kv, k, hd, rfl, hv.symm⟩) rx fun w' s' I' rw' => h w' v0 s' I' rw' rr
    | @dt a kv ds hd ha r1 z0 z =>
      exfalso
      cases r1 with
      | nil => exact z0 rfl
      | cons rk2 hk2 _ _ _ => simp [D.keysTy, D.keyTy, hk2] at hk
  | true =>
    obtain ⟨b, k, e1, e2, e3⟩ := rep_tupkey rk ht
    subst e1 e3
    cases r with
    | @dk a kv ds hd ha r1 z =>
      exfalso
      cases r1 with
      | nil => simp [D.find] at hf
      | int _ _ => simp [D.keysTy, D.keyTy] at hk
      | str _ _ _ _ => simp [D.keysTy, D.keyTy] at hk
    | @dt a kv ds hd ha r1 z0 z =>
      cases rv
      cases rx
      have q := find_t r1 k
      rw [hf] at q
      obtain ⟨v0, hv, rr⟩ := q.some_of
      obtain ⟨z, hsm, xs, rel, dd⟩ := dt_rd I.hok hd
      obtain ⟨w', hw, rw'⟩ := RelO.some_of (v := v0) (o := (atKey xs k).map (·.2)) (by rw [← hv]; exact rel.val k)
      obtain ⟨p, hp, hp2⟩ := Option.map_eq_some_iff.mp hw
      refine wpAny_getItem_heap (tupleKind_room_in1 hu) (key_ofT I e2) dd hp ?_
      rw [hp2]
      exact h w' v0 _ (I.tok _) rw' rr
end

/-! ### in -/
theorem op_inD' (hu : X.A.units + 200 < cLine) : OpR X (compareOp .In) (D2B X.K (D.cmD .in)) := by
  intro pins s σ H x y v u Q I rx ry ⟨W, A, B, σ', d, e, r1, r2, h⟩
  have h : PstB W σ' H (fun b H' => Q (.bl b) H') (D.mem d e) := h
  cases e with
  | lst ys =>
    simp only [D.mem] at h
    split at h
    · rename_i hk
      simp only [Bool.and_eq_true, decide_eq_true_eq] at hk
      obtain ⟨⟨k1, k2⟩, k3⟩ := hk
      have p2 : (D.lst ys).plain = true := by simpa [D.plain] using k2
      obtain ⟨as, q1⟩ := Dp.reads I d.toP x v (r1.dp k1) rx
      obtain ⟨bs, q2⟩ := Dp.reads I (D.lst ys).toP y u (r2.dp p2) ry
      have l2 := r2.lay p2
      simp only [D.toP, PyData.canLay0] at l2 q2
      refine SeqAt.in_list_reads q2 q1 l2 (r1.lay k1) ?_ ⟨.bl _, H, I, rfl, ?_⟩
      · rw [dep_toP k1, dep_toPL k2]
        have : D.DM = 150 := rfl
        omega
      · have e : ((D.toPL ys).any fun y => PyData.eqv y d.toP) = ys.any fun y => D.eqv y d := by
          have go : ∀ {zs : List D}, D.plainL zs = true → ((D.toPL zs).any fun y => PyData.eqv y d.toP) = zs.any fun y => D.eqv y d := by
            intro zs
            induction zs with
            | nil => intro _; rfl
            | cons z zs ih =>
              intro hz
              have hz' : z.plain = true ∧ D.plainL zs = true := by simpa [D.plainL] using hz
              simp only [D.toPL, List.any_cons]
              rw [eqv_toP hz'.1 k1, ih hz'.2]
          exact go k2
        rw [e]
        exact h.now
    · exact h.elim
  | tup ys =>
    simp only [D.mem] at h
    split at h
    · rename_i hk
      simp only [Bool.and_eq_true, decide_eq_true_eq] at hk
      obtain ⟨⟨k1, k2⟩, k3⟩ := hk
      have p2 : (D.tup ys).plain = true := by simpa [D.plain] using k2
      obtain ⟨as, q1⟩ := Dp.reads I d.toP x v (r1.dp k1) rx
      obtain ⟨bs, q2⟩ := Dp.reads I (D.tup ys).toP y u (r2.dp p2) ry
      have l2 := r2.lay p2
      simp only [D.toP, PyData.canLay0] at l2 q2
      refine SeqAt.in_tuple_reads q2 q1 l2 (r1.lay k1) ?_ ⟨.bl _, H, I, rfl, ?_⟩
      · rw [dep_toP k1, dep_toPL k2]
        have : D.DM = 150 := rfl
        omega
      · have e : ((D.toPL ys).any fun y => PyData.eqv y d.toP) = ys.any fun y => D.eqv y d := by
          have go : ∀ {zs : List D}, D.plainL zs = true → ((D.toPL zs).any fun y => PyData.eqv y d.toP) = zs.any fun y => D.eqv y d := by
            intro zs
            induction zs with
            | nil => intro _; rfl
            | cons z zs ih =>
              intro hz
              have hz' : z.plain = true ∧ D.plainL zs = true := by simpa [D.plainL] using hz
              simp only [D.toPL, List.any_cons]
              rw [eqv_toP hz'.1 k1, ih hz'.2]
          exact go k2
        rw [e]
        exact h.now
    · exact h.elim
  | dct kvs =>
    simp only [D.mem] at h
    split at h
    · rename_i t ht
      split at h
      · rename_i hk
        simp only [Bool.and_eq_true, Bool.not_eq_true'] at hk
        exact d_in2 (d := d) (by omega) I r2 ry r1 rx ht hk.1 hk.2 fun s' I' => ⟨.bl _, H, I', rfl, h.now⟩
      · exact h.elim
    · exact h.elim
  | str z =>
    cases r1 with
    | str c h1 h2 =>
      simp only [D.mem] at h
      split at h
      · rename_i a ha
        cases r2
        refine op_in_sign pins s σ H (.str c) (.str z) v u Q I rx ry ⟨a, z, ?_, rfl, ?_⟩
        · obtain ⟨cps⟩ := c
          have : cps = #[a] := by
            cases cps
            simpa using ha
          rw [this]
        · have := h.now
          rwa [List.contains_eq_mem] at this
      · exact h.elim
    | _ => exact h.elim
  | _ => exact h.elim
theorem op_ninD' (hu : X.A.units + 200 < cLine) : OpR X (compareOp .NotIn) (D2B X.K (D.cmD .nin)) := by
  intro pins s σ H x y v u Q I rx ry ⟨W, A, B, σ', d, e, r1, r2, h⟩
  have h : PstB W σ' H (fun b H' => Q (.bl b) H') ((D.mem d e).bind fun c => .ok (!c)) := h
  cases e with
  | lst ys =>
    simp only [D.mem] at h
    split at h
    · rename_i hk
      simp only [Bool.and_eq_true, decide_eq_true_eq] at hk
      obtain ⟨⟨k1, k2⟩, k3⟩ := hk
      have p2 : (D.lst ys).plain = true := by simpa [D.plain] using k2
      obtain ⟨as, q1⟩ := Dp.reads I d.toP x v (r1.dp k1) rx
      obtain ⟨bs, q2⟩ := Dp.reads I (D.lst ys).toP y u (r2.dp p2) ry
      have l2 := r2.lay p2
      simp only [D.toP, PyData.canLay0] at l2 q2
      refine SeqAt.notIn_list_reads q2 q1 l2 (r1.lay k1) ?_ ⟨.bl _, H, I, rfl, ?_⟩
      · rw [dep_toP k1, dep_toPL k2]
        have : D.DM = 150 := rfl
        omega
      · have e : ((D.toPL ys).any fun y => PyData.eqv y d.toP) = ys.any fun y => D.eqv y d := by
          have go : ∀ {zs : List D}, D.plainL zs = true → ((D.toPL zs).any fun y => PyData.eqv y d.toP) = zs.any fun y => D.eqv y d := by
            intro zs
            induction zs with
            | nil => intro _; rfl
            | cons z zs ih =>
              intro hz
              have hz' : z.plain = true ∧ D.plainL zs = true := by simpa [D.plainL] using hz
              simp only [D.toPL, List.any_cons]
              rw [eqv_toP hz'.1 k1, ih hz'.2]
          exact go k2
        rw [e]
        exact h.now
    · exact h.elim
  | tup ys =>
    simp only [D.mem] at h
    split at h
    · rename_i hk
      simp only [Bool.and_eq_true, decide_eq_true_eq] at hk
      obtain ⟨⟨k1, k2⟩, k3⟩ := hk
      have p2 : (D.tup ys).plain = true := by simpa [D.plain] using k2
      obtain ⟨as, q1⟩ := Dp.reads I d.toP x v (r1.dp k1) rx
      obtain ⟨bs, q2⟩ := Dp.reads I (D.tup ys).toP y u (r2.dp p2) ry
      have l2 := r2.lay p2
      simp only [D.toP, PyData.canLay0] at l2 q2
      refine SeqAt.notIn_tuple_reads q2 q1 l2 (r1.lay k1) ?_ ⟨.bl _, H, I, rfl, ?_⟩
      · rw [dep_toP k1, dep_toPL k2]
        have : D.DM = 150 := rfl
        omega
      · have e : ((D.toPL ys).any fun y => PyData.eqv y d.toP) = ys.any fun y => D.eqv y d := by
          have go : ∀ {zs : List D}, D.plainL zs = true → ((D.toPL zs).any fun y => PyData.eqv y d.toP) = zs.any fun y => D.eqv y d := by
            intro zs
            induction zs with
            | nil => intro _; rfl
            | cons z zs ih =>
              intro hz
              have hz' : z.plain = true ∧ D.plainL zs = true := by simpa [D.plainL] using hz
              simp only [D.toPL, List.any_cons]
              rw [eqv_toP hz'.1 k1, ih hz'.2]
          exact go k2
        rw [e]
        exact h.now
    · exact h.elim
  | dct kvs =>
    simp only [D.mem] at h
    split at h
    · rename_i t ht
      split at h
      · rename_i hk
        simp only [Bool.and_eq_true, Bool.not_eq_true'] at hk
        exact d_notIn2 (d := d) (by omega) I r2 ry r1 rx ht hk.1 hk.2 fun s' I' => ⟨.bl _, H, I', rfl, h.now⟩
      · exact h.elim
    · exact h.elim
  | str z =>
    cases r1 with
    | str c h1 h2 =>
      simp only [D.mem] at h
      split at h
      · rename_i a ha
        cases r2
        refine op_notIn_sign pins s σ H (.str c) (.str z) v u Q I rx ry ⟨a, z, ?_, rfl, ?_⟩
        · obtain ⟨cps⟩ := c
          have : cps = #[a] := by
            cases cps
            simpa using ha
          rw [this]
        · have := h.now
          rwa [List.contains_eq_mem] at this
      · exact h.elim
    | _ => exact h.elim
  | _ => exact h.elim
end
end B

set_option maxHeartbeats 1000000
/-! GenD: more rules: tests, and, or, subscripts, slices. -/
namespace B
open PySem PySem.Spec PyProof.Rows L2
section
variable {X : Cx} {W : WC} {M : List Nat} {C : Nat → List D → R D} {G : List D} {fr t : Bool}
theorem tru_of {K : PySem.W.Frag} {H : Hp} {A : Addr → Prop} {v : V} {d : D} {b : Bool} (r : Rep K H A v d) (h : d.truth = .ok b) : TruV K v H b := by
  cases r with
  | non => injection h with h; exact h.symm
  | bl x => injection h with h; exact h.symm
  | int i => injection h with h; exact h.symm
  | str x h1 h2 => injection h with h; exact ⟨by rw [sz_eq]; exact h2, h.symm⟩
  | @tup a xs ds h1 r1 z1 =>
    injection h with h
    refine .inr (.inl ⟨xs, h1, ?_⟩)
    rw [← h]
    cases r1 <;> rfl
  | @lst a xs ds h1 a1 r1 z1 =>
    injection h with h
    refine .inl ⟨xs, .of h1, ?_⟩
    rw [← h]
    cases r1 <;> rfl
  | _ => cases h
theorem truth_noexc {d : D} {c : Nat} (h : d.truth = .exc c) : False := by cases d <;> cases h
/-- the truth of a value as a test -/
theorem st_val {e : Expr} {de : DE} (h : SE X W M C G false true e de) (he : ∀ whole, isTrue e X.env whole = (do let v ← whole; standAt e.pos; holding [v] (truthy v))) : ST X W M C G e de :=
  PT.imp (pt_truth h he) fun σ H Q ⟨env, A, hA, hE, h⟩ => by
    refine ⟨env, A, hA, hE, h.bindE (t' := true) fun d v H1 _ s1 r1 h1 => ?_⟩
    cases e2 : d.truth with
    | ok b => rw [e2] at h1; exact ⟨b, tru_of r1 e2, h1.now⟩
    | exc c => exact (truth_noexc e2).elim
    | bad => rw [e2] at h1; exact h1.elim
theorem st_not {e : Expr} {de : DE} {pos : Pos} (h : ST X W M C G e de) : ST X W M C G (.UnaryOp .Not e pos) (.not de) :=
  PT.imp (pt_not h) fun σ H Q ⟨env, A, hA, hE, h⟩ => by
    refine ⟨env, A, hA, hE, ?_⟩
    simp only [ev] at h
    dsimp only
    cases e1 : ev C G de env with
    | exc c => rw [e1] at h; exact h
    | bad => rw [e1] at h; exact h
    | ok d =>
      rw [e1, R.bind_ok] at h
      rw [R.bind_ok]
      cases e2 : d.truth with
      | exc c => exact (truth_noexc e2).elim
      | bad => rw [e2] at h; exact h
      | ok b => rw [e2] at h; exact fun H' s => h H' s
/-- a chain of and, or -/
abbrev SW (X : Cx) (W : WC) (M : List Nat) (C : Nat → List D → R D) (G : List D) (e : Expr) (de : DE) : Prop := PW X e (tB' X.K W M fun env => (ev C G de env).bind D.truth)
theorem SW.st {e : Expr} {de : DE} (h : SW X W M C G e de) : ST X W M C G e de := h.pt
theorem sw_and1 {a : Expr} {da : DE} {pos : Pos} (h : ST X W M C G a da) : SW X W M C G (.BoolOp .And [a] pos) da := pw_and1 h
theorem sw_or1 {a : Expr} {da : DE} {pos : Pos} (h : ST X W M C G a da) : SW X W M C G (.BoolOp .Or [a] pos) da := pw_or1 h
theorem PW.imp {X : Cx} {e : Expr} {t t' : TT} (h : PW X e t) (i : ∀ σ H Q, t' σ H Q → t σ H Q) : PW X e t' := ⟨fun wh pins s σ H Q I q => h.run wh pins s σ H Q I (i σ H Q q)⟩
theorem sw_and {a b : Expr} {rest : List Expr} {da db : DE} {pos : Pos} (ha : ST X W M C G a da) (hb : SW X W M C G (.BoolOp .And (b :: rest) pos) db) : SW X W M C G (.BoolOp .And (a :: b :: rest) pos) (.and da db) :=
  PW.imp (pw_and ha hb) fun σ H Q ⟨env, A, hA, hE, h⟩ => by
    refine ⟨env, A, hA, hE, ?_⟩
    simp only [ev] at h
    dsimp only
    cases e1 : ev C G da env with
    | exc c => rw [e1] at h; exact h
    | bad => rw [e1] at h; exact h
    | ok d =>
      rw [e1, R.bind_ok] at h
      rw [R.bind_ok]
      cases e2 : d.truth with
      | exc c => exact (truth_noexc e2).elim
      | bad => rw [e2] at h; exact h
      | ok b =>
        rw [e2, R.bind_ok] at h
        intro H1 s1
        cases b with
        | true => rw [if_pos rfl]; rw [if_pos rfl] at h; exact ⟨env, A, hA.same s1, hE.same s1, PstB.mono s1 h⟩
        | false =>
          rw [if_neg Bool.false_ne_true]
          rw [if_neg Bool.false_ne_true, R.bind_ok, e2] at h
          exact h H1 s1
theorem sw_or {a b : Expr} {rest : List Expr} {da db : DE} {pos : Pos} (ha : ST X W M C G a da) (hb : SW X W M C G (.BoolOp .Or (b :: rest) pos) db) : SW X W M C G (.BoolOp .Or (a :: b :: rest) pos) (.or da db) :=
  PW.imp (pw_or ha hb) fun σ H Q ⟨env, A, hA, hE, h⟩ => by
    refine ⟨env, A, hA, hE, ?_⟩
    simp only [ev] at h
    dsimp only
    cases e1 : ev C G da env with
    | exc c => rw [e1] at h; exact h
    | bad => rw [e1] at h; exact h
    | ok d =>
      rw [e1, R.bind_ok] at h
      rw [R.bind_ok]
      cases e2 : d.truth with
      | exc c => exact (truth_noexc e2).elim
      | bad => rw [e2] at h; exact h
      | ok b =>
        rw [e2, R.bind_ok] at h
        intro H1 s1
        cases b with
        | true =>
          rw [if_pos rfl]
          rw [if_pos rfl, R.bind_ok, e2] at h
          exact h H1 s1
        | false => rw [if_neg Bool.false_ne_true]; rw [if_neg Bool.false_ne_true] at h; exact ⟨env, A, hA.same s1, hE.same s1, PstB.mono s1 h⟩
theorem se_one {op : BoolOp} {a : Expr} {da : DE} {pos : Pos} (h : SE X W M C G fr t a da) : SE X W M C G fr t (.BoolOp op [a] pos) da := pe_one h
theorem Pst.truth {K : PySem.W.Frag} {A A' : Addr → Prop} {σ : L2.St} {H : Hp} {Q : VK} {d : D} {v : V} {f : Bool → R D} (r : Rep K H A' v d) (h : Pst K W A σ H Q fr t (d.truth.bind f)) : ∃ b, TruV K v H b ∧ Pst K W A σ H Q fr t (f b) := by
  cases e2 : d.truth with
  | exc c => exact (truth_noexc e2).elim
  | bad => rw [e2] at h; exact h.elim
  | ok b => rw [e2] at h; exact ⟨b, tru_of r e2, h⟩
theorem se_and {a b : Expr} {rest : List Expr} {da db : DE} {pos : Pos} (ha : SE X W M C G false t a da) (hb : SE X W M C G false t (.BoolOp .And (b :: rest) pos) db) : SE X W M C G false t (.BoolOp .And (a :: b :: rest) pos) (.and da db) :=
  PE.imp (pe_andT ha hb) fun σ H Q ⟨env, A, hA, hE, h⟩ => by
    simp only [ev] at h
    refine ⟨env, A, hA, hE, h.bindE (t' := t) fun d v H1 _ s1 r1 _ h1 => ?_⟩
    obtain ⟨k, hk, h2⟩ := h1.truth r1
    refine ⟨k, hk, ?_⟩
    cases k with
    | true => rw [if_pos rfl]; rw [if_pos rfl] at h2; exact ⟨env, A, hA.same s1, hE.same s1, h2⟩
    | false => rw [if_neg Bool.false_ne_true]; rw [if_neg Bool.false_ne_true] at h2; exact h2.now r1 fun q _ => by cases q
theorem se_or {a b : Expr} {rest : List Expr} {da db : DE} {pos : Pos} (ha : SE X W M C G false t a da) (hb : SE X W M C G false t (.BoolOp .Or (b :: rest) pos) db) : SE X W M C G false t (.BoolOp .Or (a :: b :: rest) pos) (.or da db) :=
  PE.imp (pe_orT ha hb) fun σ H Q ⟨env, A, hA, hE, h⟩ => by
    simp only [ev] at h
    refine ⟨env, A, hA, hE, h.bindE (t' := t) fun d v H1 _ s1 r1 _ h1 => ?_⟩
    obtain ⟨k, hk, h2⟩ := h1.truth r1
    refine ⟨k, hk, ?_⟩
    cases k with
    | true => rw [if_pos rfl]; rw [if_pos rfl] at h2; exact h2.now r1 fun q _ => by cases q
    | false => rw [if_neg Bool.false_ne_true]; rw [if_neg Bool.false_ne_true] at h2; exact ⟨env, A, hA.same s1, hE.same s1, h2⟩
theorem se_not {a : Expr} {da : DE} {pos : Pos} (ha : SE X W M C G false true a da) : SE X W M C G fr t (.UnaryOp .Not a pos) (.not da) :=
  PE.imp (pe_notT ha) fun σ H Q ⟨env, A, hA, hE, h⟩ => by
    simp only [ev] at h
    refine ⟨env, A, hA, hE, h.bindE (t' := true) fun d v H1 _ s1 r1 _ h1 => ?_⟩
    obtain ⟨k, hk, h2⟩ := h1.truth r1
    exact ⟨k, hk, h2.bl⟩
theorem se_neg {a : Expr} {da : DE} {pos : Pos} (ha : SE X W M C G false true a da) : SE X W M C G fr t (.UnaryOp .USub a pos) (.neg da) :=
  PE.imp (pe_un un_neg ha) fun σ H Q ⟨env, A, hA, hE, h⟩ => by
    simp only [ev] at h
    refine ⟨env, A, hA, hE, h.bindE (t' := true) fun d v H1 _ s1 r1 _ h1 => ?_⟩
    cases r1 with
    | int i => exact ⟨i, rfl, h1.int⟩
    | _ => exact h1.elim
theorem se_ite {c a b : Expr} {dc da db : DE} {pos : Pos} (hc : ST X W M C G c dc) (ha : SE X W M C G false t a da) (hb : SE X W M C G false t b db) : SE X W M C G false t (.IfExp c a b pos) (.ite dc da db) :=
  PE.imp (pe_ifExp hc ha hb) fun σ H Q ⟨env, A, hA, hE, h⟩ => by
    simp only [ev] at h
    refine ⟨env, A, hA, hE, ?_⟩
    dsimp only
    cases e1 : ev C G dc env with
    | exc c => rw [e1] at h; exact h
    | bad => rw [e1] at h; exact h
    | ok d =>
      rw [e1, R.bind_ok] at h
      rw [R.bind_ok]
      cases e2 : d.truth with
      | exc c => exact (truth_noexc e2).elim
      | bad => rw [e2] at h; exact h
      | ok b =>
        rw [e2, R.bind_ok] at h
        intro H1 s1
        cases b with
        | true => rw [if_pos rfl]; rw [if_pos rfl] at h; exact ⟨env, A, hA.same s1, hE.same s1, Pst.mono s1 h⟩
        | false => rw [if_neg Bool.false_ne_true]; rw [if_neg Bool.false_ne_true] at h; exact ⟨env, A, hA.same s1, hE.same s1, Pst.mono s1 h⟩
theorem se_chn {o o' : Cm} {oc oc' : CmpOp} {a b c : Expr} {da db dc : DE} {pos : Pos} (ho : OpR X (compareOp oc) (D2B X.K (D.cmD o))) (ho' : OpR X (compareOp oc') (D2B X.K (D.cmD o'))) (ha : SE X W M C G false true a da) (hb : SE X W M C G false true b db) (hc : SE X W M C G false true c dc)
    (hm : lastMarks [oc, oc'] [b, c] = false) : SE X W M C G fr t (.Compare a [oc, oc'] [b, c] pos) (.chn o o' da db dc) :=
  PE.imp (pe_chain ho ho' ha hb hc hm) fun σ H Q ⟨env, A, hA, hE, h⟩ => by
    simp only [ev] at h
    exact ⟨env, A, hA, hE, h.bindE (t' := true) fun d v H1 _ s1 r1 _ h1 => ⟨env, A, hA.same s1, hE.same s1, h1.bindE (t' := true) fun e u H2 _ s2 r2 _ h2 => ⟨W, _, _, σ, d, e, r1.same s2, r2, h2.bindB fun k H3 _ s3 h3 => ⟨k, rfl, by
      cases k with
      | false => rw [if_neg Bool.false_ne_true]; rw [if_neg Bool.false_ne_true] at h3; exact h3.bl
      | true =>
        rw [if_pos rfl]
        rw [if_pos rfl] at h3
        exact ⟨env, A, ((hA.same s1).same s2).same s3, ((hE.same s1).same s2).same s3, h3.bindE (t' := true) fun f w H4 _ s4 r4 _ h4 => ⟨W, _, _, σ, e, f, (r2.same s3).same s4, r4, h4.toB⟩⟩⟩⟩⟩⟩

/-! ### subscripts -/
def D2I (K : PySem.W.Frag) : R2 := fun x y H Q => ∃ (W : WC) (A B : Addr → Prop) (σ : L2.St) (t : Bool) (d e : D), Rep K H (RA t A) x d ∧ Rep K H B y e ∧ Pst K W A σ H Q false t (D.ixD d e)
theorem ixN_len {n m : Nat} {i : Int} (h : n = m) : ixN n i = ixN m i := by rw [h]
theorem RepL.atI {K : PySem.W.Frag} {H : Hp} {A : Addr → Prop} {v : List V} {d : List D} {i : Int} {x : D} (r : RepL K H A v d) (h : atI d i = some x) : ∃ y, atI v i = some y ∧ Rep K H A y x := by
  unfold L2.atI at h ⊢
  rw [r.length]
  cases e : ixN d.length i with
  | none => rw [e] at h; cases h
  | some j => rw [e] at h; exact r.get h
theorem argSq {K : PySem.W.Frag} {H : Hp} {a : Addr} {ns : List Int} {o : Obj} (h : H a = some (.frz o (.lst (ns.map V.int))) ∨ ∃ (o : Obj) (its : Array Value) (n : Nat), K.lookup a = some o ∧ o.cls = .type "list" ∧ o.dict = none ∧ o.data = .seq its n ∧ its.size ≤ sizeLine ∧ Vals (ns.map V.int) its.toList) : SqL K H a (ns.map V.int) := by
  rcases h with h | h
  · exact .inl (.inr ⟨o, h⟩)
  · exact .inr h
theorem dct_type {pins : List (Addr × Obj)} {σ : L2.St} {H : Hp} {s : Shared} {A : Addr → Prop} {v : V} {u : Value} {kvs : List (D × D)} (I : L2.Inv X pins σ H s) (r : Rep X.K H A v (.dct kvs)) (rv : RelV v u) : s.TypeIs u "dict" := by
  cases r with
  | @dk a kv ds hd ha r1 z =>
    cases rv
    obtain ⟨_, _, vs, _, dd⟩ := dk_rd I.hok hd
    exact dd.typeIs
  | @dt a kv ds hd ha r1 z0 z =>
    cases rv
    obtain ⟨_, _, xs, _, dd⟩ := dt_rd I.hok hd
    exact dd.typeIs
theorem ix_D (hu : X.A.units + 200 < cLine) : IxR X (D2I X.K) := by
  intro value slice pins s σ H x y v u Q I rx ry ⟨W, A, B, σ', t, d, e, r1, r2, h⟩ hs
  cases d with
  | tup ds =>
    cases r2 with
    | int i =>
      simp only [D.ixD] at h
      split at h
      · rename_i z hz
        cases r1 with
        | @tup a xs ds h1 r3 z1 =>
          obtain ⟨w, hw, rw'⟩ := r3.atI hz
          exact ix_tup value slice pins s σ H _ _ v u Q I rx ry ⟨a, xs, i, w, rfl, rfl, h1, hw, h.now rw' fun q _ => by cases q⟩ hs
      · exact h.elim
    | _ => exact h.elim
  | lst ds =>
    cases r2 with
    | int i =>
      simp only [D.ixD] at h
      split at h
      · rename_i z hz
        cases r1 with
        | @lst a xs ds h1 a1 r3 z1 =>
          obtain ⟨w, hw, rw'⟩ := r3.atI hz
          exact ix_list value slice pins s σ H _ _ v u Q I rx ry ⟨a, xs, i, w, rfl, rfl, .of h1, hw, h.now rw' fun q _ => by cases q⟩ hs
      · exact h.elim
    | _ => exact h.elim
  | arg ns =>
    cases r2 with
    | int i =>
      simp only [D.ixD] at h
      split at h
      · rename_i z hz
        cases r1 with
        | @arg a ns o h1 =>
          refine ix_list value slice pins s σ H _ _ v u Q I rx ry ⟨a, ns.map V.int, i, .int z, rfl, rfl, argSq h1, ?_, h.int⟩ hs
          unfold L2.atI at hz ⊢
          rw [List.length_map]
          cases e : ixN ns.length i with
          | none => rw [e] at hz; cases hz
          | some j =>
            rw [e] at hz
            have hz' : ns[j]? = some z := hz
            show (ns.map V.int)[j]? = some (.int z)
            rw [List.getElem?_map, hz']
            rfl
      · exact h.elim
    | _ => exact h.elim
  | str z =>
    cases r2 with
    | int i =>
      simp only [D.ixD] at h
      split at h
      · rename_i c hz
        cases r1 with
        | str z h1 h2 =>
          refine ix_str value slice pins s σ H _ _ v u Q I rx ry ⟨z, i, c, rfl, rfl, by rw [sz_eq]; exact h2, hz, h.str ?_ (show 1 ≤ SZ by decide)⟩ hs
          have hm : c ∈ z.cps.toList := by
            unfold L2.atI at hz
            cases e : ixN z.cps.toList.length i with
            | none => rw [e] at hz; cases hz
            | some j => rw [e] at hz; exact List.mem_of_getElem? hz
          have := (Array.all_eq_true_iff_forall_mem.mp (show z.cps.all (· < 0x110000) = true from h1)) c (Array.mem_toList_iff.mp hm)
          show (#[c] : Array Nat).all (· < 0x110000) = true
          simpa using this
      · exact h.elim
    | _ => exact h.elim
  | dct kvs =>
    have hx : ∃ t0, D.keyTy e = some t0 ∧ D.keysTy t0 kvs = true ∧ ∃ d0, D.find kvs e = some d0 ∧ Pst X.K W A σ' H Q false t (.ok d0) := by
      simp only [D.ixD] at h
      split at h
      · rename_i t0 ht
        split at h
        · rename_i hk
          split at h
          · rename_i d0 hd
            simp only [Bool.and_eq_true] at hk
            exact ⟨t0, ht, hk.1, d0, hd, h⟩
          · exact h.elim
        · exact h.elim
      · exact h.elim
    obtain ⟨t0, ht, hk, d0, hd, h⟩ := hx
    exact tail_any (dct_type I r1 rx) slot_dict_getitem.lookup (d_get2' (by omega) I r1 rx r2 ry ht hk hd fun w' x' s' I' rw' rr => ⟨x', H, I', rw', h.now rr fun q _ => by cases q⟩) hs
  | _ => exact h.elim
theorem se_ix {a b : Expr} {da db : DE} {pos : Pos} (hu : X.A.units + 200 < cLine) (ha : SE X W M C G false t a da) (hb : SE X W M C G false true b db) (hs : PlainIx b) : SE X W M C G false t (.Subscript a b pos) (.ix da db) :=
  PE.imp (pe_ix (ix_D hu) ha hb hs) fun σ H Q ⟨env, A, hA, hE, h⟩ => by
    simp only [ev] at h
    exact ⟨env, A, hA, hE, h.bindE (t' := t) fun d v H1 _ s1 r1 _ h1 => ⟨env, A, hA.same s1, hE.same s1, h1.bindE (t' := true) fun e u H2 _ s2 r2 _ h2 => ⟨W, A, _, σ, t, d, e, r1.same s2, r2, h2⟩⟩⟩
/-- a table of the module -/
theorem ix_kd {a : Addr} {es : Array DictEntry} {n : Nat} (hD : KDict X.K X.w a es n) : IxR X (fun x y H Q => ∃ (z : Str) (u0 : Value) (v0 : V), x = .ref a ∧ y = .str z ∧ PySem.W.nsIn X.K a z = some (some u0) ∧ RelV v0 u0 ∧ Q v0 H) := by
  intro value slice pins s σ H x y v u Q I rx ry h hs
  have hv : v = Value.ref a := by
    obtain ⟨z, u0, v0, rfl, _⟩ := h
    exact rx
  subst hv
  exact tail_any (kd_type hD I) slot_dict_getitem.lookup (op_item_kd hD pins s σ H x y _ u Q I rx ry h) hs
theorem se_gix {gn : List Str} {i : Nat} {x : Str} {pos p2 : Pos} {b : Expr} {db : DE} (hG : GOk X.K X.w X.mg G gn) (hx : gn[i]? = some x) (hg : Gl X x) (hd : (x == ("__debug__" : Str)) = false) (hb : SE X W M C G false true b db) (hs : PlainIx b) : SE X W M C G false t (.Subscript (.Name x pos) b p2) (.gix i db) := by
  cases e : G[i]? with
  | none => exact ⟨fun pins s σ H Q I ⟨env, A, hA, hE, h⟩ => by simp only [ev, e] at h; exact h.elim⟩
  | some d =>
    have hq := hG i d x e hx
    cases d with
    | dct kvs =>
      obtain ⟨a, es, n, q, hD, hk⟩ := hq
      refine PE.imp (pe_ix (ix_kd hD) (pe_glob (v := .ref a) hg q rfl hd) hb hs) fun σ H Q ⟨env, A, hA, hE, h⟩ => ?_
      simp only [ev, e] at h
      refine ⟨env, A, hA, hE, h.bindE (t' := true) fun y w H1 _ s1 r1 _ h1 => ?_⟩
      cases r1 with
      | str z _ _ =>
        have hz := hk z
        dsimp only at h1
        cases e2 : D.find kvs (.str z) with
        | none => rw [e2] at h1; exact h1.elim
        | some d =>
          rw [e2] at h1 hz
          obtain ⟨u, v, h2, h3, h4⟩ := hz
          exact ⟨z, u, v, rfl, rfl, h2, h3, h1.now (h4 _ _) fun q _ => by cases q⟩
      | _ => exact h1.elim
    | _ => exact ⟨fun pins s σ H Q I ⟨env, A, hA, hE, h⟩ => by simp only [ev, e] at h; exact h.elim⟩
theorem se_gin {gn : List Str} {i : Nat} {x : Str} {pos p2 : Pos} {b : Expr} {db : DE} (hG : GOk X.K X.w X.mg G gn) (hx : gn[i]? = some x) (hg : Gl X x) (hd : (x == ("__debug__" : Str)) = false) (hb : SE X W M C G false true b db) : SE X W M C G fr t (.Compare b [.In] [.Name x pos] p2) (.gin i db) := by
  cases e : G[i]? with
  | none => exact ⟨fun pins s σ H Q I ⟨env, A, hA, hE, h⟩ => by simp only [ev, e] at h; exact h.elim⟩
  | some d =>
    have hq := hG i d x e hx
    cases d with
    | dct kvs =>
      obtain ⟨a, es, n, q, hD, hk⟩ := hq
      refine PE.imp (pe_cmpR (op_in_kd hD) hb (pe_glob (v := .ref a) hg q rfl hd) rfl) fun σ H Q ⟨env, A, hA, hE, h⟩ => ?_
      simp only [ev, e] at h
      refine ⟨env, A, hA, hE, h.bindE (t' := true) fun y w H1 _ s1 r1 _ h1 => ?_⟩
      cases r1 with
      | str z _ _ =>
        have hz := hk z
        dsimp only at h1
        cases e2 : D.find kvs (.str z) with
        | none =>
          rw [e2] at h1 hz
          exact ⟨z, none, rfl, rfl, hz, h1.bl⟩
        | some d =>
          rw [e2] at h1 hz
          obtain ⟨u, v, h2, h3, h4⟩ := hz
          exact ⟨z, some u, rfl, rfl, h2, h1.bl⟩
      | _ => exact h1.elim
    | _ => exact ⟨fun pins s σ H Q I ⟨env, A, hA, hE, h⟩ => by simp only [ev, e] at h; exact h.elim⟩
end
end B

set_option maxHeartbeats 1000000
/-! GenE: calls of defs and of builtins. -/
namespace B
open PySem PySem.Spec PyProof.Rows L2
section
variable {X : Cx} {W : WC} {M : List Nat} {C : Nat → List D → R D} {G : List D} {fr t : Bool}

/-! ### defs -/
/-- what a def promises: F of the data -/
def spF (K : PySem.W.Frag) (ec : Nat → Addr) (np : Nat) (F : List D → R D) : Sp := fun vs H Q E => vs.length = np ∧ ∃ (ds : List D) (A : Addr → Prop), OkA H A ∧ RepL K H A vs ds ∧ match F ds with
  | .ok d => ∀ v H', Same H H' → Rep K H' A v d → Q v H'
  | .exc c => ∀ H', Same H H' → E (.ref (ec c)) none H'
  | .bad => False
/-- the wish W as one of the layer's -/
def EW (ec : Nat → Addr) (W : WC) (σ : L2.St) : XK := fun cls d H => ∃ c, cls = .ref (ec c) ∧ d = none ∧ W c σ H
theorem se_call {ec : Nat → Addr} {k i : Nat} {nm : Str} {f : Addr} {fd : FuncData} {ps : List Str} {e : Expr} {es : List Expr} {des : DEs} {p pos : Pos}
    (F : FnOk X.prog X.w X.K X.mg X.base (L2.CX X.prog X.w) k f fd ps (spF X.K ec ps.length (C i))) (hr : Room k X.A) (hg : Gl X nm) (hm : X.mg nm = some (.ref f)) (hk : PySem.W.keepIn X.K (.ref f) = true) (hb : Binds X.K fd ps [])
    (hx : ∀ σ, PassesAt (L2.CX X.prog X.w) X σ (EW ec W σ)) (ha : SEs X W M C G t (e :: es) des) (hn : des.len = ps.length) (hdb : (nm == ("__debug__" : Str)) = false) (he : starEach (e :: es) X.env = (false, eval e X.env) :: starEach es X.env) (hpl : (backTo pos (starEach es X.env)).any (·.1) = false) :
    SE X W M C G false t (.Call (.Name nm p) (e :: es) [] pos) (.call i des) :=
  PE.imp (pe_callS F hr hg hm hk hb hx ha hdb he hpl) fun σ H Q ⟨env, A, hA, hE, h⟩ => by
    simp only [ev] at h
    refine ⟨env, A, hA, hE, h.bindL (t' := t) fun ds vs H1 e1 s1 r1 h1 => ?_⟩
    refine ⟨by rw [r1.length, evs_len e1, hn], ds, RA t A, fun p n => .inr ((hA.same s1) p n), r1, ?_⟩
    cases e2 : C i ds with
    | ok d => rw [e2] at h1; exact fun v H' s r => h1 v H' s r fun q _ => by cases q
    | exc c => rw [e2] at h1; exact fun H' s => ⟨c, rfl, rfl, h1 H' s⟩
    | bad => rw [e2] at h1; exact h1

/-! ### builtins by values -/
def D1 (K : PySem.W.Frag) (f : List D → R D) (fr : Bool) : List V → Hp → VK → Prop := fun xs H Q => ∃ (W : WC) (A : Addr → Prop) (σ : L2.St) (t : Bool) (ds : List D), OkA H A ∧ RepL K H (RA t A) xs ds ∧ Pst K W A σ H Q fr t (f ds)
theorem CallR.imp {f : Value} {r r' : List V → Hp → VK → Prop} (h : CallR X f r) (i : ∀ xs H Q, r' xs H Q → r xs H Q) : CallR X f r' := fun pins s σ H xs us Q I rx q => h pins s σ H xs us Q I rx (i xs H Q q)
theorem se_biB {b : Bi} {id : String} {nm : Str} {e : Expr} {es : List Expr} {des : DEs} {p pos : Pos} (hc : CallR X (.builtin id) (D1 X.K (D.biD b) fr)) (hg : Gl X nm) (hm : X.mg nm = none) (hv : bootBuiltins nm = some (.builtin id)) (ha : SEs X W M C G t (e :: es) des) (hn : nm ≠ "__name__") (hdb : (nm == ("__debug__" : Str)) = false)
    (he : starEach (e :: es) X.env = (false, eval e X.env) :: starEach es X.env) (hpl : (backTo pos (starEach es X.env)).any (·.1) = false) : SE X W M C G fr t (.Call (.Name nm p) (e :: es) [] pos) (.bi b des) :=
  PE.imp (pe_callB hc hg hm hv ha hn hdb he hpl) fun σ H Q ⟨env, A, hA, hE, h⟩ => by
    simp only [ev] at h
    exact ⟨env, A, hA, hE, h.bindL (t' := t) fun ds vs H1 e1 s1 r1 h1 => ⟨W, A, σ, t, ds, hA.same s1, r1, h1⟩⟩
theorem se_biT {b : Bi} {id : String} {nm : Str} {e : Expr} {es : List Expr} {des : DEs} {p pos : Pos} (hc : CallR X (.type id) (D1 X.K (D.biD b) fr)) (hg : Gl X nm) (hm : X.mg nm = none) (hv : bootBuiltins nm = some (.type id)) (ha : SEs X W M C G t (e :: es) des) (hn : nm ≠ "__name__") (hdb : (nm == ("__debug__" : Str)) = false)
    (he : starEach (e :: es) X.env = (false, eval e X.env) :: starEach es X.env) (hpl : (backTo pos (starEach es X.env)).any (·.1) = false) : SE X W M C G fr t (.Call (.Name nm p) (e :: es) [] pos) (.bi b des) :=
  PE.imp (pe_callTy hc hg hm hv ha hn hdb he hpl) fun σ H Q ⟨env, A, hA, hE, h⟩ => by
    simp only [ev] at h
    exact ⟨env, A, hA, hE, h.bindL (t' := t) fun ds vs H1 e1 s1 r1 h1 => ⟨W, A, σ, t, ds, hA.same s1, r1, h1⟩⟩
theorem CallR.or {f : Value} {r r' : List V → Hp → VK → Prop} (h : CallR X f r) (h' : CallR X f r') : CallR X f (fun xs H Q => r xs H Q ∨ r' xs H Q) := fun pins s σ H xs us Q I rx q => q.elim (h pins s σ H xs us Q I rx) (h' pins s σ H xs us Q I rx)
/-- .. of one argument -/
def D1' (K : PySem.W.Frag) (f : D → R D) (fr : Bool) : List V → Hp → VK → Prop := fun xs H Q => ∃ (x : V) (W : WC) (A : Addr → Prop) (σ : L2.St) (t : Bool) (d : D), xs = [x] ∧ OkA H A ∧ Rep K H (RA t A) x d ∧ Pst K W A σ H Q fr t (f d)
theorem RepL.one {K : PySem.W.Frag} {H : Hp} {A : Addr → Prop} {xs : List V} {d : D} (r : RepL K H A xs [d]) : ∃ x, xs = [x] ∧ Rep K H A x d := by
  cases r with
  | cons r rs => cases rs; exact ⟨_, rfl, r⟩
theorem RepL.two {K : PySem.W.Frag} {H : Hp} {A : Addr → Prop} {xs : List V} {d e : D} (r : RepL K H A xs [d, e]) : ∃ x y, xs = [x, y] ∧ Rep K H A x d ∧ Rep K H A y e := by
  cases r with
  | cons r rs =>
    obtain ⟨y, rfl, q⟩ := rs.one
    exact ⟨_, y, rfl, r, q⟩
theorem cr1 {b : Bi} {f : Value} (h : CallR X f (D1' X.K (D.bi1 b) fr)) : CallR X f (D1 X.K (D.biD b) fr) := by
  refine CallR.imp h fun xs H Q ⟨W, A, σ', t, ds, hA, r, h⟩ => ?_
  match ds, r, h with
  | [d], r, h =>
    obtain ⟨x, rfl, rr⟩ := r.one
    exact ⟨x, W, A, σ', t, d, rfl, hA, rr, h⟩
  | [], _, h => exact h.elim
  | _ :: _ :: _, _, h => exact h.elim
theorem repK_len {K : PySem.W.Frag} {H : Hp} {A : Addr → Prop} : ∀ {kvs : List (Key × V)} {ds : List (D × D)}, RepK K H A kvs ds → kvs.length = ds.length
  | _, _, .nil => rfl
  | _, _, .int _ r => by simp [repK_len r]
  | _, _, .str _ _ _ r => by simp [repK_len r]
theorem cr_len : CallR X (.builtin "len") (D1 X.K (D.biD .len) fr) := by
  refine cr1 ?_
  intro pins s σ H xs us Q I rx ⟨x, W, A, σ', t, d, ex, hA, r, h⟩
  subst ex
  cases r with
  | str z h1 h2 => exact call_len_str pins s σ H _ us Q I rx ⟨z, rfl, by rw [sz_eq]; exact h2, h.int⟩
  | @tup a ys ds h1 r1 z1 => exact call_len_seq pins s σ H _ us Q I rx ⟨a, ys, rfl, .inr h1, by rw [r1.length]; exact h.int⟩
  | @lst a ys ds h1 a1 r1 z1 => exact call_len_seq pins s σ H _ us Q I rx ⟨a, ys, rfl, .inl (.of h1), by rw [r1.length]; exact h.int⟩
  | @arg a ns o h1 => exact call_len_seq pins s σ H _ us Q I rx ⟨a, ns.map V.int, rfl, .inl (argSq h1), by rw [List.length_map]; exact h.int⟩
  | @dk a kvs ds h1 a1 r1 z1 =>
    obtain ⟨u, rfl, ru⟩ := vals1 rx
    cases ru
    refine d_len I h1 fun tk s' I' => ⟨.int kvs.length, H, I', ⟨tk, rfl⟩, ?_⟩
    rw [repK_len r1]
    simp only [D.bi1, repK_keys r1, if_true] at h
    exact h.int
  | @dt a kvs ds h1 a1 r1 z0 z1 =>
    exfalso
    cases r1 with
    | nil => exact z0 rfl
    | cons rk2 hk2 _ _ _ => simp [D.bi1, D.keysTy, D.keyTy, hk2] at h; exact h
  | _ => exact h.elim
theorem cr_tup : CallR X (.type "tuple") (D1 X.K (D.biD .tup) fr) := by
  refine cr1 (CallR.imp call_tuple_of fun xs H Q ⟨x, W, A, σ', t, d, ex, hA, r, h⟩ => ?_)
  subst ex
  cases r with
  | @tup a ys ds h1 r1 z1 => exact ⟨a, ys, rfl, .inr ⟨h1, h.tup h1 r1 z1⟩⟩
  | @lst a ys ds h1 a1 r1 z1 => exact ⟨a, ys, rfl, .inl ⟨.of h1, fun l n => h.newT n r1 z1⟩⟩
  | _ => exact h.elim
theorem cr_lst : CallR X (.type "list") (D1 X.K (D.biD .lst) fr) := by
  refine cr1 (CallR.imp call_list_of fun xs H Q ⟨x, W, A, σ', t, d, ex, hA, r, h⟩ => ?_)
  subst ex
  cases r with
  | @tup a ys ds h1 r1 z1 => exact ⟨a, ys, rfl, .inr h1, fun l n => h.newL hA n r1 z1⟩
  | @lst a ys ds h1 a1 r1 z1 => exact ⟨a, ys, rfl, .inl (.of h1), fun l n => h.newL hA n r1 z1⟩
  | _ => exact h.elim
theorem maxL_mem : ∀ (ns : List Int) (m : Int), D.maxL m ns ∈ m :: ns
  | [], m => by simp [D.maxL]
  | x :: r, m => by
    have q := maxL_mem r (if x > m then x else m)
    simp only [D.maxL]
    by_cases e : x > m
    · rw [if_pos e] at q ⊢
      exact List.mem_cons_of_mem _ q
    · rw [if_neg e] at q ⊢
      rcases List.mem_cons.mp q with q | q
      · rw [q]; exact List.mem_cons_self ..
      · exact List.mem_cons_of_mem _ (List.mem_cons_of_mem _ q)
theorem maxL_le : ∀ (ns : List Int) (m y : Int), y ∈ m :: ns → y ≤ D.maxL m ns
  | [], m, y, h => by simp at h; simp [D.maxL, h]
  | x :: r, m, y, h => by
    simp only [D.maxL]
    have h0 := maxL_le r (if x > m then x else m) (if x > m then x else m) (List.mem_cons_self ..)
    rcases List.mem_cons.mp h with e | h
    · subst e; split at h0 <;> split <;> omega
    · rcases List.mem_cons.mp h with e | h
      · subst e; split at h0 <;> split <;> omega
      · exact maxL_le r _ y (List.mem_cons_of_mem _ h)
theorem minL_mem : ∀ (ns : List Int) (m : Int), D.minL m ns ∈ m :: ns
  | [], m => by simp [D.minL]
  | x :: r, m => by
    have q := minL_mem r (if x < m then x else m)
    simp only [D.minL]
    by_cases e : x < m
    · rw [if_pos e] at q ⊢
      exact List.mem_cons_of_mem _ q
    · rw [if_neg e] at q ⊢
      rcases List.mem_cons.mp q with q | q
      · rw [q]; exact List.mem_cons_self ..
      · exact List.mem_cons_of_mem _ (List.mem_cons_of_mem _ q)
theorem minL_le : ∀ (ns : List Int) (m y : Int), y ∈ m :: ns → D.minL m ns ≤ y
  | [], m, y, h => by simp at h; simp [D.minL, h]
  | x :: r, m, y, h => by
    simp only [D.minL]
    have h0 := minL_le r (if x < m then x else m) (if x < m then x else m) (List.mem_cons_self ..)
    rcases List.mem_cons.mp h with e | h
    · subst e; split at h0 <;> split <;> omega
    · rcases List.mem_cons.mp h with e | h
      · subst e; split at h0 <;> split <;> omega
      · exact minL_le r _ y (List.mem_cons_of_mem _ h)
theorem cr_maxD (hc : X.calm = true) : CallR X (.builtin "max") (D1 X.K (D.biD .max) fr) := by
  refine cr1 (CallR.imp (cr_max hc) fun xs H Q ⟨x, W, A, σ', t, d, ex, hA, r, h⟩ => ?_)
  subst ex
  cases r with
  | @lst a ys ds h1 a1 r1 z1 =>
    simp only [D.bi1] at h
    split at h
    · rename_i m ns e
      have hy := r1.ints e
      subst hy
      refine ⟨a, m :: ns, rfl, .of h1, by simp, fun k hk hall => ?_⟩
      have e2 : k = D.maxL m ns := Int.le_antisymm (maxL_le ns m k hk) (hall _ (maxL_mem ns m))
      rw [e2]
      exact h.int
    · exact h.elim
  | _ => exact h.elim
theorem cr_minD (hc : X.calm = true) : CallR X (.builtin "min") (D1 X.K (D.biD .min) fr) := by
  refine cr1 (CallR.imp (cr_min hc) fun xs H Q ⟨x, W, A, σ', t, d, ex, hA, r, h⟩ => ?_)
  subst ex
  cases r with
  | @lst a ys ds h1 a1 r1 z1 =>
    simp only [D.bi1] at h
    split at h
    · rename_i m ns e
      have hy := r1.ints e
      subst hy
      refine ⟨a, m :: ns, rfl, .of h1, by simp, fun k hk hall => ?_⟩
      have e2 : k = D.minL m ns := Int.le_antisymm (hall _ (minL_mem ns m)) (minL_le ns m k hk)
      rw [e2]
      exact h.int
    · exact h.elim
  | _ => exact h.elim
theorem cr_sumD (hc : X.calm = true) : CallR X (.builtin "sum") (D1 X.K (D.biD .sum) fr) := by
  refine cr1 (CallR.imp (cr_sum hc) fun xs H Q ⟨x, W, A, σ', t, d, ex, hA, r, h⟩ => ?_)
  subst ex
  cases r with
  | @lst a ys ds h1 a1 r1 z1 =>
    simp only [D.bi1] at h
    split at h
    · rename_i ns e
      have hy := r1.ints e
      subst hy
      exact ⟨a, ns, rfl, .of h1, h.int⟩
    · exact h.elim
  | _ => exact h.elim
theorem cr_allD (hc : X.calm = true) : CallR X (.builtin "all") (D1 X.K (D.biD .all) fr) := by
  refine cr1 (CallR.imp (cr_all hc) fun xs H Q ⟨x, W, A, σ', t, d, ex, hA, r, h⟩ => ?_)
  subst ex
  cases r with
  | @lst a ys ds h1 a1 r1 z1 =>
    simp only [D.bi1] at h
    split at h
    · rename_i ns e
      have hy := boolsD_eq e r1
      subst hy
      exact ⟨a, ns, rfl, .of h1, h.bl⟩
    · exact h.elim
  | _ => exact h.elim
theorem cr_anyD (hc : X.calm = true) : CallR X (.builtin "any") (D1 X.K (D.biD .any) fr) := by
  refine cr1 (CallR.imp (cr_any hc) fun xs H Q ⟨x, W, A, σ', t, d, ex, hA, r, h⟩ => ?_)
  subst ex
  cases r with
  | @lst a ys ds h1 a1 r1 z1 =>
    simp only [D.bi1] at h
    split at h
    · rename_i ns e
      have hy := boolsD_eq e r1
      subst hy
      exact ⟨a, ns, rfl, .of h1, h.bl⟩
    · exact h.elim
  | _ => exact h.elim
theorem cr_intD : CallR X (.type "int") (D1 X.K (D.biD .int) fr) := by
  refine cr1 (CallR.imp call_int1 fun xs H Q ⟨x, W, A, σ', t, d, ex, hA, r, h⟩ => ?_)
  subst ex
  cases r with
  | int i => exact .inl ⟨i, rfl, h.int⟩
  | bl b => exact .inr ⟨b, rfl, h.int⟩
  | _ => exact h.elim
end
end B

set_option maxHeartbeats 1000000
/-! GenF: isinstance, get, index, slices, displays of dicts. -/
namespace B
open PySem PySem.Spec PyProof.Rows L2
/-! ### isinstance -/
def tyS : Ty → String
  | .int => "int" | .bool => "bool" | .str => "str" | .tuple => "tuple" | .cls _ => "?"
def D.tyN : D → Option String
  | .non => some "NoneType" | .bl _ => some "bool" | .int _ => some "int" | .str _ => some "str" | .tup _ => some "tuple" | .lst _ => some "list"
  | _ => none
theorem rep_tyx {K : PySem.W.Frag} {H : Hp} {A : Addr → Prop} {v : V} {d : D} {n : String} (r : Rep K H A v d) (h : d.tyN = some n) : TyX K H v (.type n) := by
  cases r with
  | non => cases h; exact .base .non
  | bl b => cases h; exact .base (.bl b)
  | int i => cases h; exact .base (.int i)
  | str x _ _ => cases h; exact .base (.str x)
  | @tup a xs ds h1 _ _ =>
    cases h
    rcases h1 with (h1 | ⟨o, h1⟩) | ⟨o, _, _, h1, h2, _⟩
    · exact .base (.tup h1)
    · exact .fTuple h1
    · exact .kTuple h1 h2
  | @lst a xs ds h1 _ _ _ => cases h; exact .base (.lst h1)
  | _ => cases h
theorem isTy_kit {K : PySem.W.Frag} {t : Ty} {d : D} {b : Bool} (h : D.isTy t d = some b) : ∃ n, d.tyN = some n ∧ PySem.W.kitOne K (.type n) (.type (tyS t)) = some b := by
  cases d with
  | exc _ => cases h
  | dct _ => cases h
  | arg _ => cases h
  | non => cases t <;> first | (cases h; done) | (cases h; exact ⟨_, rfl, kit_ty (by decide +kernel)⟩)
  | bl _ => cases t <;> first | (cases h; done) | (cases h; exact ⟨_, rfl, kit_ty (by decide +kernel)⟩)
  | int _ => cases t <;> first | (cases h; done) | (cases h; exact ⟨_, rfl, kit_ty (by decide +kernel)⟩)
  | str _ => cases t <;> first | (cases h; done) | (cases h; exact ⟨_, rfl, kit_ty (by decide +kernel)⟩)
  | tup _ => cases t <;> first | (cases h; done) | (cases h; exact ⟨_, rfl, kit_ty (by decide +kernel)⟩)
  | lst _ => cases t <;> first | (cases h; done) | (cases h; exact ⟨_, rfl, kit_ty (by decide +kernel)⟩)
theorem isTys_kit {K : PySem.W.Frag} {d : D} {b : Bool} {n : String} (hn : d.tyN = some n) : ∀ {ts : List Ty}, D.isTys ts d = some b → PySem.W.kitAny K (.type n) (ts.map fun t => .type (tyS t)) = some b
  | [], h => by cases h; exact kitAny_nil
  | t :: ts, h => by
    simp only [D.isTys] at h
    split at h
    · rename_i e
      obtain ⟨n', e1, e2⟩ := isTy_kit (K := K) e
      rw [hn] at e1
      cases e1
      cases h
      exact kitAny_cons e2 (fun q => by cases q) fun _ => rfl
    · rename_i e
      obtain ⟨n', e1, e2⟩ := isTy_kit (K := K) e
      rw [hn] at e1
      cases e1
      exact kitAny_cons e2 (fun _ => isTys_kit hn h) fun q => by cases q
    · cases h
theorem isTys_tyN {d : D} {b : Bool} {t : Ty} {ts : List Ty} (h : D.isTys (t :: ts) d = some b) : ∃ n, d.tyN = some n := by
  simp only [D.isTys] at h
  split at h
  · rename_i e; obtain ⟨n, e1, _⟩ := isTy_kit (K := []) e; exact ⟨n, e1⟩
  · rename_i e; obtain ⟨n, e1, _⟩ := isTy_kit (K := []) e; exact ⟨n, e1⟩
  · cases h
section
variable {X : Cx} {W : WC} {M : List Nat} {C : Nat → List D → R D} {G : List D} {fr t : Bool}
/-- names of types -/
inductive TyNs (X : Cx) : List Expr → List Ty → Prop
  | nil : TyNs X [] []
  | cons {x : Str} {p : Pos} {t : Ty} {es : List Expr} {ts : List Ty} (hg : Gl X x) (hm : X.mg x = none) (hv : bootBuiltins x = some (.type (tyS t))) (hn : x ≠ "__name__") (hd : (x == ("__debug__" : Str)) = false)
      (hs : starEach (.Name x p :: es) X.env = (false, eval (.Name x p) X.env) :: starEach es X.env) (r : TyNs X es ts) : TyNs X (.Name x p :: es) (t :: ts)
theorem TyNs.pa : ∀ {es : List Expr} {ts : List Ty}, TyNs X es ts → PA X es (fun _ H Q => Q (ts.map fun t => V.ty (tyS t)) H)
  | _, _, .nil => PA.imp pa_nil fun _ _ _ h => h
  | _, _, .cons hg hm hv hn hd hs r => PA.imp (pa_cons (pe_bltn hg hm hv (show RelV (.ty _) (.type _) from rfl) hn hd) r.pa hs) fun _ _ _ h => h
theorem clsv_all : ∀ ts : List Ty, Paired ClsV (ts.map fun t => V.ty (tyS t)) (ts.map fun t => Value.type (tyS t))
  | [] => .nil
  | t :: ts => .cons (.ty _) (clsv_all ts)
theorem bi_isi {ts : List Ty} {d : D} : D.biD (.isi ts) [d] = match D.isTys ts d with
    | some b => .ok (.bl b)
    | none => .bad := rfl
theorem se_isi1 {x : Str} {p2 p3 pos : Pos} {ty : Ty} {e : Expr} {de : DE} (hg : Gl X "isinstance") (hm : X.mg "isinstance" = none) (hv : bootBuiltins "isinstance" = some (.builtin "isinstance")) (he : SE X W M C G false true e de) (ht : TyNs X [.Name x p2] [ty])
    (h1 : starEach [e, .Name x p2] X.env = (false, eval e X.env) :: starEach [.Name x p2] X.env) (hpl : (backTo pos (starEach [.Name x p2] X.env)).any (·.1) = false) :
    SE X W M C G fr t (.Call (.Name "isinstance" p3) [e, .Name x p2] [] pos) (.bi (.isi [ty]) (.cons de .nil)) :=
  PE.imp (pe_callB call_isi hg hm hv (pa_cons he ht.pa h1) (by decide) (by decide) h1 hpl) fun σ H Q ⟨env, A, hA, hE, h⟩ => by
    simp only [ev, evs] at h
    refine ⟨env, A, hA, hE, ?_⟩
    cases e1 : ev C G de env with
    | exc c => rw [e1] at h; exact h
    | bad => rw [e1] at h; exact h
    | ok d =>
      rw [e1] at h
      simp only [R.bind_ok, bi_isi] at h
      intro v H1 s1 r1 _
      cases e2 : D.isTys [ty] d with
      | none => rw [e2] at h; exact h.elim
      | some b =>
        rw [e2] at h
        obtain ⟨n, hn⟩ := isTys_tyN e2
        have k : PySem.W.kitAny X.K (.type n) [.type (tyS ty)] = some b := isTys_kit hn e2
        have k1 : PySem.W.kitOne X.K (.type n) (.type (tyS ty)) = some b := by
          simp only [D.isTys] at e2
          split at e2
          · rename_i e; obtain ⟨n', z1, z2⟩ := isTy_kit (K := X.K) e; rw [hn] at z1; cases z1; cases e2; exact z2
          · rename_i e; obtain ⟨n', z1, z2⟩ := isTy_kit (K := X.K) e; rw [hn] at z1; cases z1; cases e2; exact z2
          · cases e2
        exact ⟨v, .ty (tyS ty), .type n, .type (tyS ty), b, rfl, .ty _, rep_tyx r1 hn, k1, (Pst.mono s1 h).bl⟩
theorem se_isiT {p2 p3 pos : Pos} {j : Nat} {tys : List Expr} {ty : Ty} {ts : List Ty} {e : Expr} {de : DE} (hg : Gl X "isinstance") (hm : X.mg "isinstance" = none) (hv : bootBuiltins "isinstance" = some (.builtin "isinstance")) (he : SE X W M C G false true e de) (ht : TyNs X tys (ty :: ts)) (hz : ts.length < 10)
    (h1 : starEach [e, .Tuple tys j p2] X.env = (false, eval e X.env) :: starEach [.Tuple tys j p2] X.env) (h2 : starEach [.Tuple tys j p2] X.env = (false, eval (.Tuple tys j p2) X.env) :: starEach [] X.env) (hpl : (backTo pos (starEach [.Tuple tys j p2] X.env)).any (·.1) = false) :
    SE X W M C G fr t (.Call (.Name "isinstance" p3) [e, .Tuple tys j p2] [] pos) (.bi (.isi (ty :: ts)) (.cons de .nil)) :=
  PE.imp (pe_callB call_isiT hg hm hv (pa_cons he (pa_cons (pe_tup ht.pa) pa_nil h2) h1) (by decide) (by decide) h1 hpl) fun σ H Q ⟨env, A, hA, hE, h⟩ => by
    simp only [ev, evs] at h
    refine ⟨env, A, hA, hE, ?_⟩
    cases e1 : ev C G de env with
    | exc c => rw [e1] at h; exact h
    | bad => rw [e1] at h; exact h
    | ok d =>
      rw [e1] at h
      simp only [R.bind_ok, bi_isi] at h
      intro v H1 s1 r1 _
      cases e2 : D.isTys (ty :: ts) d with
      | none => rw [e2] at h; exact h.elim
      | some b =>
        rw [e2] at h
        obtain ⟨n, hn⟩ := isTys_tyN e2
        refine ⟨by rw [sizeLine_eq]; simp; omega, fun p hp => ?_⟩
        have s2 : Same H1 (upd H1 p (.tup ((ty :: ts).map fun t => V.ty (tyS t)))) := same_upd hp
        exact ⟨v, p, _, .type n, _, b, rfl, upd_same, clsv_all (ty :: ts), rep_tyx (r1.same s2) hn, isTys_kit hn e2, (Pst.mono (s1.trans s2) h).bl⟩

/-! ### d.get(k, x) -/
section
variable {pins : List (Addr × Obj)} {σ : L2.St} {H : Hp} {s : Shared} {E : Value → Shared → Prop}
theorem RelRep.getD {K : PySem.W.Frag} {H : Hp} {A : Addr → Prop} {o : Option V} {d : Option D} {v : V} {d0 : D} (r : RelRep K H A o d) (r0 : Rep K H A v d0) : Rep K H A (o.getD v) (d.getD d0) := by
  cases o <;> cases d <;> first | exact r | exact r0 | exact r.elim
theorem d_getD2 {A B : Addr → Prop} {v x z : V} {d0 y : D} {u uy uz : Value} {tk : Bool} {kvs : List (D × D)} {Q : Value → Shared → Prop} {A0 : Around} (hu : A0.units + 1 < cLine) (I : L2.Inv X pins σ H s) (r : Rep X.K H A v (.dct kvs)) (rv : RelV v u) (rk : Rep X.K H B x y) (rx : RelV x uy) (rz : Rep X.K H A z d0) (ru : RelV z uz) (ht : D.keyTy y = some tk) (hk : D.keysTy tk kvs = true) (hn : (tk && kvs.isEmpty) = false)
    (h : ∀ w' x' s', L2.Inv X pins σ H s' → RelV x' w' → Rep X.K H A x' ((D.find kvs y).getD d0) → Q w' s') : wpAny (model X.prog X.w) A0 (call (.builtin "dict.get") [u, uy, uz]) Q E s := by
  cases tk with
  | false =>
    obtain ⟨k, e1, e2⟩ := rep_key rk ht
    subst e1 e2
    cases r with
    | @dk a kv ds hd ha r1 z1 =>
      cases rv
      obtain ⟨z2, hsm, vs, rel, dd⟩ := dk_rd I.hok hd
      refine call_meetsIn PySem.F.slot_dict_get dd.typeIs PySem.F.entry_dict_get (PySem.F.args_dict_get_3 _ _ _) (meets_dict_get_default (mixKind X.prog X.w) a (kV_is rx) hsm uz) ⟨_, dd.mapOf, ?_⟩
      exact h _ ((valV kv k).getD z) _ (I.tok _) ((rel.val k).getD ru) ((find_k r1 k).getD rz)
    | @dt a kv ds hd ha r1 z0 z1 =>
      exfalso
      cases r1 with
      | nil => exact z0 rfl
      | cons rk2 hk2 _ _ _ => simp [D.keysTy, D.keyTy, hk2] at hk
  | true =>
    obtain ⟨b, k, e1, e2, e3⟩ := rep_tupkey rk ht
    subst e1 e3
    cases r with
    | @dk a kv ds hd ha r1 z1 =>
      exfalso
      cases r1 with
      | nil => simp at hn
      | int _ _ => simp [D.keysTy, D.keyTy] at hk
      | str _ _ _ _ => simp [D.keysTy, D.keyTy] at hk
    | @dt a kv ds hd ha r1 z0 z1 =>
      cases rv
      cases rx
      obtain ⟨z2, hsm, xs, rel, dd⟩ := dt_rd I.hok hd
      refine call_meetsIn PySem.F.slot_dict_get dd.typeIs PySem.F.entry_dict_get (PySem.F.args_dict_get_3 _ _ _) (meetsH_dict_get_default (tupleKind (mixKind X.prog X.w)) a b hsm uz) ⟨tupleKind_room_in1 hu, k, xs, key_ofT I e2, dd, ?_⟩
      exact h _ ((valV kv k).getD z) _ (I.tok _) ((rel.val k).getD ru) ((find_t r1 k).getD rz)
end
/-- the call of a method -/
theorem Pst.recv {K : PySem.W.Frag} {A : Addr → Prop} {σ : L2.St} {H : Hp} {Q : VK} {b : Bi} {d : D} {r : R D} (h : Pst K W A σ H Q fr t (if D.recv b d then r else .bad)) : D.recv b d = true ∧ Pst K W A σ H Q fr t r := by
  split at h
  · rename_i e; exact ⟨e, h⟩
  · exact h.elim
theorem recv_dct {b : Bi} {d : D} (h : D.recv b d = true) (hb : b = .get ∨ b = .copy) : ∃ kvs, d = .dct kvs := by
  rcases hb with rfl | rfl <;> cases d <;> first | exact ⟨_, rfl⟩ | cases h
theorem recv_lst {d : D} (h : D.recv .index d = true) : ∃ kvs, d = .lst kvs := by
  cases d <;> first | exact ⟨_, rfl⟩ | cases h
theorem Rep.isD {K : PySem.W.Frag} {H : Hp} {A : Addr → Prop} {v : V} {kvs : List (D × D)} (r : Rep K H A v (.dct kvs)) : ∃ a, v = .ref a ∧ IsD H a := by
  cases r with
  | @dk a kv ds hd ha r1 z1 => exact ⟨a, rfl, .inl ⟨kv, hd⟩⟩
  | @dt a kv ds hd ha r1 z0 z1 => exact ⟨a, rfl, .inr ⟨kv, hd⟩⟩
theorem se_get {o e f : Expr} {od ed fd : DE} {apos cpos : Pos} (hu : X.A.units + 200 < cLine) (ho : SE X W M C G false t o od) (he : SE X W M C G false t e ed) (hf : SE X W M C G false t f fd) (m : M2 X o "get" apos e f cpos) :
    SE X W M C G false t (.Call (.Attribute o "get" apos) [e, f] [] cpos) (.mt .get od (.cons ed (.cons fd .nil))) := by
  constructor
  intro pins s σ H Q I ⟨env, A, hA, hE, h⟩
  simp only [ev, evs] at h
  refine wpAny_Call_method m.base m.few m.line PySem.F.plainAttrs_dict PySem.F.slot_dict_get PySem.F.type_dict_get ?_
  refine thn (ho.run pins s σ H (fun x H1 => ∃ kvs, Same H H1 ∧ Rep X.K H1 (RA t A) x (.dct kvs) ∧ Pst X.K W A σ H1 Q false t (((ev C G ed env).bind fun d2 => ((ev C G fd env).bind fun d3 => (R.ok [] : R (List D)).bind fun l => .ok (d3 :: l)).bind fun l => .ok (d2 :: l)).bind fun ds => D.mtD .get (.dct kvs) ds)) I ⟨env, A, hA, hE, h.bindE (t' := t) fun d v H1 _ s1 r1 _ h1 => ?_⟩) ?_
  · obtain ⟨e1, h2⟩ := h1.recv
    obtain ⟨kvs, rfl⟩ := recv_dct e1 (.inl rfl)
    exact ⟨kvs, s1, r1, h2⟩
  · intro u s1 ⟨x, H1, I1, rx, kvs, s1', r1, q1⟩
    obtain ⟨a, rfl, d⟩ := r1.isD
    have ea : u = Value.ref a := rx
    subst ea
    obtain ⟨t1, t2, _⟩ := isD_at I1 d
    refine ⟨t1, t2, ?_⟩
    rw [m.trees]
    cases e2 : ev C G ed env with
    | bad => rw [e2] at q1; exact q1.elim
    | exc c =>
      rw [e2] at q1
      refine Calls.callWith_builtin rfl (Calls.evalArgs_plain (Calls.spliced_cons (thn (he.run pins s1 σ H1 (fun _ _ => False) I1 ⟨env, A, hA.same s1', hE.same s1', ?_⟩) fun _ _ ⟨_, _, _, _, z⟩ => z.elim)))
      rw [e2]; exact q1
    | ok d2 =>
      rw [e2] at q1
      simp only [R.bind_ok] at q1
      refine Calls.callWith_builtin rfl (Calls.evalArgs_plain (Calls.spliced_cons (thn (he.run pins s1 σ H1 (fun y H2 => Same H1 H2 ∧ Rep X.K H2 (RA t A) y d2) I1 ⟨env, A, hA.same s1', hE.same s1', ?_⟩) fun iv s2 ⟨y, H2, I2, ry, s2', r2⟩ => ?_)))
      · rw [e2]; exact fun v H' s r _ => ⟨s, r⟩
      cases e3 : ev C G fd env with
      | bad => rw [e3] at q1; exact q1.elim
      | exc c =>
        rw [e3] at q1
        refine Calls.spliced_cons (thn (hf.run pins s2 σ H2 (fun _ _ => False) I2 ⟨env, A, (hA.same s1').same s2', (hE.same s1').same s2', ?_⟩) fun _ _ ⟨_, _, _, _, z⟩ => z.elim)
        rw [e3]; exact fun H' s' => q1 H' (s2'.trans s')
      | ok d3 =>
        rw [e3] at q1
        simp only [R.bind_ok] at q1
        refine Calls.spliced_cons (thn (hf.run pins s2 σ H2 (fun y H3 => Same H2 H3 ∧ Rep X.K H3 (RA t A) y d3) I2 ⟨env, A, (hA.same s1').same s2', (hE.same s1').same s2', ?_⟩) fun fv s3 ⟨z, H3, I3, rz, s3', r3⟩ => Calls.spliced_nil ?_)
        · rw [e3]; exact fun v H' s r _ => ⟨s, r⟩
        have q2 : Pst X.K W A σ H3 Q false t (D.getM kvs d2 d3) := Pst.mono (s2'.trans s3') q1
        simp only [D.getM] at q2
        split at q2
        · rename_i t0 ht
          split at q2
          · rename_i hk
            simp only [Bool.and_eq_true, Bool.not_eq_true'] at hk
            exact d_getD2 (by omega) I3 ((r1.same s2').same s3') (show RelV (.ref a) (.ref a) from rfl) (r2.same s3') ry r3 rz ht hk.1 hk.2 fun w' x' s' I' rw' rr => ⟨x', H3, I', rw', q2.now rr fun q _ => by cases q⟩
          · exact q2.elim
        · exact q2.elim

/-! ### xs.index(x) -/
theorem indexOf_spec {x : D} (hx : x.plain = true) : ∀ {xs : List D} {j : Nat}, D.plainL xs = true → D.indexOf x xs = some j → (∃ z, (D.toPL xs)[j]? = some z ∧ PyData.eqv z x.toP = true) ∧ ∀ (m : Nat) (z' : PyData), m < j → (D.toPL xs)[m]? = some z' → PyData.eqv z' x.toP = false
  | [], j, _, h => by simp [D.indexOf] at h
  | y :: ys, j, hp, h => by
    have hp' : y.plain = true ∧ D.plainL ys = true := by simpa [D.plainL] using hp
    simp only [D.indexOf] at h
    by_cases e : D.eqv y x = true
    · rw [if_pos e] at h
      cases h
      refine ⟨⟨y.toP, by simp [D.toPL], by rw [eqv_toP hp'.1 hx]; exact e⟩, fun m z' hm => by omega⟩
    · rw [if_neg e] at h
      obtain ⟨i, h1, rfl⟩ := Option.map_eq_some_iff.mp h
      obtain ⟨⟨z, k1, k2⟩, k3⟩ := indexOf_spec hx hp'.2 h1
      refine ⟨⟨z, by simp only [D.toPL]; simpa using k1, k2⟩, fun m z' hm hz => ?_⟩
      cases m with
      | zero =>
        simp only [D.toPL, List.getElem?_cons_zero, Option.some.injEq] at hz
        rw [← hz, eqv_toP hp'.1 hx]
        simpa using e
      | succ m => exact k3 m z' (by omega) (by simpa [D.toPL] using hz)
theorem se_index {o e : Expr} {od ed : DE} {apos cpos : Pos} (hu : X.A.units + 200 < cLine) (ho : SE X W M C G false true o od) (he : SE X W M C G false true e ed) (hb : attributeBase o "index" X.env (eval o X.env) = eval o X.env)
    (hf : ((backTo cpos (starEach [e] X.env)).all (fun x => !x.1) && (backToKw cpos (keywordEach [] X.env)).all (fun x => x.1.isSome) && decide (([e] : List Expr).length + ([] : List Keyword).length + (if ([] : List Keyword).isEmpty then 0 else 1) < 30)) = true)
    (hl : (apos.endLine == cpos.line) = true) (hs : starEach [e] X.env = (false, eval e X.env) :: starEach [] X.env) (hpl : (backTo cpos (starEach [] X.env)).any (·.1) = false) :
    SE X W M C G fr t (.Call (.Attribute o "index" apos) [e] [] cpos) (.mt .index od (.cons ed .nil)) :=
  PE.imp (pe_bm PySem.F.plainAttrs_list PySem.F.slot_list_index PySem.F.type_list_index (mt_indexD (by omega)) ho (pa_cons he pa_nil hs) hb hf hl hs hpl) fun σ H Q ⟨env, A, hA, hE, h⟩ => by
    simp only [ev, evs] at h
    refine ⟨env, A, hA, hE, h.bindE (t' := true) fun d v H1 _ s1 r1 _ h1 => ?_⟩
    obtain ⟨e1, h2⟩ := h1.recv
    obtain ⟨kvs, rfl⟩ := recv_lst e1
    cases r1 with
    | @lst a xs ds ha hr r1 z1 =>
      refine ⟨.inl ⟨rfl, xs, .of ha⟩, env, A, hA.same s1, hE.same s1, ?_⟩
      cases e2 : ev C G ed env with
      | bad => rw [e2] at h2; exact h2.elim
      | exc c => rw [e2] at h2; exact h2
      | ok d2 =>
        rw [e2] at h2
        simp only [R.bind_ok] at h2
        intro y H2 s2 r2 _
        have q2 : Pst X.K W A σ H2 Q fr t (D.indexM kvs d2) := Pst.mono s2 h2
        simp only [D.indexM] at q2
        split at q2
        · rename_i hk
          simp only [Bool.and_eq_true, decide_eq_true_eq] at hk
          obtain ⟨⟨⟨k1, k2⟩, k3⟩, k4⟩ := hk
          split at q2
          · rename_i j hj
            obtain ⟨⟨z, k5, k6⟩, k7⟩ := indexOf_spec k1 k2 hj
            have rl : Rep X.K H2 (RA true A) (.ref a) (.lst kvs) := Rep.same s2 (.lst ha hr r1 z1)
            have p2 : (D.lst kvs).plain = true := by simpa [D.plain] using k2
            have dl := rl.dp p2
            have ll := rl.lay p2
            simp only [D.toP] at dl ll
            refine ⟨a, y, d2.toP, D.toPL kvs, j, z, rfl, rfl, dl, r2.dp k1, ?_, ?_, k5, k6, k7, q2.int⟩
            · unfold SeqAt.shaped
              rw [ll, Bool.true_and]
              refine decide_eq_true ?_
              show PyData.depthAll (D.toPL kvs) + 1 ≤ 64
              rw [dep_toPL k2]; omega
            · unfold SeqAt.shaped
              rw [r2.lay k1, Bool.true_and]
              refine decide_eq_true ?_
              rw [dep_toP k1]; omega
          · exact q2.elim
        · exact q2.elim
end
end B

set_option maxHeartbeats 1000000
/-! GenG: slices, displays of dicts, dict of pairs. -/
namespace B
open PySem PySem.Spec PyProof.Rows L2
section
variable {X : Cx} {W : WC} {M : List Nat} {C : Nat → List D → R D} {G : List D} {fr t : Bool}
/-! ### slices -/
def DSl (K : PySem.W.Frag) (fr : Bool) : V → Option Int → Option Int → Hp → VK → Prop := fun x lo hi H Q => ∃ (W : WC) (A : Addr → Prop) (σ : L2.St) (t : Bool) (d : D), OkA H A ∧ Rep K H (RA t A) x d ∧ Pst K W A σ H Q fr t (D.slD d lo hi)
theorem cut_len {α β : Type} {xs : List α} {ys : List β} (h : xs.length = ys.length) (lo hi : Option Int) : D.cut xs lo hi = (xs.drop (HT.sIx ys.length 0 lo)).take (HT.sIx ys.length ys.length hi - HT.sIx ys.length 0 lo) := by
  unfold D.cut
  rw [h]
theorem RepL.cut {K : PySem.W.Frag} {H : Hp} {A : Addr → Prop} {v : List V} {d : List D} (r : RepL K H A v d) (lo hi : Option Int) : RepL K H A (cutV v lo hi) (D.cut d lo hi) := by
  unfold cutV D.cut
  rw [r.length]
  exact (r.drop _).take _
theorem cut_le {α : Type} (xs : List α) (lo hi : Option Int) : (D.cut xs lo hi).length ≤ xs.length := by
  unfold D.cut
  rw [List.length_take, List.length_drop]
  omega
theorem cutS_ok {z : Str} (h : PyData.strOk z = true) (lo hi : Option Int) : PyData.strOk (cutS z lo hi) = true := by
  have hz : ∀ c ∈ z.cps.toList, decide (c < 0x110000) = true := fun c hc => (Array.all_eq_true_iff_forall_mem.mp (show z.cps.all (· < 0x110000) = true from h)) c (Array.mem_toList_iff.mp hc)
  show ((z.cps.toList.drop (HT.sIx z.length 0 lo)).take (HT.sIx z.length z.length hi - HT.sIx z.length 0 lo)).toArray.all (· < 0x110000) = true
  rw [List.all_toArray, List.all_eq_true]
  exact fun c hc => hz c (List.mem_of_mem_drop (List.mem_of_mem_take hc))
theorem cutS_le (z : Str) (lo hi : Option Int) : (cutS z lo hi).length ≤ z.length := by
  show ((z.cps.toList.drop (HT.sIx z.length 0 lo)).take (HT.sIx z.length z.length hi - HT.sIx z.length 0 lo)).toArray.size ≤ z.cps.size
  rw [List.size_toArray, List.length_take, List.length_drop, Array.length_toList]
  omega
theorem SlR.imp {r r' : V → Option Int → Option Int → Hp → VK → Prop} (h : SlR X r) (i : ∀ x lo hi H Q, r' x lo hi H Q → r x lo hi H Q) : SlR X r' := fun pins s σ H x v vl vu lo hi sl Q I rx hs pl pu q => h pins s σ H x v vl vu lo hi sl Q I rx hs pl pu (i x lo hi H Q q)
theorem sl_D : SlR X (DSl X.K fr) := by
  refine SlR.imp (SlR.or sl_list (SlR.or sl_tupA sl_str)) fun x lo hi H Q ⟨W, A, σ, t, d, hA, r, h⟩ => ?_
  cases r with
  | @lst a xs ds h1 a1 r1 z1 => exact .inl ⟨a, xs, rfl, .of h1, fun p n => h.newL hA n (r1.cut lo hi) (Nat.le_trans (cut_le ds lo hi) z1)⟩
  | @tup a xs ds h1 r1 z1 =>
    refine .inr (.inl ⟨a, xs, rfl, h1, fun hw => ?_, fun hw p n => h.newT n (r1.cut lo hi) (Nat.le_trans (cut_le ds lo hi) z1)⟩)
    have e : D.cut ds lo hi = ds := by
      have l := r1.length
      unfold D.cut
      rw [← l, hw.1, hw.2, l]
      simp
    have h' : Pst X.K W A σ H Q fr t (.ok (.tup ds)) := by rw [← e]; exact h
    exact h'.tup h1 r1 z1
  | str z h1 h2 => exact .inr (.inr ⟨z, rfl, by rw [sz_eq]; exact h2, h.str (cutS_ok h1 lo hi) (Nat.le_trans (cutS_le z lo hi) h2)⟩)
  | _ => exact h.elim
theorem se_slA {a lo : Expr} {da dl : DE} {p2 pos : Pos} (ha : SE X W M C G false t a da) (hl : SE X W M C G false true lo dl) : SE X W M C G fr t (.Subscript a (.Slice (some lo) none none p2) pos) (.slA da dl) :=
  PE.imp (pe_slice sl_D ha (po_some hl) po_none) fun σ H Q ⟨env, A, hA, hE, h⟩ => by
    simp only [ev] at h
    refine ⟨env, A, hA, hE, h.bindE (t' := t) fun d v H1 _ s1 r1 _ h1 => ⟨env, A, hA.same s1, hE.same s1, h1.bindE (t' := true) fun e u H2 _ s2 r2 _ h2 => ?_⟩⟩
    cases r2 with
    | int i => exact ⟨i, rfl, W, A, σ, t, d, (hA.same s1).same s2, r1.same s2, h2⟩
    | _ => exact h2.elim
theorem se_slB {a hi : Expr} {da dh : DE} {p2 pos : Pos} (ha : SE X W M C G false t a da) (hh : SE X W M C G false true hi dh) : SE X W M C G fr t (.Subscript a (.Slice none (some hi) none p2) pos) (.slB da dh) :=
  PE.imp (pe_slice sl_D ha po_none (po_some hh)) fun σ H Q ⟨env, A, hA, hE, h⟩ => by
    simp only [ev] at h
    refine ⟨env, A, hA, hE, h.bindE (t' := t) fun d v H1 _ s1 r1 _ h1 => ⟨env, A, hA.same s1, hE.same s1, h1.bindE (t' := true) fun e u H2 _ s2 r2 _ h2 => ?_⟩⟩
    cases r2 with
    | int i => exact ⟨i, rfl, W, A, σ, t, d, (hA.same s1).same s2, r1.same s2, h2⟩
    | _ => exact h2.elim
theorem se_slC {a lo hi : Expr} {da dl dh : DE} {p2 pos : Pos} (ha : SE X W M C G false t a da) (hl : SE X W M C G false true lo dl) (hh : SE X W M C G false true hi dh) : SE X W M C G fr t (.Subscript a (.Slice (some lo) (some hi) none p2) pos) (.slC da dl dh) :=
  PE.imp (pe_slice sl_D ha (po_some hl) (po_some hh)) fun σ H Q ⟨env, A, hA, hE, h⟩ => by
    simp only [ev] at h
    refine ⟨env, A, hA, hE, h.bindE (t' := t) fun d v H1 _ s1 r1 _ h1 => ⟨env, A, hA.same s1, hE.same s1, h1.bindE (t' := true) fun e u H2 _ s2 r2 _ h2 => ?_⟩⟩
    cases r2 with
    | int i =>
      refine ⟨i, rfl, env, A, (hA.same s1).same s2, (hE.same s1).same s2, h2.bindE (t' := true) fun f w H3 _ s3 r3 _ h3 => ?_⟩
      cases r3 with
      | int j => exact ⟨j, rfl, W, A, σ, t, d, ((hA.same s1).same s2).same s3, (r1.same s2).same s3, h3⟩
      | _ => exact h3.elim
    | _ => exact h2.elim
/-! ### xs[::-1] -/
theorem se_rev {e : Expr} {de : DE} {j : Nat} {p1 p2 p3 pos : Pos} (he : SE X W M C G false t e de) : SE X W M C G fr t (.Subscript e (.Slice none none (some (.UnaryOp .USub (.Constant (.int 1) j p1) p2)) p3) pos) (.rev de) :=
  PE.imp (pe_revL he) fun σ H Q ⟨env, A, hA, hE, h⟩ => by
    simp only [ev] at h
    refine ⟨env, A, hA, hE, h.bindE (t' := t) fun d v H1 _ s1 r1 _ h1 => ?_⟩
    cases r1 with
    | @lst a xs ds h2 a1 r1 z1 => exact ⟨a, xs, rfl, .of h2, fun p n => h1.newL (hA.same s1) n r1.reverse (by simpa using z1)⟩
    | _ => exact h1.elim
/-! ### dicts -/
end
section
variable {K : PySem.W.Frag} {H : Hp} {A : Addr → Prop}
theorem RepK.append : ∀ {v w : List (Key × V)} {d e : List (D × D)}, RepK K H A v d → RepK K H A w e → RepK K H A (v ++ w) (d ++ e)
  | _, _, _, _, .nil, r => r
  | _, _, _, _, .int r rs, q => .int r (RepK.append rs q)
  | _, _, _, _, .str h1 h2 r rs, q => .str h1 h2 r (RepK.append rs q)
theorem repK_any (k : Key) : ∀ {kvs : List (Key × V)} {ds : List (D × D)}, RepK K H A kvs ds → (kvs.any fun kv => decide (kv.1 = k)) = ds.any fun p => D.eqv p.1 (kD k)
  | _, _, .nil => rfl
  | _, _, .int (i := i) _ rs => by simp only [List.any_cons]; rw [repK_any k rs, show D.eqv (D.int i) (kD k) = decide ((.inl i : Key) = k) from eqv_kD (.inl i) k]
  | _, _, .str (x := i) _ _ _ rs => by simp only [List.any_cons]; rw [repK_any k rs, show D.eqv (D.str i) (kD k) = decide ((.inr i : Key) = k) from eqv_kD (.inr i) k]
theorem repK_put1 {k : Key} {v : V} {d : D} (r0 : Rep K H A v d) : ∀ {kvs : List (Key × V)} {ds : List (D × D)}, RepK K H A kvs ds → RepK K H A (kvs.map fun kv => if kv.1 = k then (kv.1, v) else kv) (ds.map fun p => if D.eqv p.1 (kD k) then (p.1, d) else p)
  | _, _, .nil => .nil
  | _, _, .int (i := i) (v := v1) (d := d1) r rs => by
    simp only [List.map_cons]
    rw [show D.eqv (D.int i) (kD k) = decide ((.inl i : Key) = k) from eqv_kD (.inl i) k]
    by_cases e : (.inl i : Key) = k
    · rw [if_pos e, if_pos (decide_eq_true e)]; exact .int r0 (repK_put1 r0 rs)
    · rw [if_neg e, if_neg (by rw [decide_eq_false e]; exact Bool.false_ne_true)]; exact .int r (repK_put1 r0 rs)
  | _, _, .str (x := i) (v := v1) (d := d1) h1 h2 r rs => by
    simp only [List.map_cons]
    rw [show D.eqv (D.str i) (kD k) = decide ((.inr i : Key) = k) from eqv_kD (.inr i) k]
    by_cases e : (.inr i : Key) = k
    · rw [if_pos e, if_pos (decide_eq_true e)]; exact .str h1 h2 r0 (repK_put1 r0 rs)
    · rw [if_neg e, if_neg (by rw [decide_eq_false e]; exact Bool.false_ne_true)]; exact .str h1 h2 r (repK_put1 r0 rs)
/-- a key that may stand -/
def KOk : Key → Prop
  | .inl _ => True
  | .inr x => PyData.strOk x = true ∧ x.length ≤ SZ
theorem RepK.one {k : Key} {v : V} {d : D} (hk : KOk k) (r0 : Rep K H A v d) : RepK K H A [(k, v)] [(kD k, d)] := by
  cases k with
  | inl i => exact .int r0 .nil
  | inr x => exact .str hk.1 hk.2 r0 .nil
theorem RepK.put {k : Key} {v : V} {d : D} {kvs : List (Key × V)} {ds : List (D × D)} (hk : KOk k) (r : RepK K H A kvs ds) (r0 : Rep K H A v d) : RepK K H A (putK kvs k v) (D.put ds (kD k) d) := by
  unfold putK D.put
  rw [repK_any k r]
  split
  · exact repK_put1 r0 r
  · exact r.append (.one hk r0)
theorem RepK.putAll : ∀ {more kvs : List (Key × V)} {ms ds : List (D × D)}, RepK K H A more ms → RepK K H A kvs ds → RepK K H A (mergeK kvs more) (D.putAll ds ms)
  | _, _, _, _, .nil, r => r
  | _, kvs, _, es, .int (i := i) (v := v) (vs := vs) (d := d) (ds := ds) q rs, r => show RepK K H A (mergeK (putK kvs (.inl i) v) vs) (D.putAll (D.put es (.int i) d) ds) from RepK.putAll rs (r.put (k := .inl i) trivial q)
  | _, kvs, _, es, .str (x := x) (v := v) (vs := vs) (d := d) (ds := ds) h1 h2 q rs, r => show RepK K H A (mergeK (putK kvs (.inr x) v) vs) (D.putAll (D.put es (.str x) d) ds) from RepK.putAll rs (r.put (k := .inr x) ⟨h1, h2⟩ q)
theorem put_len (ds : List (D × D)) (k d : D) : (D.put ds k d).length ≤ ds.length + 1 := by
  unfold D.put
  split
  · simp
  · simp
theorem putAll_len : ∀ (ms ds : List (D × D)), (D.putAll ds ms).length ≤ ds.length + ms.length
  | [], ds => by simp [D.putAll]
  | p :: r, ds => by
    have h1 := putAll_len r (D.put ds p.1 p.2)
    have h2 := put_len ds p.1 p.2
    simp only [D.putAll, List.length_cons]
    omega
/-- a list of pairs -/
theorem pairs_rep : ∀ {xs : List V} {ds : List D} {ps : List (D × D)}, RepL K H A xs ds → D.pairs ds = some ps → D.keysTy false ps = true →
    ∃ (as : List Addr) (kvs : List (Key × V)), xs = as.map V.ref ∧ Paired (fun p kv => SqT K H p [kV kv.1, kv.2]) as kvs ∧ RepK K H A kvs ps
  | _, _, _, .nil, h, _ => by simp [D.pairs] at h; subst h; exact ⟨[], [], rfl, .nil, .nil⟩
  | _, _, _, .cons (v := v) (vs := vs) (d := d) (ds := ds) r rs, h, hk => by
    cases r with
    | @tup a ys es h1 r1 z1 =>
      cases r1 with
      | nil => simp [D.pairs] at h
      | cons ra rb => cases rb with
        | nil => simp [D.pairs] at h
        | cons rb rc => cases rc with
          | cons _ _ => simp [D.pairs] at h
          | nil =>
            simp only [D.pairs, Option.map_eq_some_iff] at h
            obtain ⟨qs, h2, h3⟩ := h
            subst h3
            simp only [D.keysTy, Bool.and_eq_true, beq_iff_eq] at hk
            obtain ⟨as, kvs, e1, e2, e3⟩ := pairs_rep rs h2 hk.2
            obtain ⟨k, e4, e5⟩ := rep_key ra hk.1
            subst e1 e4 e5
            have hk : KOk k := by
              cases k with
              | inl i => trivial
              | inr x => cases ra with
                | str _ h1 h2 => exact ⟨h1, h2⟩
            refine ⟨a :: as, (k, _) :: kvs, rfl, .cons h1 e2, ?_⟩
            exact RepK.append (.one hk rb) e3
    | _ => simp [D.pairs] at h
theorem pairs_len : ∀ {ds : List D} {ps : List (D × D)}, D.pairs ds = some ps → ps.length = ds.length
  | [], _, h => by simp [D.pairs] at h; subst h; rfl
  | .tup [k, v] :: r, ps, h => by
    simp only [D.pairs, Option.map_eq_some_iff] at h
    obtain ⟨q, h1, h2⟩ := h
    subst h2
    simp [pairs_len h1]
  | .tup [] :: _, _, h => by simp [D.pairs] at h
  | .tup [_] :: _, _, h => by simp [D.pairs] at h
  | .tup (_ :: _ :: _ :: _) :: _, _, h => by simp [D.pairs] at h
  | .non :: _, _, h => by simp [D.pairs] at h
  | .bl _ :: _, _, h => by simp [D.pairs] at h
  | .int _ :: _, _, h => by simp [D.pairs] at h
  | .str _ :: _, _, h => by simp [D.pairs] at h
  | .lst _ :: _, _, h => by simp [D.pairs] at h
  | .dct _ :: _, _, h => by simp [D.pairs] at h
  | .exc _ :: _, _, h => by simp [D.pairs] at h
  | .arg _ :: _, _, h => by simp [D.pairs] at h
end
section
variable {X : Cx} {W : WC} {M : List Nat} {C : Nat → List D → R D} {G : List D} {fr t : Bool}
theorem RepK.same {K : PySem.W.Frag} {H H1 : Hp} {A : Addr → Prop} {v : List (Key × V)} {d : List (D × D)} (h : Same H H1) (r : RepK K H A v d) : RepK K H1 A v d := RepK.keep (.of_same h) (fun _ z => z) r
theorem Pst.newD {K : PySem.W.Frag} {A : Addr → Prop} {σ : L2.St} {H : Hp} {Q : VK} {p : Addr} {xs : List (Key × V)} {ds : List (D × D)} (h : Pst K W A σ H Q fr t (.ok (.dct ds))) (hA : OkA H A) (n : H p = none) (r : RepK K H (RA t A) xs ds) (z : ds.length ≤ SZ) : Q (.ref p) (upd H p (.dK xs)) :=
  h _ _ (same_upd n) (.dk (.of upd_same) (.inr (hA p n)) (r.same (same_upd n)) z) fun _ _ => freshK n
theorem cr_dictD (hc : X.calm = true) : CallR X (.type "dict") (D1 X.K (D.biD .dict) fr) := by
  refine cr1 (CallR.imp (call_dictP hc) fun xs H Q ⟨x, W, A, σ', t, d, ex, hA, r, h⟩ => ?_)
  subst ex
  cases r with
  | @lst a ys ds h1 a1 r1 z1 =>
    simp only [D.bi1, D.dictD] at h
    split at h
    · rename_i ps e
      split at h
      · rename_i hk
        obtain ⟨as, kvs, e1, e2, e3⟩ := pairs_rep r1 e hk
        subst e1
        refine ⟨a, as, kvs, rfl, .of h1, e2, fun p n => h.newD hA n (RepK.putAll e3 .nil) ?_⟩
        have := putAll_len ps []
        have l := pairs_len e
        simp only [List.length_nil] at this
        omega
      · exact h.elim
    · exact h.elim
  | _ => exact h.elim
end
end B

set_option maxHeartbeats 1000000
/-! GenH: displays of dicts, sorting. -/
namespace B
open PySem PySem.Spec PyProof.Rows L2
section
variable {K : PySem.W.Frag} {H : Hp} {A A' : Addr → Prop}
mutual
theorem Rep.alw (hA : ∀ a o, H a = some o → A a → A' a) : ∀ {v : V} {d : D}, Rep K H A v d → Rep K H A' v d
  | _, _, .non => .non
  | _, _, .bl b => .bl b
  | _, _, .int i => .int i
  | _, _, .str x h1 h2 => .str x h1 h2
  | _, _, .tup h r z => .tup h (RepL.alw hA r) z
  | _, _, .lst h a r z => .lst h (hA _ _ h a) (RepL.alw hA r) z
  | _, _, .dk h a r z => .dk h (h.elim (fun e => hA _ _ e a) fun ⟨_, e⟩ => hA _ _ e a) (RepK.alw hA r) z
  | _, _, .dt h a r n z => .dt h (h.elim (fun e => hA _ _ e a) fun ⟨_, e⟩ => hA _ _ e a) (RepT.alw hA r) n z
  | _, _, .arg (o := o) h => .arg (o := o) h
theorem RepL.alw (hA : ∀ a o, H a = some o → A a → A' a) : ∀ {v : List V} {d : List D}, RepL K H A v d → RepL K H A' v d
  | _, _, .nil => .nil
  | _, _, .cons r rs => .cons (Rep.alw hA r) (RepL.alw hA rs)
theorem RepK.alw (hA : ∀ a o, H a = some o → A a → A' a) : ∀ {v : List (Key × V)} {d : List (D × D)}, RepK K H A v d → RepK K H A' v d
  | _, _, .nil => .nil
  | _, _, .int r rs => .int (Rep.alw hA r) (RepK.alw hA rs)
  | _, _, .str h1 h2 r rs => .str h1 h2 (Rep.alw hA r) (RepK.alw hA rs)
theorem RepT.alw (hA : ∀ a o, H a = some o → A a → A' a) : ∀ {v : List (List Key × V)} {d : List (D × D)}, RepT K H A v d → RepT K H A' v d
  | _, _, .nil => .nil
  | _, _, .cons rk h z r rs => .cons (RepL.alw hA rk) h z (Rep.alw hA r) (RepT.alw hA rs)
end
end
section
variable {X : Cx} {W : WC} {M : List Nat} {C : Nat → List D → R D} {G : List D} {fr t : Bool}
inductive DPs (X : Cx) (W : WC) (M : List Nat) (C : Nat → List D → R D) (G : List D) : List (Option Expr) → List Expr → List Str → DEs → Prop
  | nil : DPs X W M C G [] [] [] .nil
  | cons {x : Str} {j : Nat} {p : Pos} {v : Expr} {dv : DE} {ks : List (Option Expr)} {vs : List Expr} {xs : List Str} {ds : DEs} (h1 : PyData.strOk x = true) (h2 : x.length ≤ SZ) (hv : SE X W M C G false false v dv) (r : DPs X W M C G ks vs xs ds) :
    DPs X W M C G (some (.Constant (.str x) j p) :: ks) (v :: vs) (x :: xs) (.cons dv ds)
theorem DPs.pps {pos : Pos} : ∀ {ks : List (Option Expr)} {vs : List Expr} {xs : List Str} {ds : DEs}, DPs X W M C G ks vs xs ds → ∃ trs, PPs X pos ks vs trs ∧ ∀ (σ : L2.St) (H : Hp) (Q : List (V × V) → Hp → Prop) (env : Env) (A : Addr → Prop), OkA H A → EnvOk X.K M A σ H env →
    PstL X.K W A σ H (fun us H' => Q ((xs.map V.str).zip us) H') false (evs C G ds env) → tPairs trs σ H Q
  | _, _, _, _, .nil => ⟨[], pps_nil, fun σ H Q env A hA hE h => by simp only [evs] at h; exact h [] H (Same.refl H) .nil⟩
  | _, _, _, _, .cons (x := x) (dv := dv) (ds := ds) h1 h2 hv r => by
    obtain ⟨trs, hp, hr⟩ := r.pps (pos := pos)
    refine ⟨_, pps_cons pe_str hv hp, fun σ H Q env A hA hE h => ?_⟩
    simp only [evs] at h
    show tC (.str x) σ H fun y H1 => tD X.K W M (ev C G dv) false false σ H1 fun z H2 => tPairs trs σ H2 fun ps H3 => Q ((y, z) :: ps) H3
    show tD X.K W M (ev C G dv) false false σ H fun z H2 => tPairs trs σ H2 fun ps H3 => Q ((.str x, z) :: ps) H3
    exact ⟨env, A, hA, hE, h.bindE (t' := false) fun d v H1 _ s1 r1 h1 => hr σ H1 (fun ps H3 => Q ((.str x, v) :: ps) H3) env A (hA.same s1) (hE.same s1) (h1.bindL (t' := false) fun es us H2 _ s2 r2 h2 => h2 _ _ (Same.refl _) (.cons (r1.same s2) r2))⟩
theorem DPs.len : ∀ {ks : List (Option Expr)} {vs : List Expr} {xs : List Str} {ds : DEs}, DPs X W M C G ks vs xs ds → ks.length = ds.len ∧ vs.length = ds.len ∧ xs.length = ds.len ∧ ks.all (·.isSome) = true ∧ ∀ x ∈ xs, PyData.strOk x = true ∧ x.length ≤ SZ
  | _, _, _, _, .nil => ⟨rfl, rfl, rfl, rfl, fun x h => by cases h⟩
  | _, _, _, _, .cons h1 h2 hv r => by
    obtain ⟨a, b, c, d, e⟩ := r.len
    refine ⟨by simp [DEs.len, a], by simp [DEs.len, b], by simp [DEs.len, c], by simpa using d, fun x hx => ?_⟩
    rcases List.mem_cons.mp hx with rfl | hx
    · exact ⟨h1, h2⟩
    · exact e x hx
theorem zip_repK {K : PySem.W.Frag} {H : Hp} {A : Addr → Prop} : ∀ {xs : List Str} {us : List V} {ds : List D}, (∀ x ∈ xs, PyData.strOk x = true ∧ x.length ≤ SZ) → RepL K H A us ds → xs.length = ds.length →
    RepK K H A ((xs.map fun x => (.inr x : Key)).zip us) ((xs.map D.str).zip ds) ∧ (xs.map V.str).zip us = ((xs.map fun x => (.inr x : Key)).zip us).map fun kv => (kV kv.1, kv.2)
  | [], _, _, _, r, h => by cases r with
    | nil => exact ⟨.nil, rfl⟩
    | cons _ _ => simp at h
  | x :: xs, _, _, hx, r, h => by cases r with
    | nil => simp at h
    | cons r rs =>
      obtain ⟨a, b⟩ := zip_repK (fun y hy => hx y (List.mem_cons_of_mem _ hy)) rs (by simpa using h)
      refine ⟨.str (hx x (List.mem_cons_self ..)).1 (hx x (List.mem_cons_self ..)).2 r a, ?_⟩
      simp only [List.map_cons, List.zip_cons_cons, b]
      rfl
theorem se_dct {keys : List (Option Expr)} {values : List Expr} {xs : List Str} {ds : DEs} {pos : Pos} (h : DPs X W M C G keys values xs ds) (h0 : 0 < ds.len) (h15 : ds.len ≤ 15) : SE X W M C G fr t (.Dict keys values pos) (.dct xs ds) := by
  obtain ⟨trs, hp, hr⟩ := h.pps (pos := pos)
  obtain ⟨l1, l2, l3, l4, l5⟩ := h.len
  refine PE.imp (pe_disp hp l4 (by rw [l1, l2]) (fun e => by rw [e] at l1; simp at l1; omega) (by omega)) fun σ H Q ⟨env, A, hA, hE, q⟩ => ?_
  simp only [ev] at q
  intro p n
  have s0 : Same H (upd H p (.dK [])) := same_upd n
  have hA' : OkA (upd H p (.dK [])) fun b => A b ∧ b ≠ p := fun b hb => by
    have hne : b ≠ p := fun e => by subst e; rw [upd_same] at hb; cases hb
    exact ⟨hA b (s0.free hb), hne⟩
  have hE' : EnvOk X.K M (fun b => A b ∧ b ≠ p) σ (upd H p (.dK [])) env := by
    refine EnvOk.same ⟨hE.len, fun i d e => ?_⟩ s0
    obtain ⟨v, e1, e2, e3⟩ := hE.at_ i d e
    exact ⟨v, e1, e2, fun m => (e3 m).alw fun a o ha hAa => ⟨hAa, fun e => by subst e; rw [n] at ha; cases ha⟩⟩
  refine hr σ _ _ env _ hA' hE' ?_
  cases e : evs C G ds env with
  | bad => rw [e] at q; exact q
  | exc c => rw [e] at q; exact fun H' s' => q H' (s0.trans s')
  | ok es =>
    rw [e, R.bind_ok] at q
    intro us H2 s2 r2
    have hl : xs.length = es.length := by rw [l3, evs_len e]
    have hp2 : H2 p = some (.dK []) := s2 _ _ upd_same
    obtain ⟨k1, k2⟩ := zip_repK l5 r2 hl
    have hlz : es.length ≤ 15 := by rw [evs_len e]; exact h15
    refine ⟨hp2, _, k2, by simp only [List.length_zip, List.length_map]; omega, ?_⟩
    have hs : Same H (upd H2 p (.dK (mergeK [] ((xs.map fun x => (.inr x : Key)).zip us)))) := fun b o hb => by
      have hne : b ≠ p := fun e => by subst e; rw [n] at hb; cases hb
      rw [upd_ne hne]
      exact s2 _ _ (s0 _ _ hb)
    refine q _ _ hs ?_ fun _ _ => ⟨p, rfl, n, .inr ⟨_, upd_same⟩⟩
    have kp : Keep (RA false fun b => A b ∧ b ≠ p) H2 (upd H2 p (.dK (mergeK [] ((xs.map fun x => (.inr x : Key)).zip us)))) := by
      refine ⟨fun b o hb e => ?_, fun b ys e => ?_, fun b o u e => ?_⟩
      · rcases hb with hb | hb
        · cases hb
        · rw [upd_ne hb.2]; exact e
      · rw [upd_ne (fun z => by subst z; rw [hp2] at e; cases e)]; exact e
      · rw [upd_ne (fun z => by subst z; rw [hp2] at e; cases e)]; exact e
    have r3 := RepK.keep (A' := RA t A) kp (fun a ha => .inr (ha.elim (fun z => by cases z) fun z => z.1)) k1
    refine .dk (.of upd_same) (.inr (hA p n)) (RepK.putAll r3 .nil) ?_
    have := putAll_len ((xs.map D.str).zip es) []
    simp only [List.length_nil, List.length_zip, List.length_map] at this
    have : SZ = 16777216 := rfl
    omega
end

/-! ### sorting -/
section
variable {α : Type} {lt : α → α → Bool}
theorem ins_perm (x : α) : ∀ ys : List α, (D.ins lt x ys).Perm (x :: ys)
  | [] => List.Perm.refl _
  | y :: ys => by
    simp only [D.ins]
    split
    · exact ((ins_perm x ys).cons y).trans (List.Perm.swap x y ys)
    · exact List.Perm.refl _
theorem isort_perm : ∀ xs : List α, (D.isort lt xs).Perm xs
  | [] => List.Perm.refl _
  | x :: xs => (ins_perm x _).trans ((isort_perm xs).cons x)
theorem ins_srtdD (O : SrtO.Swo lt) (x : α) : ∀ {ys : List α}, SrtO.Srtd lt ys → SrtO.Srtd lt (D.ins lt x ys)
  | [], _ => SrtO.srtd_one x
  | y :: ys, h => by
    simp only [D.ins]
    split
    · rename_i e
      refine List.pairwise_cons.mpr ⟨fun z hz => ?_, ins_srtdD O x (List.pairwise_cons.mp h).2⟩
      rcases List.mem_cons.mp ((ins_perm x ys).mem_iff.mp hz) with rfl | hz
      · exact O.asym _ _ e
      · exact SrtO.srtd_head h z hz
    · rename_i e
      refine List.pairwise_cons.mpr ⟨fun z hz => ?_, h⟩
      have e' : lt y x = false := by simpa using e
      rcases List.mem_cons.mp hz with rfl | hz
      · exact e'
      · exact O.tr x y z e' (SrtO.srtd_head h z hz)
theorem isort_srtd (O : SrtO.Swo lt) : ∀ xs : List α, SrtO.Srtd lt (D.isort lt xs)
  | [] => List.Pairwise.nil
  | x :: xs => ins_srtdD O x (isort_srtd O xs)
theorem ins_cls (O : SrtO.Swo lt) (x z : α) : ∀ {ys : List α}, (D.ins lt x ys).filter (SrtO.eqv lt z) = (x :: ys).filter (SrtO.eqv lt z)
  | [] => rfl
  | y :: ys => by
    simp only [D.ins]
    split
    · rename_i e
      rw [List.filter_cons, ins_cls O x z, List.filter_cons, List.filter_cons (x := x), List.filter_cons (x := y)]
      rcases SrtO.bcase (SrtO.eqv lt z y) with h1 | h1
      · rcases SrtO.bcase (SrtO.eqv lt z x) with h2 | h2
        · exfalso
          have a := SrtO.eqv_iff.mp h1
          have b := SrtO.eqv_iff.mp h2
          have c : lt z x = true := O.lelt a.2 e
          rw [b.1] at c
          cases c
        · rw [h1, h2]; rfl
      · rw [h1]; rfl
    · rfl
theorem isort_stb (O : SrtO.Swo lt) : ∀ xs : List α, SrtO.Stb lt (D.isort lt xs) xs
  | [] => SrtO.Stb.refl _
  | x :: xs => ⟨isort_perm _, fun z => by
    show (D.ins lt x (D.isort lt xs)).filter _ = _
    rw [ins_cls O, List.filter_cons, List.filter_cons, (isort_stb O xs).cls]⟩
theorem Stb.symm {l m : List α} (h : SrtO.Stb lt l m) : SrtO.Stb lt m l := ⟨h.perm.symm, fun x => (h.cls x).symm⟩
theorem isort_uniq (O : SrtO.Swo lt) {xs ys : List α} (h1 : SrtO.Srtd lt ys) (h2 : SrtO.Stb lt ys xs) : ys = D.isort lt xs :=
  SrtO.stb_uniq O h1 (isort_srtd O xs) (h2.trans (Stb.symm (isort_stb O xs)))
end
theorem swo_ltI : SrtO.Swo fun a b : Int => decide (a < b) := by
  refine ⟨fun x y h => ?_, fun x y z h1 h2 => ?_⟩
  · have := of_decide_eq_true h; exact decide_eq_false (by omega)
  · have := of_decide_eq_false h1; have := of_decide_eq_false h2; exact decide_eq_false (by omega)
theorem lexLt_asym : ∀ x y : List Int, HT.lexLt x y = true → HT.lexLt y x = false
  | [], [], h => by cases h
  | [], _ :: _, _ => rfl
  | _ :: _, [], h => by cases h
  | a :: x, b :: y, h => by
    rw [HT.lexLt_cons] at h ⊢
    by_cases e : a = b
    · subst e; rw [if_pos rfl] at h ⊢; exact lexLt_asym x y h
    · rw [if_neg e] at h; rw [if_neg fun z => e z.symm]
      have := of_decide_eq_true h
      exact decide_eq_false (by omega)
theorem lexLt_tr : ∀ x y z : List Int, HT.lexLt y x = false → HT.lexLt z y = false → HT.lexLt z x = false
  | [], [], z, _, h => h
  | [], _ :: _, [], h1, h2 => by cases h2
  | [], _ :: _, _ :: _, h1, h2 => rfl
  | _ :: _, [], z, h1, h2 => by cases h1
  | _ :: _, _ :: _, [], h1, h2 => by cases h2
  | a :: x, b :: y, c :: z, h1, h2 => by
    rw [HT.lexLt_cons] at h1 h2 ⊢
    by_cases e : b = a
    · subst e
      rw [if_pos rfl] at h1
      by_cases e2 : c = b
      · subst e2; rw [if_pos rfl] at h2 ⊢; exact lexLt_tr x y z h1 h2
      · rw [if_neg e2] at h2 ⊢; exact h2
    · rw [if_neg e] at h1
      have q1 := of_decide_eq_false h1
      by_cases e2 : c = b
      · subst e2; rw [if_neg e]; exact decide_eq_false (by omega)
      · rw [if_neg e2] at h2
        have q2 := of_decide_eq_false h2
        rw [if_neg (by omega)]
        exact decide_eq_false (by omega)
theorem swo_lexL : SrtO.Swo HT.lexLt := ⟨lexLt_asym, lexLt_tr⟩
theorem perm_le_uniq {xs ys : List Int} (h1 : ys.Perm xs) (h2 : ys.Pairwise (· ≤ ·)) : ys = D.isort (fun a b => decide (a < b)) xs := by
  refine isort_uniq swo_ltI (h2.imp fun {a b} h => decide_eq_false (by omega)) ⟨h1, fun x => ?_⟩
  have e : SrtO.eqv (fun a b : Int => decide (a < b)) x = fun y => decide (y = x) := by
    funext y
    unfold SrtO.eqv
    by_cases h : y = x
    · subst h; simp
    · have : ¬ (x < y) ∨ ¬ (y < x) := by omega
      by_cases h3 : x < y
      · simp [h, h3]
      · have : y < x := by omega
        simp [h, h3, this]
  rw [e]
  have go : ∀ l : List Int, l.filter (fun y => decide (y = x)) = List.replicate (l.count x) x := by
    intro l
    rw [← List.filter_beq x]
    congr 1
  rw [go, go, h1.count_eq]
end B

set_option maxHeartbeats 1000000
/-! GenI: sorted of numbers, of tuples of numbers; sorted(set(..)). -/
namespace B
open PySem PySem.Spec PyProof.Rows L2
section
variable {prog : Program} {w : World} {A0 : Around} {E : Value → Shared → Prop} {s : Shared}
theorem lex_any {b : Bool} : ∀ {xs ys : List Value} {ns ms : List Int} (fin : Bool) (Q : Bool → Shared → Prop) (i : Nat), IntsAre xs ns → IntsAre ys ms → fin = decide (ns.length < ms.length) → Q (HT.lexLt ns ms) s → PySem.W.KatLex prog w A0 b fin Q (xs.zip ys) i s
  | _, _, _, _, fin, Q, i, .nil, .nil, hf, h => by
    rw [show fin = false by rw [hf]; rfl]
    exact PySem.W.kat_nil h
  | _, _, _, _, fin, Q, i, .nil, .cons n t r, hf, h => by
    rw [show fin = true by rw [hf]; exact decide_eq_true (by simp)]
    exact PySem.W.kat_nil h
  | _, _, _, _, fin, Q, i, .cons n t r, .nil, hf, h => by
    rw [show fin = false by rw [hf]; exact decide_eq_false (by simp)]
    exact PySem.W.kat_nil h
  | _, _, _, _, fin, Q, i, .cons n t r, .cons m u q, hf, h => by
    rw [List.zip_cons_cons]
    rw [HT.lexLt_cons] at h
    refine PySem.W.kat_cons (SeqAt.EqAt.int_int n t m u prog w _ _ ?_)
    refine PySem.W.kat_go (fun e1 => PySem.W.kat_yes ?_) (fun e1 => PySem.W.kat_no ?_)
    · have ex : n = m := by simpa using e1
      rw [if_pos ex] at h
      exact lex_any fin Q (i + 1) r q (by rw [hf]; simp) h
    · have ex : ¬ n = m := by simpa using e1
      rw [if_neg ex] at h
      exact TS.oneLt_ints _ h
theorem tup_cmp {vs : List Value} {k : Value → List Int} (hp : ∀ v ∈ vs, TS.TupInts s.heap v (k v)) : SrtO.Cmp prog w A0 s (tuples' true) (fun p => p.1 ∈ vs) (SrtO.lt2 fun v u => HT.lexLt (k v) (k u)) := by
  intro p q hm hm'
  have h1 := hp _ hm
  have h2 := hp _ hm'
  show wpAny (model prog w) A0 (keyLt' (tuples' true) p.1 q.1) (fun r s' => s' = s ∧ r = HT.lexLt (k p.1) (k q.1)) (fun _ _ => False) s
  obtain ⟨a, xs, e, ⟨o, ho, hc, n, hd⟩, i1⟩ := h1
  obtain ⟨a', xs', e', ⟨o', ho', hc', n', hd'⟩, i2⟩ := h2
  generalize k p.1 = ns at i1 ⊢
  generalize k q.1 = ms at i2 ⊢
  rw [e, e']
  refine PySem.W.kat_lt ho hd ho' hd' (lex_any _ _ 0 i1 i2 ?_ ⟨rfl, rfl⟩)
  have l1 := i1.length
  have l2 := i2.length
  rw [Array.length_toList] at l1 l2
  rw [l1, l2]
theorem firsts_tup {h : Heap} {k : Value → List Int} : ∀ {vs : List Value}, (∀ v ∈ vs, TS.TupInts h v (k v) ∧ k v ≠ []) → ∃ fs : List Value, PySem.W.KatTups h vs fs ∧ fs.length = vs.length ∧ ∀ f ∈ fs, ∃ x t, f = Value.int x t
  | [], _ => ⟨[], PySem.W.KatTups.nil, rfl, fun _ hm => by simp at hm⟩
  | v :: vs, hp => by
    obtain ⟨fs, h1, h2, h3⟩ := firsts_tup (vs := vs) fun v' hm => hp v' (List.mem_cons_of_mem _ hm)
    obtain ⟨⟨a, xs, e, ⟨o, ho, hc, n, hd⟩, i⟩, hne⟩ := hp v (List.mem_cons_self ..)
    subst e
    generalize k (.ref a) = ns at i hne
    obtain ⟨xl⟩ := xs
    cases i with
    | nil => exact (hne rfl).elim
    | cons m t r =>
      refine ⟨.int m t :: fs, PySem.W.KatTups.cons ho hc hd (by simp) h1, by rw [List.length_cons, List.length_cons, h2], fun f hm => ?_⟩
      rcases List.mem_cons.mp hm with rfl | hm
      · exact ⟨m, t, rfl⟩
      · exact h3 f hm
theorem tups_sortable {a : Addr} {vs : List Value} {k : Value → List Int} (h0 : 0 < vs.length) (hp : ∀ v ∈ vs, TS.TupInts s.heap v (k v) ∧ k v ≠ []) (ha : ∀ o, s.heap.get? a = some o → o.cls ≠ .type "tuple") : SrtO.SortableO prog w A0 s a vs fun v u => HT.lexLt (k v) (k u) := by
  intro h' keep
  have hp' : ∀ v ∈ vs, TS.TupInts h' v (k v) ∧ k v ≠ [] := fun v hm => ⟨(hp v hm).1.keeps fun b o e c => keep b o (fun z => by subst z; exact ha o e c) e, (hp v hm).2⟩
  obtain ⟨fs, h1, h2, h3⟩ := firsts_tup hp'
  refine ⟨tuples' true, fun Q E hq => ?_, tup_cmp fun v hm => (hp' v hm).1⟩
  refine PySem.W.kat_kind (T := .type "int") h1 (by omega) (fun f hm => ?_) (by rfl) ?_
  · obtain ⟨x, t, rfl⟩ := h3 f hm
    exact PySem.W.Looks.now
  · rw [show (Value.type "int" != Value.type "tuple") = true by first | decide +kernel | rfl | decide]
    exact hq
end
section
variable {K : PySem.W.Frag} {H : Hp} {A : Addr → Prop}
/-- tuples of numbers -/
theorem repL_tups : ∀ {vs : List V} {ds : List D} {ts : List (List Int)}, RepL K H A vs ds → D.tupsD ds = some ts → ∃ as : List Addr, vs = as.map V.ref ∧ Paired (fun a t => SqT K H a (t.map V.int)) as ts ∧ ds = ts.map D.iTup ∧ ts.length = ds.length ∧ ∀ t ∈ ts, t.length ≤ SZ
  | _, _, _, .nil, h => by simp [D.tupsD] at h; subst h; exact ⟨[], rfl, .nil, rfl, rfl, fun t h => by cases h⟩
  | _, _, _, .cons (v := v) (d := d) (ds := ds) r rs, h => by
    simp only [D.tupsD] at h
    split at h
    · rename_i n e
      obtain ⟨q, h1, h2⟩ := Option.map_eq_some_iff.mp h
      subst h2
      obtain ⟨as, e1, e2, e3, e4, e5⟩ := repL_tups rs h1
      cases r with
      | @tup a xs es k1 k2 k3 =>
        have e' : D.intsD es = some n := e
        have k4 := k2.ints e'
        have k5 := intsD_eq e'
        subst e1 k4
        refine ⟨a :: as, rfl, .cons k1 e2, ?_, by simp [e4], fun t ht => ?_⟩
        · rw [e3, k5]; rfl
        · rcases List.mem_cons.mp ht with rfl | ht
          · rw [k5] at k3; simpa using k3
          · exact e5 t ht
      | _ => cases e
    · cases h
theorem repL_of_tups : ∀ {as : List Addr} {ts : List (List Int)}, Paired (fun a t => SqT K H a (t.map V.int)) as ts → (∀ t ∈ ts, t.length ≤ SZ) → RepL K H A (as.map V.ref) (ts.map D.iTup)
  | _, _, .nil, _ => .nil
  | _, _, .cons (b := t) h r, z => .cons (.tup h (repL_ints t) (by simpa using z t (List.mem_cons_self ..))) (repL_of_tups r fun t ht => z t (List.mem_cons_of_mem _ ht))
theorem tupInts_of {X : Cx} {pins : List (Addr × Obj)} {σ : L2.St} {H : Hp} {s : Shared} {a : Addr} {t : List Int} (I : L2.Inv X pins σ H s) (h : SqT X.K H a (t.map V.int)) : TS.TupInts s.heap (.ref a) t := by
  obtain ⟨its, r, ht, hz⟩ := I.tuple h
  exact ⟨a, its.toArray, rfl, ht, r.ints⟩
end
section
variable {X : Cx} {W : WC} {M : List Nat} {C : Nat → List D → R D} {G : List D} {fr t : Bool}
theorem paired_mem {α β : Type} {P : α → β → Prop} : ∀ {as : List α} {bs : List β} {a : α}, Paired P as bs → a ∈ as → ∃ b, b ∈ bs ∧ P a b
  | _, _, _, .cons h r, hm => by
    rcases List.mem_cons.mp hm with rfl | hm
    · exact ⟨_, List.mem_cons_self .., h⟩
    · obtain ⟨b, h1, h2⟩ := paired_mem r hm
      exact ⟨b, List.mem_cons_of_mem _ h1, h2⟩
theorem paired_map {as : List Addr} {ts : List (List Int)} {h : Heap} (p : Paired (fun a t => TS.TupInts h (.ref a) t) as ts) : (as.map Value.ref).map (TS.intsOf h) = ts := by
  induction p with
  | nil => rfl
  | cons h1 r ih => rw [List.map_cons, List.map_cons, h1.ints, ih]
theorem paired_imp {α β : Type} {P P' : α → β → Prop} (i : ∀ a b, P a b → P' a b) : ∀ {as : List α} {bs : List β}, Paired P as bs → Paired P' as bs
  | _, _, .nil => .nil
  | _, _, .cons h r => .cons (i _ _ h) (paired_imp i r)
theorem paired_of_mem {α β : Type} {P : α → β → Prop} {f : α → β} : ∀ {as : List α}, (∀ a ∈ as, P a (f a)) → Paired P as (as.map f)
  | [], _ => .nil
  | a :: as, h => .cons (h a (List.mem_cons_self ..)) (paired_of_mem fun b hb => h b (List.mem_cons_of_mem _ hb))
theorem cr_sortedD : CallR X (.builtin "sorted") (D1 X.K (D.biD .sorted) fr) := by
  refine cr1 ?_
  intro pins s σ H xs us Q I rx ⟨x, W, A, σ', t, d, ex, hA, r, h⟩
  subst ex
  cases r with
  | @lst a ys ds h1 a1 r1 z1 =>
    simp only [D.bi1, D.sortL] at h
    split at h
    · rename_i ns e
      have hy := r1.ints e
      subst hy
      refine cr_sortedI pins s σ H _ us Q I rx ⟨a, ns, rfl, .of h1, fun ns' p k1 k2 n => ?_⟩
      rw [perm_le_uniq k1 k2]
      refine h.newL hA n (repL_ints _) ?_
      have l1 := congrArg List.length (intsD_eq e)
      rw [List.length_map] at l1 ⊢
      rw [(isort_perm ns).length_eq]
      omega
    · split at h
      · rename_i ts e
        split at h
        · rename_i hne
          obtain ⟨as, e1, e2, e3, e4, e5⟩ := repL_tups r1 e
          subst e1 e3
          obtain ⟨its, rv, hl, hz⟩ := I.list (.of h1)
          rw [Vals.ref1 rx]
          have ei := refs_at rv
          subst ei
          have p1 : Paired (fun a t => TS.TupInts s.heap (.ref a) t) as ts := paired_imp (fun a t q => tupInts_of I q) e2
          have hk : ∀ a ∈ as, TS.TupInts s.heap (.ref a) (TS.intsOf s.heap (.ref a)) ∧ TS.intsOf s.heap (.ref a) ∈ ts ∧ SqT X.K H a ((TS.intsOf s.heap (.ref a)).map V.int) := fun a ha => by
            obtain ⟨t, q1, q2⟩ := paired_mem e2 ha
            have q3 := tupInts_of I q2
            rw [q3.ints]
            exact ⟨q3, q1, q2⟩
          have hk2 : ∀ v ∈ as.map Value.ref, TS.TupInts s.heap v (TS.intsOf s.heap v) ∧ TS.intsOf s.heap v ≠ [] := fun v hv => by
            obtain ⟨a, ha, rfl⟩ := List.mem_map.mp hv
            obtain ⟨q1, q2, _⟩ := hk a ha
            refine ⟨q1, fun e => ?_⟩
            have := List.all_eq_true.mp hne _ q2
            rw [e] at this
            simp at this
          refine SrtO.sorted_ord (ltv := fun v u => HT.lexLt (TS.intsOf s.heap v) (TS.intsOf s.heap u)) ⟨fun x y => swo_lexL.asym _ _, fun x y z => swo_lexL.tr _ _ _⟩ hl.isList (by rw [List.length_map]; rw [List.length_map] at hz; exact hz) (fun hh h₁ a' ha kk => ?_) fun out hs hb => ?_
          · refine tups_sortable (s := { s with heap := h₁ }) (by omega) (fun v hm => ⟨(hk2 v hm).1.keeps fun b o e _ => (kk b o e).2, (hk2 v hm).2⟩) fun o e => ?_
            have e' : some o = some (seqObj "list" (as.map Value.ref).toArray 0) := e.symm.trans ha
            cases e'
            intro c
            exact absurd (Value.type.inj c) (by decide)
          · have hout : ∀ u ∈ out, ∃ a, u = Value.ref a ∧ a ∈ as := fun u hu => by
              obtain ⟨a, ha, e⟩ := List.mem_map.mp (hb.perm.mem_iff.mp hu)
              exact ⟨a, e.symm, ha⟩
            have hm : out.map (TS.intsOf s.heap) = D.isort HT.lexLt ts := by
              have q := isort_uniq swo_lexL (SrtO.srtd_map hs) (SrtO.Stb.map swo_lexL (TS.intsOf s.heap) hb)
              rw [paired_map p1] at q
              exact q
            have hl2 : (out.map backV).length ≤ sizeLine := by
              rw [List.length_map, hb.len, List.length_map]
              rw [List.length_map] at hz
              exact hz
            obtain ⟨ep, he'⟩ := PyProof.Rows.sortedAll_at s.heap (as.map Value.ref) out.toArray
            have hn : H (s.heap.objs.size + 1) = none := I.hok.fresh (Nat.le_succ _)
            have hr : RepL X.K H (RA t A) (out.map backV) ((out.map (TS.intsOf s.heap)).map D.iTup) := by
              have go : ∀ l : List Value, (∀ u ∈ l, ∃ a, u = Value.ref a ∧ a ∈ as) → RepL X.K H (RA t A) (l.map backV) ((l.map (TS.intsOf s.heap)).map D.iTup) := by
                intro l
                induction l with
                | nil => intro _; exact .nil
                | cons u l ih =>
                  intro hu
                  obtain ⟨a, rfl, ha⟩ := hu u (List.mem_cons_self ..)
                  obtain ⟨q1, q2, q3⟩ := hk a ha
                  exact .cons (.tup q3 (repL_ints _) (by simpa using e5 _ q2)) (ih fun u hu' => hu u (List.mem_cons_of_mem _ hu'))
              exact go out hout
            rw [hm] at hr
            refine ⟨.ref _, upd H (s.heap.objs.size + 1) (.lst (out.map backV)), I.laid (t' := s.toks) (fun _ _ => PyProof.Rows.sortedAll_old) (Nat.le_succ _) ⟨hl2, out, ep, vals_back fun u hu => let ⟨a, e, _⟩ := hout u hu; ⟨a, e⟩, he'⟩, rfl, ?_⟩
            refine h.newL hA hn hr ?_
            rw [List.length_map, (isort_perm ts).length_eq, e4]
            exact z1
        · exact h.elim
      · exact h.elim
  | _ => exact h.elim
end
end B

set_option maxHeartbeats 1000000
/-! GenJ: sorted(set(xs)). -/
namespace B
open PySem PySem.Spec PyProof.Rows L2
/-! ### a total order: one sorted list -/
theorem tot_uniq {α : Type} [DecidableEq α] {lt : α → α → Bool} (O : SrtO.Swo lt) (tot : ∀ x y, lt x y = false → lt y x = false → x = y) {xs ys : List α} (h1 : ys.Perm xs) (h2 : SrtO.Srtd lt ys) : ys = D.isort lt xs := by
  refine isort_uniq O h2 ⟨h1, fun x => ?_⟩
  have e : SrtO.eqv lt x = fun y => y == x := by
    funext y
    by_cases h : y = x
    · subst h
      rw [beq_self_eq_true]
      exact SrtO.eqv_iff.mpr ⟨O.refl y, O.refl y⟩
    · rw [beq_false_of_ne h]
      rcases SrtO.bcase (SrtO.eqv lt x y) with q | q
      · obtain ⟨q1, q2⟩ := SrtO.eqv_iff.mp q
        exact (h (tot x y q1 q2).symm).elim
      · exact q
  rw [e, List.filter_beq, List.filter_beq, h1.count_eq]
theorem lexLt_tot : ∀ x y : List Int, HT.lexLt x y = false → HT.lexLt y x = false → x = y
  | [], [], _, _ => rfl
  | [], _ :: _, h, _ => by cases h
  | _ :: _, [], _, h => by cases h
  | a :: x, b :: y, h1, h2 => by
    rw [HT.lexLt_cons] at h1 h2
    by_cases e : a = b
    · subst e
      rw [if_pos rfl] at h1 h2
      rw [lexLt_tot x y h1 h2]
    · rw [if_neg e] at h1
      rw [if_neg fun z => e z.symm] at h2
      have := of_decide_eq_false h1
      have := of_decide_eq_false h2
      omega
theorem lexLt_code {B : Int} : ∀ {x y : List Int}, x.length = y.length → TS.Bd B x → TS.Bd B y → TS.code B x ≤ TS.code B y → HT.lexLt y x = false
  | [], [], _, _, _, _ => rfl
  | [], _ :: _, h, _, _, _ => by simp at h
  | _ :: _, [], h, _, _, _ => by simp at h
  | a :: x, b :: y, hl, h1, h2, h => by
    have hl' : x.length = y.length := by simpa using hl
    rw [HT.lexLt_cons]
    by_cases e : b = a
    · subst e
      rw [if_pos rfl]
      refine lexLt_code hl' h1.tail h2.tail ?_
      have q := mt (TS.code_same (B := B) (d := b) hl'.symm).mpr (by omega)
      omega
    · rw [if_neg e]
      refine decide_eq_false fun z => ?_
      have q := TS.code_lt (B := B) hl'.symm h2.tail h1.tail z
      omega
theorem mem_nub {α : Type} [BEq α] [LawfulBEq α] {x : α} : ∀ {xs : List α}, x ∈ D.nub (· == ·) xs ↔ x ∈ xs
  | [] => Iff.rfl
  | y :: ys => by
    simp only [D.nub, List.mem_cons, List.mem_filter, mem_nub (xs := ys)]
    constructor
    · rintro (h | ⟨h, _⟩)
      · exact .inl h
      · exact .inr h
    · rintro (h | h)
      · exact .inl h
      · by_cases e : x = y
        · exact .inl e
        · exact .inr ⟨h, by simpa using fun z => e z.symm⟩
theorem nub_nodup {α : Type} [BEq α] [LawfulBEq α] : ∀ xs : List α, (D.nub (· == ·) xs).Nodup
  | [] => List.nodup_nil
  | y :: ys => by
    simp only [D.nub]
    refine List.nodup_cons.mpr ⟨fun h => ?_, (nub_nodup ys).filter _⟩
    simp at h
theorem nub_len {α : Type} (eq : α → α → Bool) : ∀ xs : List α, (D.nub eq xs).length ≤ xs.length
  | [] => Nat.le_refl _
  | y :: ys => by
    simp only [D.nub, List.length_cons]
    have := List.length_filter_le (fun y' => !eq y y') (D.nub eq ys)
    have := nub_len eq ys
    omega
theorem bound_ex : ∀ ts : List (List Int), ∃ B : Int, ∀ t ∈ ts, ∀ m ∈ t, m < B
  | [] => ⟨0, fun t h => by cases h⟩
  | t :: ts => by
    obtain ⟨B1, h1⟩ := bound_ex ts
    have : ∀ l : List Int, ∃ B : Int, ∀ m ∈ l, m < B := by
      intro l
      induction l with
      | nil => exact ⟨0, fun m h => by cases h⟩
      | cons n l ih =>
        obtain ⟨B, h⟩ := ih
        refine ⟨max (n + 1) B, fun m hm => ?_⟩
        rcases List.mem_cons.mp hm with rfl | hm
        · omega
        · have := h m hm; omega
    obtain ⟨B2, h2⟩ := this t
    refine ⟨max B1 B2, fun u hu m hm => ?_⟩
    rcases List.mem_cons.mp hu with rfl | hu
    · have := h2 m hm; omega
    · have := h1 u hu m hm; omega
section
variable {X : Cx} {W : WC} {M : List Nat} {C : Nat → List D → R D} {G : List D} {fr t : Bool}
theorem paired_zip {as : List Addr} {ts : List (List Int)} {P : Addr → List Int → Prop} (p : Paired P as ts) : ((as.zip ts).map fun p => V.ref p.1) = as.map V.ref ∧ (as.zip ts).map (·.2) = ts ∧ ∀ q ∈ as.zip ts, P q.1 q.2 := by
  induction p with
  | nil => exact ⟨rfl, rfl, fun q h => by cases h⟩
  | cons h r ih =>
    obtain ⟨e1, e2, e3⟩ := ih
    refine ⟨by simp [e1], by simp [e2], fun q hq => ?_⟩
    rcases List.mem_cons.mp hq with rfl | hq
    · exact h
    · exact e3 q hq
theorem se_sset {e : Expr} {de : DE} {p p2 q pos : Pos} (hcalm : X.calm = true) (hu : X.A.units + 200 < cLine) (hg : Gl X "sorted") (hm : X.mg "sorted" = none) (hv : bootBuiltins "sorted" = some (.builtin "sorted")) (hg2 : Gl X "set") (hm2 : X.mg "set" = none) (hv2 : bootBuiltins "set" = some (.type "set"))
    (he : SE X W M C G false t e de) (h1 : starEach [e] X.env = (false, eval e X.env) :: starEach [] X.env) (h2 : (backTo q (starEach [] X.env)).any (·.1) = false)
    (h3 : starEach [.Call (.Name "set" p2) [e] [] q] X.env = (false, eval (.Call (.Name "set" p2) [e] [] q) X.env) :: starEach [] X.env) (h4 : (backTo pos (starEach [] X.env)).any (·.1) = false) :
    SE X W M C G fr t (.Call (.Name "sorted" p) [.Call (.Name "set" p2) [e] [] q] [] pos) (.bi .sset (.cons de .nil)) :=
  PE.imp (pe_callB (cr_sortedT hcalm) hg hm hv (pa_cons (pe_callTy (cr_setOfT hcalm (by omega)) hg2 hm2 hv2 (pa_cons he pa_nil h1) (by decide) (by decide) h1 h2) pa_nil h3) (by decide) (by decide) h3 h4) fun σ H Q ⟨env, A, hA, hE, h⟩ => by
    simp only [ev, evs] at h
    refine ⟨env, A, hA, hE, ?_⟩
    cases e1 : ev C G de env with
    | exc c => rw [e1] at h; exact h
    | bad => rw [e1] at h; exact h
    | ok d =>
      rw [e1] at h
      simp only [R.bind_ok] at h
      intro v H1 s1 r1 _
      have h1 := Pst.mono s1 h
      cases r1 with
      | @lst a ys ds ha a1 r1 z1 =>
        have h1 : Pst X.K W A σ H1 Q fr t (D.ssetL ds) := h1
        simp only [D.ssetL] at h1
        split at h1
        · rename_i ts et
          split at h1
          · rename_i hk
            simp only [Bool.and_eq_true, decide_eq_true_eq] at hk
            obtain ⟨k1, k2⟩ := hk
            obtain ⟨as, e2, e3, e4, e5, e6⟩ := repL_tups r1 et
            obtain ⟨q1, q2, q3⟩ := paired_zip e3
            have q4 : (as.zip ts).length = ts.length := by rw [← List.length_map (f := (·.2)), q2]
            have even : ∀ u ∈ ts, u.length = (ts.headD []).length ∧ u ≠ [] ∧ ∀ n ∈ u, 0 ≤ n := fun u hu => by
              have := List.all_eq_true.mp k2 u hu
              simp only [Bool.and_eq_true, beq_iff_eq, List.all_eq_true, decide_eq_true_eq, Bool.not_eq_true', List.isEmpty_eq_false_iff] at this
              exact ⟨this.1.1, this.1.2, this.2⟩
            obtain ⟨B, hB⟩ := bound_ex ts
            refine ⟨a, as.zip ts, rfl, by rw [q1, ← e2]; exact .of ha, q3, by omega, fun b L hb hL1 hL2 => ?_⟩
            have hL3 : ∀ p ∈ L, p.2 ∈ ts := fun p hp => by rw [← q2]; exact List.mem_map.mpr ⟨p, hL1 p hp, rfl⟩
            have s2 : Same H1 (upd H1 b (SetTO X.prog X.w b L)) := same_upd hb
            refine ⟨b, L, max 1 (ts.headD []).length, B, rfl, upd_same, fun p hp => (Keep.of_same (A := A) s2).sqT (q3 p (hL1 p hp)), by omega, fun p hp => ?_, fun L' c w1 w2 w3 w4 w5 => ?_⟩
            · obtain ⟨z1, z2, z3⟩ := even p.2 (hL3 p hp)
              refine ⟨?_, fun m hm => ⟨z3 m hm, hB _ (hL3 p hp) m hm⟩⟩
              have : 0 < p.2.length := List.length_pos_iff.mpr z2
              omega
            · have hm : L'.map (·.2) = D.isort HT.lexLt (D.nub (· == ·) ts) := by
                refine tot_uniq swo_lexL lexLt_tot ?_ ?_
                · refine (List.perm_ext_iff_of_nodup w2 (nub_nodup ts)).mpr fun u => ?_
                  rw [mem_nub]
                  constructor
                  · intro hu
                    obtain ⟨p, hp, rfl⟩ := List.mem_map.mp hu
                    exact hL3 p (w1.mem_iff.mp hp)
                  · intro hu
                    rw [← q2] at hu
                    obtain ⟨p, hp, rfl⟩ := List.mem_map.mp hu
                    obtain ⟨r, hr, er⟩ := List.mem_map.mp (hL2 p hp)
                    exact List.mem_map.mpr ⟨r, w1.mem_iff.mpr hr, er⟩
                · refine List.pairwise_map.mpr (List.Pairwise.imp_of_mem (fun {x y} hx hy hle => ?_) w4)
                  obtain ⟨x1, x2, x3⟩ := even x.2 (hL3 x (w1.mem_iff.mp hx))
                  obtain ⟨y1, y2, y3⟩ := even y.2 (hL3 y (w1.mem_iff.mp hy))
                  exact lexLt_code (by omega) (fun m hm => ⟨x3 m hm, hB _ (hL3 x (w1.mem_iff.mp hx)) m hm⟩) (fun m hm => ⟨y3 m hm, hB _ (hL3 y (w1.mem_iff.mp hy)) m hm⟩) hle
              have hr : RepL X.K (upd H1 b (SetTO X.prog X.w b L)) (RA t A) (L'.map fun q => V.ref q.1) ((L'.map (·.2)).map D.iTup) := by
                have go : ∀ l : List (Addr × List Int), (∀ p ∈ l, p ∈ as.zip ts) → RepL X.K (upd H1 b (SetTO X.prog X.w b L)) (RA t A) (l.map fun q => V.ref q.1) ((l.map (·.2)).map D.iTup) := by
                  intro l
                  induction l with
                  | nil => intro _; exact .nil
                  | cons p l ih =>
                    intro hp
                    have hp1 := hp p (List.mem_cons_self ..)
                    have hp2 : p.2 ∈ ts := by rw [← q2]; exact List.mem_map.mpr ⟨p, hp1, rfl⟩
                    exact .cons (.tup ((Keep.of_same (A := A) s2).sqT (q3 p hp1)) (repL_ints _) (by simpa using e6 _ hp2)) (ih fun u hu => hp u (List.mem_cons_of_mem _ hu))
                exact go L' fun p hp => hL1 p (w1.mem_iff.mp hp)
              rw [hm] at hr
              refine (Pst.mono s2 h1).newL ((hA.same s1).same s2) w5 hr ?_
              rw [List.length_map, (isort_perm _).length_eq]
              have := nub_len (· == ·) ts
              have : SZ = 16777216 := rfl
              omega
          · exact h1.elim
        · exact h1.elim
      | _ => exact h1.elim
end
end B

set_option maxHeartbeats 1000000
/-! GenK: enumerate of a tuple. -/
namespace B
open PySem PySem.Spec PyProof.Rows L2
theorem new_enumT (l : Addr) (items : Array Value) :
    Meets (Builtin.«enumerate.__new__» ⟨[.type "enumerate", .ref l], []⟩) (fun _ R s => s.heap.IsTuple l items ∧
      R (.ok (.ret (.ref (s.heap.push { cls := .type "tuple_iterator", data := .fields #[.ref l, .int 0 0] }).objs.size)))
        { s with heap := (s.heap.push { cls := .type "tuple_iterator", data := .fields #[.ref l, .int 0 0] }).push { cls := .type "enumerate", data := .fields #[.none, .bool false, .ref s.heap.objs.size, rawInt 0, .none, .none] } }) :=
  .of_wp fun prog w A0 R s h => by
    obtain ⟨hp, g, d, tk, os⟩ := s
    obtain ⟨hL, h⟩ := h
    have hsub := sub_enumerate
    have q1 : ∀ {A' : Around} {E : Value → Shared → Prop} {Q : Value → Shared → Prop}, Q (.ref hp.objs.size) ⟨hp.push { cls := .type "tuple_iterator", data := .fields #[.ref l, .int 0 0] }, g, d, tk, os⟩ → wpAny (model prog w) A' (pyIter (.ref l)) Q E ⟨hp, g, d, tk, os⟩ :=
      fun q => wpAny_pyIter_tuple (s := ⟨hp, g, d, tk, os⟩) hL q
    obtain ⟨o, hl, hc, n, hd⟩ := id hL
    wp_walk using q1, AutoSeq1.wpAny_loadPart' hl
    refine wpAny_stack_any fun st => wpAny_pure ?_
    split
    · rename_i c _ _ _ _ _
      cases (c == Value.type "enumerate")
      · wp_walk using q1, AutoSeq1.wpAny_loadPart' hl
        exact ⟨_, rfl, h⟩
      · wp_walk using q1, AutoSeq1.wpAny_loadPart' hl
        exact ⟨_, rfl, h⟩
    · wp_walk using q1, AutoSeq1.wpAny_loadPart' hl
      exact ⟨_, rfl, h⟩
theorem call_enumT {prog : Program} {w : World} {A0 : Around} {E : Value → Shared → Prop} {s : Shared} {l : Addr} {items : Array Value} {Q : Value → Shared → Prop} (hL : s.heap.IsTuple l items)
    (h : ∀ h', IsEnum h' (s.heap.objs.size + 1) s.heap.objs.size 0 .none → h'.IsTupleIter s.heap.objs.size l 0 → h'.objs.size = s.heap.objs.size + 2 → (∀ b o, s.heap.get? b = some o → h'.get? b = some o) → Q (.ref (s.heap.objs.size + 1)) { s with heap := h' }) :
    wpAny (model prog w) A0 (call (.type "enumerate") [.ref l]) Q E s := by
  refine callType_new F.called_enumerate (by decide) (F.typeCall_enumerate_1 _) (F.newCall_enumerate_1 _) (fun obj => F.args_object_init_2 obj _) F.entry_enumerate_new (new_enumT l items) ⟨hL, ?_⟩
  have hz : (s.heap.push { cls := .type "tuple_iterator", data := .fields #[.ref l, .int 0 0] }).objs.size = s.heap.objs.size + 1 := Heap.size_push ..
  show _ ∧ _
  rw [hz]
  have he : IsEnum ((s.heap.push { cls := .type "tuple_iterator", data := .fields #[.ref l, .int 0 0] }).push { cls := .type "enumerate", data := .fields #[.none, .bool false, .ref s.heap.objs.size, rawInt 0, .none, .none] }) (s.heap.objs.size + 1) s.heap.objs.size 0 .none := by
    have := Heap.get?_push_size (s.heap.push { cls := .type "tuple_iterator", data := .fields #[.ref l, .int 0 0] }) (o := { cls := .type "enumerate", data := .fields #[.none, .bool false, .ref s.heap.objs.size, rawInt 0, .none, .none] }) rfl
    rw [hz] at this; exact this
  exact ⟨⟨_, he, rfl⟩, h _ he ⟨_, Heap.get?_push_of_some _ (Heap.get?_push_size _ rfl), rfl, rfl⟩ (by rw [Heap.size_push, hz]) fun b o x => Heap.get?_push_of_some _ (Heap.get?_push_of_some _ x)⟩
/-- the tuple at a, each item in a new pair -/
def IteT (K : PySem.W.Frag) (a : Addr) : It :=
  ⟨fun i H => ∃ (xs : List V) (x : V), SqT K H a xs ∧ xs[i]? = some x, fun i H v H' => ∃ T x, v = .ref T ∧ H T = none ∧ H' = upd H T (.tup [.int (i : Nat), x]) ∧ ∀ xs, SqT K H a xs → xs[i]? = some x, fun i H => ∃ xs : List V, SqT K H a xs ∧ xs.length ≤ i⟩
theorem turn_enumT {P : Program} {w : World} {K : PySem.W.Frag} {elts : List Expr} {kk : Nat} {tpos : Pos} (a e it : Addr) :
    Turn P w K (.Tuple elts kk tpos) (IteT K a) [e, it] e (fun i h => (∃ old, IsEnum h e it ((i : Nat) : Int) old) ∧ h.IsTupleIter it a i ∧ e ≠ it) where
  mem := List.mem_cons_self ..
  obj := fun i h st b hb => by
    obtain ⟨⟨old, he⟩, ⟨o, ho, hc, hd⟩, _⟩ := st
    rcases List.mem_cons.mp hb with rfl | hb
    · exact ⟨_, he, fun v q => nomatch q⟩
    · rw [List.mem_singleton.mp hb]; exact ⟨o, ho, fun v q => by rw [hd] at q; cases q⟩
  keep := fun i h h' st k => ⟨let ⟨⟨old, he⟩, _⟩ := st; ⟨old, k e (List.mem_cons_self ..) _ he⟩, st.2.1.at fun o q => k it (List.mem_cons_of_mem _ (List.mem_cons_self ..)) o q, st.2.2⟩
  item := by
    intro X hP hw hK hc i pins s σ H E I hf st hg
    subst hP hw hK
    obtain ⟨⟨old, he⟩, hit, hne⟩ := st
    obtain ⟨xs, x, hq, hx⟩ := hg
    obtain ⟨its, rv, p, hz⟩ := I.tuple hq
    obtain ⟨u, hu, ru⟩ := rv.get hx
    have hel : e < s.heap.objs.size := Heap.lt_size he
    have hil : it < s.heap.objs.size := by obtain ⟨_, q, _⟩ := hit; exact Heap.lt_size q
    have hne2 : a ≠ it := fun z => by
      subst z
      obtain ⟨o1, q1, q2, _⟩ := hit
      obtain ⟨o2, q3, q4, _⟩ := (show s.heap.IsTuple a its.toArray from p)
      rw [q1] at q3; cases q3
      rw [q2] at q4
      exact absurd (Value.type.inj q4) (by decide)
    by_cases hae : a = e
    · exfalso
      subst hae
      obtain ⟨o2, q3, q4, _⟩ := (show s.heap.IsTuple a its.toArray from p)
      rw [show s.heap.get? a = some _ from he] at q3; cases q3
      exact absurd (Value.type.inj q4) (by decide)
    have hlt : i < its.toArray.size := by
      have := (List.getElem?_eq_some_iff.mp hu).1
      simpa using this
    refine wpAny_pyNext_enum_itemD (Draws.tuple (A := X.A.in1) (show X.A.in1.handled = none from I.ok.hd hc) it a hne2 its.toArray) he ⟨hit, p⟩ hlt hne (by simp only [List.mem_cons, List.not_mem_nil, or_false, not_or]; exact ⟨hne, fun z => hae z.symm⟩) fun y h' tk hy ho hst hT hsz hk => ?_
    have hy' : y = u := by
      have : its.toArray[i]? = some u := by simpa using hu
      exact Option.some.inj (hy.symm.trans this)
    subst hy'
    refine ⟨_, rfl, wpAny_letOwnedTupleGo_enum (s := { s with heap := h', toks := tk + 1 }) ho fun h'' he' sb => ?_⟩
    have hT2 : h''.get? s.heap.objs.size = some { cls := .type "tuple", data := .seq #[.int i tk, y] } := (sb.2 _ (Nat.ne_of_gt hel)).trans hT
    have new : ObjOk X.prog X.w (upd H s.heap.objs.size (.tup [.int (i : Nat), x])) h'' s.heap.objs.size (.tup [.int (i : Nat), x]) :=
      ⟨by show 2 ≤ sizeLine; decide, [.int i tk, y], .cons ⟨_, rfl⟩ (.cons ru .nil), ⟨_, hT2, rfl, _, rfl⟩⟩
    have I1 : L2.Inv X pins σ (upd H s.heap.objs.size (.tup [.int (i : Nat), x])) { s with heap := h'', toks := tk + 1 } :=
      I.turnedNew (ch := [e, it]) (fun b ob hb q => (sb.2 b (fun z => hb (by simp [z]))).trans (hk b ob (fun z => hb (by simp [z])) (fun z => hb (by simp [z])) q)) hf (Nat.le_refl _) new
    refine ⟨.ref s.heap.objs.size, _, I1, rfl, ⟨_, x, rfl, I.hok.fresh (Nat.le_refl _), rfl, fun ys hy => by rw [I.tuple_inj hy hq]; exact hx⟩, ⟨⟨y, ?_⟩, hst.1.at fun o q => (sb.2 it (Ne.symm hne)).trans q, hne⟩, fun b hb => ?_⟩
    · rw [show ((i + 1 : Nat) : Int) = (i : Int) + 1 by omega]; exact he'
    · have hb' : b < s.heap.objs.size := by
        rcases List.mem_cons.mp hb with rfl | hb
        · exact hel
        · rw [List.mem_singleton.mp hb]; exact hil
      rw [upd_ne (Nat.ne_of_lt hb')]
      exact (hf b hb).1
  done := by
    intro X hP hw hK hc i pins s σ H E I hf st hg
    subst hP hw hK
    obtain ⟨⟨old, he⟩, hit, hne⟩ := st
    obtain ⟨xs, hq, hx⟩ := hg
    obtain ⟨its, rv, p, hz⟩ := I.tuple hq
    obtain ⟨f0, f1, f2, f3, f4, f5⟩ := hf it (List.mem_cons_of_mem _ (List.mem_cons_self ..))
    have hl := rv.length
    have hTy : s.TypeIs (.ref e) "enumerate" := ⟨_, he, rfl⟩
    unfold pyNext
    refine wpAny_bind (wpAny_attempt (wpAny_callSpecial?_slot (name := Str.ofString "__next__") hTy F.slot_enumerate_next (wpAny_call_entry F.slot_enumerate_next hTy F.entry_enumerate_next ?_ (F.args_enumerate_next_1 _))))
    show wpAny _ _ (field (.ref e) 2 >>= _) _ _ _
    refine wpAny_bind (wpAny_field he rfl (x := .ref it) rfl ?_)
    refine wpAny_bind (wpAny_nextOf_tuple_end (show X.A.in1.handled = none from I.ok.hd hc) hit (show s.heap.IsTuple a its.toArray from p) (Array.getElem?_eq_none (by rw [List.size_toArray]; omega)) fun h' x he' hx' => ?_)
    obtain ⟨o, ho, hc⟩ := hx'
    refine wpAny_bind (wpAny_isInstance (T := "StopIteration") (b := true) ⟨o, ho, hc⟩ isSubtype_stop ?_)
    exact wpAny_pure ⟨rfl, I.turned (t' := s.toks) (fun b o hb q => he' b o hb q) f0 f1 f3 f4 f5⟩
  self := fun A0 i s Q E st h => let ⟨⟨_, he⟩, _⟩ := st; wpAny_pyIter_enum he h
end B

set_option maxHeartbeats 1000000
/-! GenL: targets, what is walked, comprehensions. -/
namespace B
open PySem PySem.Spec PyProof.Rows L2
/-! ### several expressions in a row -/
def notStar : Expr → Bool
  | .Starred _ _ => false
  | _ => true
theorem star_cons {e : Expr} {es : List Expr} {env : PySem.Env} (h : notStar e = true) : starEach (e :: es) env = (false, eval e env) :: starEach es env := by
  cases e <;> first | rfl | cases h
theorem asg_cons {e : Expr} {es : List Expr} {env : PySem.Env} (h : notStar e = true) : assignEach (e :: es) env = (false, assign e env) :: assignEach es env := by
  cases e <;> first | rfl | cases h
theorem back_any {pos : Pos} {env : PySem.Env} : ∀ {es : List Expr}, es.all notStar = true → (backTo pos (starEach es env)).any (·.1) = false
  | [], _ => rfl
  | e :: es, h => by
    simp only [List.all_cons, Bool.and_eq_true] at h
    rw [star_cons h.1]
    show (false || (backTo pos (starEach es env)).any (·.1)) = false
    rw [back_any h.2]
    rfl

/-! ### targets -/
def gSeq : List Nat → TGs
  | [] => gNil
  | i :: is => gCons (gName i) (gSeq is)
def gT (K : PySem.W.Frag) : Tg → TG
  | .nm i => gName i
  | .tp is => gTup K is.length (gSeq is)
def Tg.slots : Tg → List Nat
  | .nm i => [i]
  | .tp is => is
def setVs : List Nat → List V → L2.St → L2.St
  | i :: is, v :: vs, σ => setVs is vs (σ.set i (some v))
  | _, _, σ => σ
theorem gSeq_ok {Q : L2.St → Hp → Prop} {H : Hp} : ∀ {is : List Nat} {vs : List V} {σ : L2.St}, vs.length = is.length → Q (setVs is vs σ) H → gSeq is vs σ H Q
  | [], [], σ, _, h => ⟨rfl, h⟩
  | [], _ :: _, _, l, _ => by simp at l
  | i :: is, [], _, l, _ => by simp at l
  | i :: is, v :: vs, σ, l, h => ⟨v, vs, rfl, gSeq_ok (by simpa using l) h⟩
section
variable {K : PySem.W.Frag} {M : List Nat} {A A' : Addr → Prop} {σ : L2.St} {H H' : Hp} {env env1 : Env}
theorem EnvOk.set {i : Nat} {v : V} {d : D} (e : EnvOk K M A σ H env) (hi : i ∉ M) (r : Rep K H A v d) : EnvOk K M A (σ.set i (some v)) H (env.set i (some d)) := by
  refine ⟨by rw [List.length_set, List.length_set]; exact e.len, fun j x h => ?_⟩
  by_cases hj : i = j
  · subst hj
    have hl : i < env.length := by
      by_cases q : i < env.length
      · exact q
      · rw [List.getElem?_eq_none (by rw [List.length_set]; omega)] at h
        cases h
    rw [List.getElem?_set_self hl] at h
    injection h with h
    injection h with h
    subst h
    exact ⟨v, by rw [List.getElem?_set_self (by rw [← e.len]; exact hl)], r.keep (.of_same (Same.refl _)) fun _ _ => trivial, fun _ => r⟩
  · rw [List.getElem?_set_ne hj] at h
    obtain ⟨w, h1, h2, h3⟩ := e.at_ j x h
    exact ⟨w, by rw [List.getElem?_set_ne hj]; exact h1, h2, h3⟩
theorem EnvOk.sets : ∀ {is : List Nat} {vs : List V} {ds : List D} {σ : L2.St} {env env1 : Env}, EnvOk K M A σ H env → (∀ i ∈ is, i ∉ M) → RepL K H A vs ds → setEs is ds env = some env1 → EnvOk K M A (setVs is vs σ) H env1 ∧ vs.length = is.length
  | [], _, _, _, _, _, e, _, .nil, h => by simp only [setEs, Option.some.injEq] at h; subst h; exact ⟨e, rfl⟩
  | [], _, _, _, _, _, e, _, .cons _ _, h => by simp [setEs] at h
  | i :: is, _, _, _, _, _, e, _, .nil, h => by simp [setEs] at h
  | i :: is, _, _, σ, env, env1, e, hm, .cons r rs, h => by
    simp only [setEs] at h
    obtain ⟨a, b⟩ := EnvOk.sets (e.set (hm i (List.mem_cons_self ..)) r) (fun j hj => hm j (List.mem_cons_of_mem _ hj)) rs h
    exact ⟨a, by simp [b]⟩
theorem wipe_set {i : Nat} {v : Option V} : ∀ {vs : List Nat} {σ : L2.St}, i ∈ vs → wipe (σ.set i v) vs = wipe σ vs
  | [], _, h => by cases h
  | j :: vs, σ, h => by
    unfold wipe
    by_cases hj : i ∈ vs
    · rw [wipe_set hj]
    · have e : i = j := (List.mem_cons.mp h).resolve_right hj
      subst e
      have go : ∀ {ws : List Nat} {τ : L2.St}, i ∉ ws → wipe (τ.set i v) ws = (wipe τ ws).set i v := by
        intro ws
        induction ws with
        | nil => intro τ _; rfl
        | cons k ws ih =>
          intro τ hk
          unfold wipe
          rw [ih (fun z => hk (List.mem_cons_of_mem _ z)), List.set_comm]
          exact fun z => hk (by rw [z]; exact List.mem_cons_self ..)
      rw [go hj, List.set_set]
theorem wipe_setVs {vs : List Nat} : ∀ {is : List Nat} {us : List V} {σ : L2.St}, (∀ i ∈ is, i ∈ vs) → wipe (setVs is us σ) vs = wipe σ vs
  | [], _, _, _ => rfl
  | i :: is, [], _, _ => rfl
  | i :: is, u :: us, σ, h => by
    show wipe (setVs is us (σ.set i (some u))) vs = _
    rw [wipe_setVs fun j hj => h j (List.mem_cons_of_mem _ hj), wipe_set (h i (List.mem_cons_self ..))]
theorem setVs_out {j : Nat} : ∀ {is : List Nat} {us : List V} {σ : L2.St}, j ∉ is → (setVs is us σ)[j]? = σ[j]?
  | [], _, _, _ => rfl
  | i :: is, [], _, _ => rfl
  | i :: is, u :: us, σ, h => by
    show (setVs is us (σ.set i (some u)))[j]? = _
    rw [setVs_out fun z => h (List.mem_cons_of_mem _ z), List.getElem?_set_ne fun z => h (by rw [z]; exact List.mem_cons_self ..)]
/-- a target takes a value -/
theorem gT_ok {T : Tg} {x : V} {d : D} {Q : L2.St → Hp → Prop} (e : EnvOk K M A σ H env) (hm : ∀ i ∈ T.slots, i ∉ M) (r : Rep K H A x d) (h : tgE T d env = some env1)
    (k : ∀ σ', EnvOk K M A σ' H env1 → (∀ vs, (∀ i ∈ T.slots, i ∈ vs) → wipe σ' vs = wipe σ vs) → (∀ i, i ∉ T.slots → σ'[i]? = σ[i]?) → Q σ' H) : gT K T x σ H Q := by
  cases T with
  | nm i =>
    simp only [tgE, Option.some.injEq] at h
    subst h
    exact k _ (e.set (hm i (List.mem_cons_self ..)) r) (fun vs hv => wipe_set (hv i (List.mem_cons_self ..))) fun j hj => List.getElem?_set_ne fun z => hj (by rw [← z]; exact List.mem_cons_self ..)
  | tp is =>
    cases r with
    | @tup a xs ds h1 r1 z1 =>
      obtain ⟨e2, l⟩ := e.sets hm r1 h
      exact ⟨a, xs, rfl, h1, l, gSeq_ok l (k _ e2 (fun vs hv => wipe_setVs hv) fun j hj => setVs_out hj)⟩
    | _ => cases h
theorem EnvOk.wipe : ∀ {vs : List Nat}, EnvOk K M A σ H env → EnvOk K M A (wipe σ vs) H (wipeE env vs)
  | [], e => e
  | v :: vs, e => by
    have e1 := EnvOk.wipe (vs := vs) e
    refine ⟨by unfold L2.wipe wipeE; rw [List.length_set, List.length_set]; exact e1.len, fun j x h => ?_⟩
    unfold wipeE at h
    unfold L2.wipe
    by_cases hj : v = j
    · subst hj
      exfalso
      by_cases hl : v < (wipeE env vs).length
      · rw [List.getElem?_set_self hl] at h; cases h
      · rw [List.getElem?_eq_none (by rw [List.length_set]; omega)] at h; cases h
    · rw [List.getElem?_set_ne hj] at h ⊢
      exact e1.at_ j x h
theorem EnvOk.alw {M' : List Nat} (hM : ∀ i, i ∉ M' → i ∈ M → ∀ d v, env[i]? = some (some d) → σ[i]? = some (some v) → Rep K H A' v d) (hA : ∀ a o, H a = some o → A a → A' a) (e : EnvOk K M A σ H env) : EnvOk K M' A' σ H env := by
  refine ⟨e.len, fun i d h => ?_⟩
  obtain ⟨v, h1, h2, h3⟩ := e.at_ i d h
  refine ⟨v, h1, h2, fun hi => ?_⟩
  by_cases hm : i ∈ M
  · exact hM i hi hm d v h h1
  · exact (h3 hm).alw hA
end

/-! ### what is walked -/
/-- the walk J gives these items, wherever the allowed places are as in H1 -/
def Wk (K : PySem.W.Frag) (J : It) (H1 : Hp) (A : Addr → Prop) (xs : List D) : Prop := ∀ (i : Nat) (H : Hp), Keep A H1 H →
  (i < xs.length → J.go i H ∧ ∀ v H', J.yld i H v H' → Same H H' ∧ ∃ d, xs[i]? = some d ∧ Rep K H' A v d) ∧ (xs.length ≤ i → J.stop i H)
def tIt (K : PySem.W.Frag) (W : WC) (M : List Nat) (k : IK) (m : Env → R (List D)) (t : Bool) : TI := fun σ H R => ∃ env A, OkA H A ∧ EnvOk K M A σ H env ∧ match (m env).bind (D.itD k) with
  | .ok xs => ∀ J H1, Same H H1 → xs.length ≤ SZ → (∀ A', (∀ a o, H1 a = some o → RA t A a → A' a) → Wk K J H1 A' xs) → R J H1
  | .exc c => ∀ H', Same H H' → W c σ H'
  | .bad => False
section
variable {X : Cx} {W : WC} {M : List Nat} {C : Nat → List D → R D} {G : List D} {fr t : Bool} {tg : Expr}
theorem wk_list {K : PySem.W.Frag} {H1 : Hp} {A : Addr → Prop} {a : Addr} {vs : List V} {xs : List D} (h : H1 a = some (.lst vs)) (ha : A a) (r : RepL K H1 A vs xs) : Wk K (Itl K a) H1 A xs := fun i H k => by
  have h' : H a = some (.lst vs) := k.own _ _ ha h
  have r' := RepL.keep k (fun _ z => z) r
  refine ⟨fun hi => ?_, fun hi => ⟨vs, .of h', by rw [r.length]; exact hi⟩⟩
  obtain ⟨v, hv, rv⟩ := r'.get (show xs[i]? = some xs[i] from List.getElem?_eq_getElem hi)
  refine ⟨⟨vs, v, .of h', hv⟩, fun w H' y => ?_⟩
  obtain ⟨e, y⟩ := y
  subst e
  have e2 : v = w := Option.some.inj (hv.symm.trans (y vs (.of h')))
  subst e2
  exact ⟨Same.refl _, _, List.getElem?_eq_getElem hi, rv⟩
theorem wk_tup {K : PySem.W.Frag} {H1 : Hp} {A : Addr → Prop} {a : Addr} {vs : List V} {xs : List D} (h : SqT K H1 a vs) (r : RepL K H1 A vs xs) : Wk K (Itt K a) H1 A xs := fun i H k => by
  have h' := k.sqT h
  have r' := RepL.keep k (fun _ z => z) r
  refine ⟨fun hi => ?_, fun hi => ⟨vs, h', by rw [r.length]; exact hi⟩⟩
  obtain ⟨v, hv, rv⟩ := r'.get (show xs[i]? = some xs[i] from List.getElem?_eq_getElem hi)
  refine ⟨⟨vs, v, h', hv⟩, fun w H' y => ?_⟩
  obtain ⟨e, y⟩ := y
  subst e
  have e2 : v = w := Option.some.inj (hv.symm.trans (y vs h'))
  subst e2
  exact ⟨Same.refl _, _, List.getElem?_eq_getElem hi, rv⟩
theorem enum_len : ∀ (n : Nat) (xs : List D), (D.enumFrom n xs).length = xs.length
  | _, [] => rfl
  | n, x :: xs => by simp [D.enumFrom, enum_len (n + 1) xs]
theorem enum_at : ∀ {n i : Nat} {xs : List D} {x : D}, xs[i]? = some x → (D.enumFrom n xs)[i]? = some (.tup [.int ((n + i : Nat) : Int), x])
  | _, _, [], _, h => by simp at h
  | n, 0, y :: ys, x, h => by
    simp only [List.getElem?_cons_zero, Option.some.injEq] at h
    subst h
    simp [D.enumFrom]
  | n, i + 1, y :: ys, x, h => by
    simp only [D.enumFrom, List.getElem?_cons_succ] at h ⊢
    rw [enum_at h, Nat.add_assoc, Nat.add_comm 1 i]
theorem pairRep {K : PySem.W.Frag} {H : Hp} {A : Addr → Prop} {T : Addr} {u v : V} {d e : D} (n : H T = none) (r1 : Rep K H A u d) (r2 : Rep K H A v e) : Rep K (upd H T (.tup [u, v])) A (.ref T) (.tup [d, e]) :=
  .newT n (.cons r1 (.cons r2 .nil)) (show 2 ≤ SZ by decide)
theorem wk_enum {K : PySem.W.Frag} {H1 : Hp} {A : Addr → Prop} {a : Addr} {vs : List V} {xs : List D} (h : H1 a = some (.lst vs)) (ha : A a) (r : RepL K H1 A vs xs) : Wk K (Ite K a) H1 A (D.enumFrom 0 xs) := fun i H k => by
  have h' : H a = some (.lst vs) := k.own _ _ ha h
  have r' := RepL.keep k (fun _ z => z) r
  rw [enum_len]
  refine ⟨fun hi => ?_, fun hi => ⟨vs, .of h', by rw [r.length]; exact hi⟩⟩
  have hx : xs[i]? = some xs[i] := List.getElem?_eq_getElem hi
  obtain ⟨v, hv, rv⟩ := r'.get hx
  refine ⟨⟨vs, v, .of h', hv⟩, fun w H' y => ?_⟩
  obtain ⟨T, x, e1, n, e2, y⟩ := y
  subst e1 e2
  have e2 : v = x := Option.some.inj (hv.symm.trans (y vs (.of h')))
  subst e2
  refine ⟨same_upd n, _, enum_at hx, ?_⟩
  rw [Nat.zero_add]
  exact pairRep n (.int _) rv
theorem wk_enumT {K : PySem.W.Frag} {H1 : Hp} {A : Addr → Prop} {a : Addr} {vs : List V} {xs : List D} (h : SqT K H1 a vs) (r : RepL K H1 A vs xs) : Wk K (IteT K a) H1 A (D.enumFrom 0 xs) := fun i H k => by
  have h' := k.sqT h
  have r' := RepL.keep k (fun _ z => z) r
  rw [enum_len]
  refine ⟨fun hi => ?_, fun hi => ⟨vs, h', by rw [r.length]; exact hi⟩⟩
  have hx : xs[i]? = some xs[i] := List.getElem?_eq_getElem hi
  obtain ⟨v, hv, rv⟩ := r'.get hx
  refine ⟨⟨vs, v, h', hv⟩, fun w H' y => ?_⟩
  obtain ⟨T, x, e1, n, e2, y⟩ := y
  subst e1 e2
  have e2 : v = x := Option.some.inj (hv.symm.trans (y vs h'))
  subst e2
  refine ⟨same_upd n, _, enum_at hx, ?_⟩
  rw [Nat.zero_add]
  exact pairRep n (.int _) rv
theorem zip_at : ∀ {i : Nat} {xs ys : List D}, i < (D.zipD xs ys).length → ∃ x y, xs[i]? = some x ∧ ys[i]? = some y ∧ (D.zipD xs ys)[i]? = some (.tup [x, y])
  | i, [], _, h => by simp [D.zipD] at h
  | i, _ :: _, [], h => by simp [D.zipD] at h
  | 0, x :: xs, y :: ys, _ => ⟨x, y, rfl, rfl, rfl⟩
  | i + 1, x :: xs, y :: ys, h => by
    obtain ⟨u, v, a, b, c⟩ := zip_at (i := i) (xs := xs) (ys := ys) (by simpa [D.zipD] using h)
    exact ⟨u, v, by simpa using a, by simpa using b, by simpa [D.zipD] using c⟩
theorem zip_le : ∀ {i : Nat} {xs ys : List D}, (D.zipD xs ys).length ≤ i → xs.length ≤ i ∨ ys.length ≤ i
  | i, [], _, h => .inl (Nat.zero_le _)
  | i, _ :: _, [], h => .inr (Nat.zero_le _)
  | 0, x :: xs, y :: ys, h => by simp [D.zipD] at h
  | i + 1, x :: xs, y :: ys, h => by
    rcases zip_le (i := i) (xs := xs) (ys := ys) (by simpa [D.zipD] using h) with h | h
    · exact .inl (by simpa using h)
    · exact .inr (by simpa using h)
theorem zip_lenle : ∀ {xs ys : List D}, (D.zipD xs ys).length ≤ xs.length
  | [], _ => by simp [D.zipD]
  | _ :: _, [] => by simp [D.zipD]
  | x :: xs, y :: ys => by simpa [D.zipD] using zip_lenle (xs := xs) (ys := ys)
theorem wk_zip {K : PySem.W.Frag} {H1 : Hp} {A : Addr → Prop} {a b : Addr} {vs us : List V} {xs ys : List D} (h : H1 a = some (.lst vs)) (ha : A a) (r : RepL K H1 A vs xs) (h2 : H1 b = some (.lst us)) (hb : A b) (r2 : RepL K H1 A us ys) : Wk K (Itz K a b) H1 A (D.zipD xs ys) := fun i H k => by
  have h' : H a = some (.lst vs) := k.own _ _ ha h
  have h2' : H b = some (.lst us) := k.own _ _ hb h2
  have r' := RepL.keep k (fun _ z => z) r
  have r2' := RepL.keep k (fun _ z => z) r2
  refine ⟨fun hi => ?_, fun hi => ⟨vs, us, .of h', .of h2', by rw [r.length, r2.length]; exact zip_le hi⟩⟩
  obtain ⟨x, y, q1, q2, q3⟩ := zip_at hi
  obtain ⟨v, hv, rv⟩ := r'.get q1
  obtain ⟨u, hu, ru⟩ := r2'.get q2
  refine ⟨⟨vs, us, v, u, .of h', .of h2', hv, hu⟩, fun w H' yy => ?_⟩
  obtain ⟨T, x', y', e1, n, e2, y1, y2⟩ := yy
  subst e1 e2
  have e2 : v = x' := Option.some.inj (hv.symm.trans (y1 vs (.of h')))
  have e3 : u = y' := Option.some.inj (hu.symm.trans (y2 us (.of h2')))
  subst e2 e3
  exact ⟨same_upd n, _, q3, pairRep n rv ru⟩
theorem wk_zipT {K : PySem.W.Frag} {H1 : Hp} {A : Addr → Prop} {a b : Addr} {vs us : List V} {xs ys : List D} (h : SqT K H1 a vs) (r : RepL K H1 A vs xs) (h2 : SqT K H1 b us) (r2 : RepL K H1 A us ys) : Wk K (RZ.ItzT K a b) H1 A (D.zipD xs ys) := fun i H k => by
  have h' := k.sqT h
  have h2' := k.sqT h2
  have r' := RepL.keep k (fun _ z => z) r
  have r2' := RepL.keep k (fun _ z => z) r2
  refine ⟨fun hi => ?_, fun hi => ⟨vs, us, h', h2', by rw [r.length, r2.length]; exact zip_le hi⟩⟩
  obtain ⟨x, y, q1, q2, q3⟩ := zip_at hi
  obtain ⟨v, hv, rv⟩ := r'.get q1
  obtain ⟨u, hu, ru⟩ := r2'.get q2
  refine ⟨⟨vs, us, v, u, h', h2', hv, hu⟩, fun w H' yy => ?_⟩
  obtain ⟨T, x', y', e1, n, e2, y1, y2⟩ := yy
  subst e1 e2
  have e2 : v = x' := Option.some.inj (hv.symm.trans (y1 vs h'))
  have e3 : u = y' := Option.some.inj (hu.symm.trans (y2 us h2'))
  subst e2 e3
  exact ⟨same_upd n, _, q3, pairRep n rv ru⟩
theorem range_len : ∀ (lo : Int) (n : Nat), (D.rangeD lo n).length = n
  | _, 0 => rfl
  | lo, n + 1 => by simp [D.rangeD, range_len (lo + 1) n]
theorem range_at : ∀ {lo : Int} {n i : Nat}, i < n → (D.rangeD lo n)[i]? = some (.int (lo + i))
  | _, 0, _, h => by omega
  | lo, n + 1, 0, _ => by simp [D.rangeD]
  | lo, n + 1, i + 1, h => by
    simp only [D.rangeD, List.getElem?_cons_succ]
    rw [range_at (by omega)]
    congr 2
    omega
theorem wk_range {K : PySem.W.Frag} {H1 : Hp} {A : Addr → Prop} {lo : Int} {n : Nat} : Wk K (Itr lo n) H1 A (D.rangeD lo n) := fun i H k => by
  rw [range_len]
  refine ⟨fun hi => ⟨hi, fun v H' y => ?_⟩, fun hi => hi⟩
  obtain ⟨e, y⟩ := y
  subst e y
  exact ⟨Same.refl _, _, range_at hi, .int _⟩
theorem RepL.toA {K : PySem.W.Frag} {H : Hp} {A A' : Addr → Prop} {vs : List V} {ds : List D} (h : ∀ a o, H a = some o → A a → A' a) (r : RepL K H A vs ds) : RepL K H A' vs ds := RepL.alw h r
end
end B

set_option maxHeartbeats 1000000
/-! GenM: iterators, comprehensions. -/
namespace B
open PySem PySem.Spec PyProof.Rows L2
section
variable {X : Cx} {W : WC} {M : List Nat} {C : Nat → List D → R D} {G : List D} {fr t : Bool} {tg : Expr}
/-- a list or a tuple -/
theorem pi_sq {l : Expr} {tl : TE} (hl : PE X l tl) : PI X tg l (fun σ H R => tl σ H fun x H1 => ∃ a, x = .ref a ∧ (((∃ xs, SqL X.K H1 a xs) ∧ R (Itl X.K a) H1) ∨ ((∃ xs, SqT X.K H1 a xs) ∧ R (Itt X.K a) H1))) := by
  constructor
  intro pins s σ H R I h
  refine thn (hl.run pins s σ H _ I h) fun v s1 ⟨x, H1, I1, r1, a, e, q⟩ => ?_
  subst e
  cases r1
  have new : ∀ b ∈ [s1.heap.objs.size], FpOk X pins H1 b := fun b hb => by
    rw [List.mem_singleton.mp hb]
    exact I1.fpOk (Nat.le_refl _) (I1.hok.fresh (Nat.le_refl _))
  rcases q with ⟨⟨xs, hq⟩, q⟩ | ⟨⟨xs, hq⟩, q⟩
  · obtain ⟨its, rv, p, hz⟩ := I1.list hq
    exact wpAny_pyIter_list p.isList ⟨s1.heap.objs.size, [s1.heap.objs.size], _, _, H1, rfl, I1.kept (t' := s1.toks) fun b o e => Heap.get?_push_of_some _ e, turn_list a _, ⟨_, Heap.get?_push_size _ rfl, rfl, rfl⟩, new, q⟩
  · obtain ⟨its, rv, p, hz⟩ := I1.tuple hq
    exact wpAny_pyIter_tuple (show s1.heap.IsTuple a its.toArray from p) ⟨s1.heap.objs.size, [s1.heap.objs.size], _, _, H1, rfl, I1.kept (t' := s1.toks) fun b o e => Heap.get?_push_of_some _ e, turn_tuple a _, ⟨_, Heap.get?_push_size _ rfl, rfl, rfl⟩, new, q⟩
/-- enumerate of a list or a tuple -/
theorem pi_en {e : Expr} {ta : TA} {p pos tpos : Pos} {elts : List Expr} {kk : Nat} (hg : Gl X "enumerate") (hm : X.mg "enumerate" = none) (ha : PA X [e] ta) (hs : starEach [e] X.env = [(false, eval e X.env)]) :
    PI X (.Tuple elts kk tpos) (.Call (.Name "enumerate" p) [e] [] pos) (fun σ H R => ta σ H fun vs H1 => ∃ a, vs = [.ref a] ∧ (((∃ xs, SqL X.K H1 a xs) ∧ R (Ite X.K a) H1) ∨ ((∃ xs, SqT X.K H1 a xs) ∧ R (IteT X.K a) H1))) := by
  constructor
  intro pins s σ H R I h
  refine Call_ (ld_blt I hg hm boot_enumerate (PyProof.Rows.callWith_type1 (thn (ha.run pos pins s σ H _ I h) fun us s1 ⟨vs, H1, I1, r1, a, ex, q⟩ => ?_) hs rfl))
  subst ex
  rw [Vals.ref1 r1]
  have new : ∀ b ∈ [s1.heap.objs.size + 1, s1.heap.objs.size], FpOk X pins H1 b := fun b hb => by
    have hle : s1.heap.objs.size ≤ b := by
      rcases List.mem_cons.mp hb with rfl | hb
      · exact Nat.le_add_right _ _
      · rw [List.mem_singleton.mp hb]; exact Nat.le_refl _
    exact I1.fpOk hle (I1.hok.fresh hle)
  rcases q with ⟨⟨xs, hq⟩, q⟩ | ⟨⟨xs, hq⟩, q⟩
  · obtain ⟨its, rv, p', hz⟩ := I1.list hq
    refine call_enumerate_list p'.isList fun h' he hit hsz hk => wpAny_pyIter_enum he ?_
    exact ⟨s1.heap.objs.size + 1, _, _, _, H1, rfl, I1.kept (t' := s1.toks) hk, turn_enum a (s1.heap.objs.size + 1) s1.heap.objs.size, ⟨⟨.none, he⟩, hit, Nat.succ_ne_self _⟩, new, q⟩
  · obtain ⟨its, rv, p', hz⟩ := I1.tuple hq
    refine call_enumT (show s1.heap.IsTuple a its.toArray from p') fun h' he hit hsz hk => wpAny_pyIter_enum he ?_
    exact ⟨s1.heap.objs.size + 1, _, _, _, H1, rfl, I1.kept (t' := s1.toks) hk, turn_enumT a (s1.heap.objs.size + 1) s1.heap.objs.size, ⟨⟨.none, he⟩, hit, Nat.succ_ne_self _⟩, new, q⟩
abbrev SI (X : Cx) (W : WC) (M : List Nat) (C : Nat → List D → R D) (G : List D) (t : Bool) (tg iter : Expr) (k : IK) (src : DEs) : Prop := PI X tg iter (tIt X.K W M k (evs C G src) t)
theorem evs_one {de : DE} {env : Env} : evs C G (.cons de .nil) env = (ev C G de env).bind fun d => .ok [d] := by
  simp only [evs]
  cases ev C G de env <;> rfl
theorem evs_two {a b : DE} {env : Env} : evs C G (.cons a (.cons b .nil)) env = (ev C G a env).bind fun x => (ev C G b env).bind fun y => .ok [x, y] := by
  simp only [evs]
  cases ev C G a env with
  | ok d => cases ev C G b env <;> rfl
  | _ => rfl
theorem si_seq {e : Expr} {de : DE} (he : SE X W M C G false t e de) : SI X W M C G t tg e .seq (.cons de .nil) :=
  PI.imp (pi_sq he) fun σ H R0 ⟨env, A, hA, hE, h⟩ => by
    rw [evs_one] at h
    refine ⟨env, A, hA, hE, ?_⟩
    cases e1 : ev C G de env with
    | exc c => rw [e1] at h; exact h
    | bad => rw [e1] at h; exact h
    | ok d =>
      rw [e1] at h
      intro v H1 s1 r1 _
      cases r1 with
      | @lst a vs ds h1 a1 r1 z1 => exact ⟨a, rfl, .inl ⟨⟨vs, .of h1⟩, h _ H1 s1 z1 fun A' hA' => wk_list h1 (hA' _ _ h1 a1) (r1.toA hA')⟩⟩
      | @tup a vs ds h1 r1 z1 => exact ⟨a, rfl, .inr ⟨⟨vs, h1⟩, h _ H1 s1 z1 fun A' hA' => wk_tup h1 (r1.toA hA')⟩⟩
      | _ => exact h.elim
theorem si_rng1 {e : Expr} {de : DE} {p pos : Pos} (hg : Gl X "range") (hm : X.mg "range" = none) (he : SEs X W M C G true [e] (.cons de .nil)) (hs : starEach [e] X.env = [(false, eval e X.env)]) : SI X W M C G t tg (.Call (.Name "range" p) [e] [] pos) .rng1 (.cons de .nil) :=
  PI.imp (pi_range1 hg hm he hs) fun σ H R0 ⟨env, A, hA, hE, h⟩ => by
    refine ⟨env, A, hA, hE, ?_⟩
    cases e1 : evs C G (.cons de .nil) env with
    | exc c => rw [e1] at h; exact h
    | bad => rw [e1] at h; exact h
    | ok ds =>
      rw [e1] at h
      intro vs H1 s1 r1
      have l := evs_len e1
      match ds, r1, h, l with
      | [d], r1, h, _ =>
        obtain ⟨v, rfl, r⟩ := r1.one
        cases r with
        | int n =>
          simp only [R.bind_ok, D.itD] at h
          by_cases hk : (D.fits62 n && decide (n ≤ SZ)) = true
          · rw [if_pos hk] at h
            simp only [D.fits62, Bool.and_eq_true, decide_eq_true_eq] at hk
            refine ⟨n, rfl, hk.1.1, hk.1.2, h _ H1 s1 ?_ fun A' hA' => wk_range⟩
            rw [range_len]
            have := hk.2
            omega
          · rw [if_neg hk] at h; exact h.elim
        | _ => exact h.elim
theorem si_rng2 {e f : Expr} {de df : DE} {p pos : Pos} (hg : Gl X "range") (hm : X.mg "range" = none) (he : SEs X W M C G true [e, f] (.cons de (.cons df .nil))) (hs : starEach [e, f] X.env = [(false, eval e X.env), (false, eval f X.env)]) (hs2 : starEach [f] X.env = [(false, eval f X.env)]) : SI X W M C G t tg (.Call (.Name "range" p) [e, f] [] pos) .rng2 (.cons de (.cons df .nil)) :=
  PI.imp (pi_range2 hg hm he hs hs2) fun σ H R0 ⟨env, A, hA, hE, h⟩ => by
    refine ⟨env, A, hA, hE, ?_⟩
    cases e1 : evs C G (.cons de (.cons df .nil)) env with
    | exc c => rw [e1] at h; exact h
    | bad => rw [e1] at h; exact h
    | ok ds =>
      rw [e1] at h
      intro vs H1 s1 r1
      have l := evs_len e1
      match ds, r1, h, l with
      | [d, d'], r1, h, _ =>
        obtain ⟨v, u, rfl, r, r'⟩ := r1.two
        cases r with
        | int a => cases r' with
          | int b =>
            simp only [R.bind_ok, D.itD] at h
            by_cases hk : (D.fits62 a && D.fits62 b && decide (b - a ≤ SZ)) = true
            · rw [if_pos hk] at h
              simp only [D.fits62, Bool.and_eq_true, decide_eq_true_eq] at hk
              refine ⟨a, b, rfl, ⟨hk.1.1.1, hk.1.1.2, hk.1.2.1, hk.1.2.2⟩, h _ H1 s1 ?_ fun A' hA' => wk_range⟩
              rw [range_len]
              have := hk.2
              omega
            · rw [if_neg hk] at h; exact h.elim
          | _ => exact h.elim
        | _ => cases r' <;> exact h.elim
theorem si_enu {e : Expr} {de : DE} {p pos tpos : Pos} {elts : List Expr} {kk : Nat} (hg : Gl X "enumerate") (hm : X.mg "enumerate" = none) (he : SEs X W M C G t [e] (.cons de .nil)) (hs : starEach [e] X.env = [(false, eval e X.env)]) : SI X W M C G t (.Tuple elts kk tpos) (.Call (.Name "enumerate" p) [e] [] pos) .enu (.cons de .nil) :=
  PI.imp (pi_en hg hm he hs) fun σ H R0 ⟨env, A, hA, hE, h⟩ => by
    refine ⟨env, A, hA, hE, ?_⟩
    cases e1 : evs C G (.cons de .nil) env with
    | exc c => rw [e1] at h; exact h
    | bad => rw [e1] at h; exact h
    | ok ds =>
      rw [e1] at h
      intro vs H1 s1 r1
      have l := evs_len e1
      match ds, r1, h, l with
      | [d], r1, h, _ =>
        obtain ⟨v, rfl, r⟩ := r1.one
        cases r with
        | @lst a vs ds h1 a1 rr z1 => exact ⟨a, rfl, .inl ⟨⟨vs, .of h1⟩, h _ H1 s1 (by rw [enum_len]; exact z1) fun A' hA' => wk_enum h1 (hA' _ _ h1 a1) (rr.toA hA')⟩⟩
        | @tup a vs ds h1 rr z1 => exact ⟨a, rfl, .inr ⟨⟨vs, h1⟩, h _ H1 s1 (by rw [enum_len]; exact z1) fun A' hA' => wk_enumT h1 (rr.toA hA')⟩⟩
        | _ => exact h.elim
theorem si_zip {e f : Expr} {de df : DE} {p pos tpos : Pos} {elts : List Expr} {kk : Nat} (hg : Gl X "zip") (hm : X.mg "zip" = none) (he : SEs X W M C G t [e, f] (.cons de (.cons df .nil))) (hs : starEach [e, f] X.env = (false, eval e X.env) :: starEach [f] X.env) (hpl : (backTo pos (starEach [f] X.env)).any (·.1) = false) : SI X W M C G t (.Tuple elts kk tpos) (.Call (.Name "zip" p) [e, f] [] pos) .zip (.cons de (.cons df .nil)) :=
  PI.imp (RZ.pi_zipA hg hm he hs hpl) fun σ H R0 ⟨env, A, hA, hE, h⟩ => by
    refine ⟨env, A, hA, hE, ?_⟩
    cases e1 : evs C G (.cons de (.cons df .nil)) env with
    | exc c => rw [e1] at h; exact h
    | bad => rw [e1] at h; exact h
    | ok ds =>
      rw [e1] at h
      intro vs H1 s1 r1
      have l := evs_len e1
      match ds, r1, h, l with
      | [d, d'], r1, h, _ =>
        obtain ⟨v, u, rfl, r, r'⟩ := r1.two
        cases r with
        | @lst a vs ds h1 a1 rr z1 => cases r' with
          | @lst b us es h2 a2 r2 z2 => exact ⟨a, b, vs, us, rfl, .inl ⟨.of h1, .of h2, h _ H1 s1 (Nat.le_trans zip_lenle z1) fun A' hA' => wk_zip h1 (hA' _ _ h1 a1) (rr.toA hA') h2 (hA' _ _ h2 a2) (r2.toA hA')⟩⟩
          | _ => exact h.elim
        | @tup a vs ds h1 rr z1 => cases r' with
          | @tup b us es h2 r2 z2 => exact ⟨a, b, vs, us, rfl, .inr ⟨h1, h2, h _ H1 s1 (Nat.le_trans zip_lenle z1) fun A' hA' => wk_zipT h1 (rr.toA hA') h2 (r2.toA hA')⟩⟩
          | _ => exact h.elim
        | _ => cases r' <;> exact h.elim
end

/-! ### comprehensions -/
section
variable {f : D → R (Option D)}
theorem lcE_len : ∀ {xs r : List D}, lcE f xs = .ok r → r.length ≤ xs.length
  | [], r, h => by simp only [lcE, R.ok.injEq] at h; subst h; exact Nat.le_refl _
  | x :: xs, r, h => by
    simp only [lcE] at h
    cases e : f x with
    | exc c => rw [e] at h; cases h
    | bad => rw [e] at h; cases h
    | ok o =>
      rw [e, R.bind_ok] at h
      cases e2 : lcE f xs with
      | exc c => rw [e2] at h; cases h
      | bad => rw [e2] at h; cases h
      | ok q =>
        rw [e2, R.bind_ok] at h
        have := lcE_len e2
        injection h with h
        subst h
        cases o <;> simp <;> omega
theorem lcE_cons {x : D} {xs r : List D} (h : lcE f (x :: xs) = .ok r) : ∃ o q, f x = .ok o ∧ lcE f xs = .ok q ∧ r = (match o with | some d => d :: q | none => q) := by
  simp only [lcE] at h
  cases e : f x with
  | exc c => rw [e] at h; cases h
  | bad => rw [e] at h; cases h
  | ok o =>
    rw [e, R.bind_ok] at h
    cases e2 : lcE f xs with
    | exc c => rw [e2] at h; cases h
    | bad => rw [e2] at h; cases h
    | ok q =>
      rw [e2, R.bind_ok] at h
      injection h with h
      exact ⟨o, q, rfl, rfl, h.symm⟩
theorem lcE_all {P : D → Prop} (hf : ∀ x d, f x = .ok (some d) → P d) : ∀ {xs r : List D}, lcE f xs = .ok r → ∀ d ∈ r, P d
  | [], r, h => by simp only [lcE, R.ok.injEq] at h; subst h; intro d hd; cases hd
  | x :: xs, r, h => by
    obtain ⟨o, q, e1, e2, e3⟩ := lcE_cons h
    have ih := lcE_all hf e2
    subst e3
    cases o with
    | none => exact ih
    | some d0 =>
      intro d hd
      rcases List.mem_cons.mp hd with rfl | hd
      · exact hf _ _ e1
      · exact ih d hd
theorem lcE_noexc (hf : ∀ x c, f x ≠ .exc c) : ∀ {xs : List D} {c : Nat}, lcE f xs ≠ .exc c
  | [], c, h => by cases h
  | x :: xs, c, h => by
    simp only [lcE] at h
    cases e : f x with
    | exc c => exact hf _ _ e
    | bad => rw [e] at h; cases h
    | ok o =>
      rw [e, R.bind_ok] at h
      cases e2 : lcE f xs with
      | exc c => exact lcE_noexc hf e2
      | bad => rw [e2] at h; cases h
      | ok q => rw [e2] at h; cases h
end
theorem immL_of : ∀ {xs : List D}, (∀ d ∈ xs, d.imm = true) → D.immL xs = true
  | [], _ => rfl
  | x :: xs, h => by
    simp only [D.immL, Bool.and_eq_true]
    exact ⟨h x (List.mem_cons_self ..), immL_of fun d hd => h d (List.mem_cons_of_mem _ hd)⟩
theorem immL_at : ∀ {xs : List D}, D.immL xs = true → ∀ d ∈ xs, d.imm = true
  | [], _, d, h => by cases h
  | x :: xs, h, d, hd => by
    simp only [D.immL, Bool.and_eq_true] at h
    rcases List.mem_cons.mp hd with rfl | hd
    · exact h.1
    · exact immL_at h.2 d hd
theorem nox_ok_of {α : Type} {r : R α} {a : α} (h : r.nox = .ok a) : r = .ok a := by cases r <;> first | exact h | cases h
abbrev W0 : WC := fun _ _ _ => False
/-- what an item of a comprehension gives -/
def lcF (C : Nat → List D → R D) (G : List D) (m : Bool) (elt : DE) (T : Tg) (cond : DEs) (env0 : Env) : D → R (Option D) := fun x => match tgE T x env0 with
  | none => .bad
  | some env1 => (evc C G cond env1).nox.bind fun c => if c then (ev C G elt env1).nox.bind fun d => (if m && !d.imm then .bad else .ok (some d)) else .ok none
theorem lcF_ok {C : Nat → List D → R D} {G : List D} {m : Bool} {elt : DE} {T : Tg} {cond : DEs} {env0 : Env} {x : D} {o : Option D} (h : lcF C G m elt T cond env0 x = .ok o) : ∃ env1, tgE T x env0 = some env1 ∧ ((evc C G cond env1 = .ok false ∧ o = none) ∨ (evc C G cond env1 = .ok true ∧ ∃ d, ev C G elt env1 = .ok d ∧ o = some d ∧ (m = true → d.imm = true))) := by
  unfold lcF at h
  split at h
  · cases h
  · rename_i env1 e1
    refine ⟨env1, e1, ?_⟩
    cases e2 : evc C G cond env1 with
    | exc c => rw [e2] at h; cases h
    | bad => rw [e2] at h; cases h
    | ok c =>
      rw [e2] at h
      cases c with
      | false => simp at h; exact .inl ⟨rfl, h.symm⟩
      | true =>
        refine .inr ⟨rfl, ?_⟩
        cases e3 : ev C G elt env1 with
        | exc c => rw [e3] at h; simp at h
        | bad => rw [e3] at h; simp at h
        | ok d =>
          rw [e3] at h
          simp only [R.nox_ok, R.bind_ok, if_true] at h
          split at h
          · cases h
          · rename_i hk
            injection h with h
            refine ⟨d, rfl, h.symm, fun hm => ?_⟩
            simpa [hm] using hk
theorem lcF_noexc {C : Nat → List D → R D} {G : List D} {m : Bool} {elt : DE} {T : Tg} {cond : DEs} {env0 : Env} (x : D) (c : Nat) : lcF C G m elt T cond env0 x ≠ .exc c := by
  intro h
  unfold lcF at h
  split at h
  · cases h
  · rename_i env1 e1
    cases e2 : evc C G cond env1 with
    | exc c => rw [e2] at h; cases h
    | bad => rw [e2] at h; cases h
    | ok c =>
      rw [e2] at h
      cases c with
      | false => simp at h
      | true =>
        cases e3 : ev C G elt env1 with
        | exc c => rw [e3] at h; simp at h
        | bad => rw [e3] at h; simp at h
        | ok d =>
          rw [e3] at h
          simp only [R.nox_ok, R.bind_ok, if_true] at h
          split at h <;> cases h
/-- the tests of a comprehension -/
abbrev SCs (X : Cx) (W : WC) (M : List Nat) (C : Nat → List D → R D) (G : List D) (ifs : List Expr) (cond : DEs) : Prop := PTs X ifs (tB' X.K W M (evc C G cond))
theorem PTs.imp {X : Cx} {e : List Expr} {t t' : TT} (h : PTs X e t) (i : ∀ σ H Q, t' σ H Q → t σ H Q) : PTs X e t' := ⟨fun pins s σ H Q I q => h.run pins s σ H Q I (i σ H Q q)⟩
section
variable {X : Cx} {W : WC} {M : List Nat} {C : Nat → List D → R D} {G : List D} {fr t : Bool} {tg : Expr}
theorem scs_nil : SCs X W M C G [] .nil := PTs.imp pts_nil fun σ H Q ⟨env, A, hA, hE, h⟩ => by
  simp only [evc] at h
  exact h.now
theorem scs_one {e : Expr} {de : DE} (he : ST X W M C G e de) : SCs X W M C G [e] (.cons de .nil) := PTs.imp (pts_one he) fun σ H Q ⟨env, A, hA, hE, h⟩ => by
  simp only [evc] at h
  refine ⟨env, A, hA, hE, ?_⟩
  dsimp only
  cases e1 : ev C G de env with
  | exc c => rw [e1] at h; exact h
  | bad => rw [e1] at h; exact h
  | ok d =>
    rw [e1, R.bind_ok] at h
    rw [R.bind_ok]
    cases e2 : d.truth with
    | exc c => rw [e2] at h; exact h
    | bad => rw [e2] at h; exact h
    | ok b =>
      rw [e2, R.bind_ok] at h
      cases b <;> exact h
theorem lc_loop {T : Tg} {k : IK} {src cond : DEs} {de : DE} {vs : List Nat} {m t0 : Bool} {σ : L2.St} {H : Hp} {Q : VK} (ht0 : m = false → t0 = false) (hT : ∀ i ∈ T.slots, i ∈ vs) (hTM : m = false → ∀ i ∈ T.slots, i ∉ M) {env : Env} {A : Addr → Prop} (hA : OkA H A) (hE : EnvOk X.K M A σ H env) (h : Pst X.K W A σ H Q fr t (ev C G (.lc m de T k src cond vs) env)) :
    tLc (tIt X.K W M k (evs C G src) t0) (gT X.K T) (tB' X.K W0 (if m then [] else M) (evc C G cond)) (tD X.K W0 (if m then [] else M) (ev C G de) false false) vs σ H Q := by
  simp only [ev] at h
  refine ⟨env, A, hA, hE, ?_⟩
  cases e1 : evs C G src env with
  | exc c => rw [e1] at h; exact h
  | bad => rw [e1] at h; exact h
  | ok ds =>
    rw [e1, R.bind_ok] at h
    rw [R.bind_ok]
    cases e2 : D.itD k ds with
    | exc c => rw [e2] at h; exact h
    | bad => rw [e2] at h; exact h
    | ok xs =>
      rw [e2, R.bind_ok] at h
      split at h
      · exact h.elim
      rename_i him
      have him' : m = true → D.immL xs = true := fun e => by simpa [e] using him
      cases e3 : lcE (lcF C G m de T cond (wipeE env vs)) xs with
      | exc c => exact (lcE_noexc lcF_noexc e3).elim
      | bad =>
        have h' : Pst X.K W A σ H Q fr t ((lcE (lcF C G m de T cond (wipeE env vs)) xs).bind fun r => .ok (.lst r)) := h
        rw [e3] at h'
        exact h'.elim
      | ok rs =>
        have h' : Pst X.K W A σ H Q fr t ((lcE (lcF C G m de T cond (wipeE env vs)) xs).bind fun r => .ok (.lst r)) := h
        rw [e3, R.bind_ok] at h'
        clear h
        intro J H1 s1 hz hwk Dl hD
        -- the places that the block may lean on
        have hA1 : OkA H1 A := hA.same s1
        have wk : Wk X.K J H1 (fun a => (t0 = true ∨ A a) ∧ a ≠ Dl) xs := hwk _ fun a o ha hr => ⟨hr, fun e => by subst e; rw [hD] at ha; cases ha⟩
        have s2 : Same H1 (upd H1 Dl (.lst [])) := same_upd hD
        refine ⟨fun i n H' => i ≤ xs.length ∧ n = xs.length - i ∧ ∃ acc es rest, H' Dl = some (.lst acc) ∧ RepL X.K H' (fun a => (m = true ∨ A a) ∧ a ≠ Dl) acc es ∧ lcE (lcF C G m de T cond (wipeE env vs)) (xs.drop i) = .ok rest ∧ rs = es ++ rest ∧ es.length ≤ i ∧ Same H1 H', ⟨xs.length, Nat.zero_le _, by omega, [], [], rs, upd_same, .nil, by simpa using e3, rfl, Nat.le_refl _, s2⟩, ?_⟩
        rintro i n H2 ⟨hi, rfl, acc, es, rest, hacc, racc, erest, ers, hle, s3⟩
        obtain ⟨wgo, wstop⟩ := wk i H2 (.of_same s3)
        by_cases hlt : i < xs.length
        · right
          obtain ⟨go, yl⟩ := wgo hlt
          have hdrop : xs.drop i = xs[i] :: xs.drop (i + 1) := List.drop_eq_getElem_cons hlt
          rw [hdrop] at erest
          obtain ⟨o, q, f1, f2, f3⟩ := lcE_cons erest
          obtain ⟨env1, t1, f4⟩ := lcF_ok f1
          refine ⟨go, fun H' => (i + 1 ≤ xs.length) ∧ ∃ acc es rest, H' Dl = some (.lst acc) ∧ RepL X.K H' (fun a => (m = true ∨ A a) ∧ a ≠ Dl) acc es ∧ lcE (lcF C G m de T cond (wipeE env vs)) (xs.drop (i + 1)) = .ok rest ∧ rs = es ++ rest ∧ es.length ≤ i + 1 ∧ Same H1 H', fun H' p => ⟨xs.length - (i + 1), by omega, p.1, rfl, p.2⟩, fun x H3 y => ?_⟩
          obtain ⟨s4, d, hd, rd⟩ := yl x H3 y
          have ed : d = xs[i] := Option.some.inj (hd.symm.trans (List.getElem?_eq_getElem hlt))
          subst ed
          have s5 : Same H1 H3 := s3.trans s4
          have hacc3 : H3 Dl = some (.lst acc) := s4 _ _ hacc
          -- the environment inside
          have hA3 : OkA H3 (fun a => (m = true ∨ A a) ∧ a ≠ Dl) := fun p hp => ⟨.inr (hA1 p (s5.free hp)), fun e => by subst e; rw [hacc3] at hp; cases hp⟩
          have hE1 : EnvOk X.K (if m then [] else M) (fun a => (m = true ∨ A a) ∧ a ≠ Dl) σ H1 env := by
            refine EnvOk.alw (M := M) (A := A) (fun i hi hM d v q1 q2 => ?_) (fun a o ha hr => ⟨.inr hr, fun e => by subst e; rw [hD] at ha; cases ha⟩) (hE.same s1)
            cases m with
            | false => exact (hi hM).elim
            | true =>
              obtain ⟨v', z1, z2, _⟩ := (hE.same s1).at_ i d q1
              rw [q2] at z1
              injection z1 with z1
              injection z1 with z1
              subst z1
              exact z2.alw fun a o ha _ => ⟨.inl rfl, fun e => by subst e; rw [hD] at ha; cases ha⟩
          have hE3 := (hE1.wipe (vs := vs)).same s5
          have rd' : Rep X.K H3 (fun a => (m = true ∨ A a) ∧ a ≠ Dl) x xs[i] := by
            cases m with
            | false => rw [ht0 rfl] at rd; exact rd.keep (.of_same (Same.refl _)) fun a z => ⟨.inr (z.1.resolve_left (by simp)), z.2⟩
            | true => exact rd.imm (immL_at (him' rfl) _ (List.getElem_mem hlt))
          refine gT_ok hE3 (fun j hj => ?_) rd' t1 fun σ2 hE4 w1 _ => ⟨?_, ?_⟩
          · cases m with
            | false => exact hTM rfl j hj
            | true => simp
          · rw [w1 vs hT]
            have idem : ∀ {ws : List Nat} {τ : L2.St}, (∀ j ∈ ws, j ∈ vs) → L2.wipe (L2.wipe τ vs) ws = L2.wipe τ vs := by
              intro ws
              induction ws with
              | nil => intro τ _; rfl
              | cons j ws ih =>
                intro τ hj
                show (L2.wipe (L2.wipe τ vs) ws).set j none = _
                rw [ih fun z hz => hj z (List.mem_cons_of_mem _ hz)]
                refine List.ext_getElem? fun p => ?_
                by_cases hp : j = p
                · subst hp
                  by_cases hl : j < (L2.wipe τ vs).length
                  · rw [List.getElem?_set_self hl]
                    cases q : (L2.wipe τ vs)[j]? with
                    | none => rw [List.getElem?_eq_none_iff] at q; omega
                    | some u => cases u with
                      | none => rfl
                      | some u => exact ((wipe_some q).2 (hj j (List.mem_cons_self ..))).elim
                  · rw [List.getElem?_eq_none (by rw [List.length_set]; omega), List.getElem?_eq_none (by omega)]
                · rw [List.getElem?_set_ne hp]
            exact idem fun _ z => z
          · refine ⟨env1, _, hA3, hE4, ?_⟩
            rcases f4 with ⟨c1, c2⟩ | ⟨c1, d, c2, c3, c4⟩
            · rw [c1]
              intro H4 s6
              rw [if_neg Bool.false_ne_true]
              subst c2
              exact ⟨hlt, acc, es, q, s6 _ _ hacc3, (racc.same s4).same s6, f2, by rw [ers, f3], by omega, s5.trans s6⟩
            · rw [c1]
              intro H4 s6
              rw [if_pos rfl]
              refine ⟨env1, _, hA3.same s6, hE4.same s6, ?_⟩
              rw [c2]
              intro v H5 s7 r5 _
              subst c3
              have hacc5 : H5 Dl = some (.lst acc) := s7 _ _ (s6 _ _ hacc3)
              have hlen : acc.length < SZ := by
                have l1 := racc.length
                have l2 := lcE_len e3
                rw [ers, f3] at l2
                simp at l2
                omega
              refine ⟨acc, hacc5, by rw [sz_eq]; exact hlen, hlt, acc ++ [v], es ++ [d], q, upd_same, ?_, f2, by rw [ers, f3]; simp, by simp; omega, fun b o hb => ?_⟩
              · have kp : Keep (fun a => (m = true ∨ A a) ∧ a ≠ Dl) H5 (upd H5 Dl (.lst (acc ++ [v]))) := by
                  refine ⟨fun b o hb e => by rw [upd_ne hb.2]; exact e, fun b ys e => ?_, fun b o u e => ?_⟩
                  · rw [upd_ne (fun z => by subst z; rw [hacc5] at e; cases e)]; exact e
                  · rw [upd_ne (fun z => by subst z; rw [hacc5] at e; cases e)]; exact e
                refine RepL.keep kp (fun _ z => z) (RepL.append (((racc.same s4).same s6).same s7) (.cons ?_ .nil))
                exact r5.keep (.of_same (Same.refl _)) fun a z => z.resolve_left (by simp)
              · have hne : b ≠ Dl := fun z => by subst z; rw [hD] at hb; cases hb
                rw [upd_ne hne]
                exact s7 _ _ (s6 _ _ (s5 _ _ hb))
        · left
          refine ⟨wstop (by omega), ?_⟩
          have hend : xs.drop i = [] := List.drop_eq_nil_of_le (by omega)
          rw [hend] at erest
          simp only [lcE, R.ok.injEq] at erest
          subst erest
          rw [List.append_nil] at ers
          subst ers
          refine h' _ _ (s1.trans s3) ?_ fun _ _ => ⟨Dl, rfl, s1.free hD, .inl ⟨acc, hacc⟩⟩
          have hzr : rs.length ≤ SZ := Nat.le_trans (lcE_len e3) hz
          refine .lst hacc (.inr (hA1 Dl hD)) ?_ hzr
          cases m with
          | false => exact RepL.alw (fun a o _ z => .inr (z.1.resolve_left (by simp))) racc
          | true => exact RepL.imm (immL_of (lcE_all (fun x d hx => by
              obtain ⟨_, _, z⟩ := lcF_ok hx
              rcases z with ⟨_, z⟩ | ⟨_, d', _, z, z2⟩
              · cases z
              · cases z; exact z2 rfl) e3)) racc
end
end B

set_option maxHeartbeats 1000000
/-! GenN: the state of a def's body; statements. -/
namespace B
open PySem PySem.Spec PyProof.Rows L2
/-- a list or dict that a name owns -/
def Own (K : PySem.W.Frag) (H : Hp) (a : Addr) : D → Prop
  | .lst ds => ∃ xs, H a = some (.lst xs) ∧ RepL K H (fun _ => False) xs ds ∧ ds.length ≤ SZ ∧ D.immL ds = true
  | .dct ds => ∃ ks, H a = some (.dK ks) ∧ RepK K H (fun _ => False) ks ds ∧ ds.length ≤ SZ ∧ D.immKV ds = true
  | _ => False
structure StOk (K : PySem.W.Frag) (M : List Nat) (H0 : Hp) (A0 A : Addr → Prop) (σ : L2.St) (H : Hp) (env : Env) : Prop where
  ok : OkA H A
  e : EnvOk K M A σ H env
  s0 : Same H0 H
  sub : ∀ a, A a → A0 a
  ok0 : OkA H0 A0
  rng : ∀ i ∈ M, i < env.length
  non : ∀ i ∈ M, env[i]? = some none → σ[i]? = some none
  own : ∀ i ∈ M, ∀ d, env[i]? = some (some d) → ∃ a, σ[i]? = some (some (.ref a)) ∧ ¬ A a ∧ H0 a = none ∧ Own K H a d
  dist : ∀ i ∈ M, ∀ j ∈ M, ∀ a, σ[i]? = some (some (.ref a)) → σ[j]? = some (some (.ref a)) → i = j
/-- what a suite that writes the slots w leaves -/
structure Fr (M w : List Nat) (A : Addr → Prop) (σ : L2.St) (H : Hp) (A' : Addr → Prop) (σ' : L2.St) (H' : Hp) : Prop where
  out : ∀ i, i ∉ w → σ'[i]? = σ[i]?
  new : ∀ i ∈ M, ∀ b, σ'[i]? = some (some (.ref b)) → H b = none ∨ σ[i]? = some (some (.ref b))
  keep : ∀ b o, H b = some o → (∀ i ∈ M, i ∈ w → σ[i]? ≠ some (some (.ref b))) → H' b = some o
  dom : ∀ b, H b ≠ none → H' b ≠ none
  al : ∀ a, A a → H a ≠ none → A' a
section
variable {K : PySem.W.Frag} {M w w1 w2 : List Nat} {H0 : Hp} {A0 A A1 A2 : Addr → Prop} {σ σ1 σ2 : L2.St} {H H1 H2 : Hp} {env : Env}
theorem Fr.refl : Fr M w A σ H A σ H := ⟨fun _ _ => rfl, fun _ _ _ h => .inr h, fun _ _ h _ => h, fun _ h => h, fun _ h _ => h⟩
theorem Fr.same (s : Same H H1) : Fr M w A σ H A σ H1 := ⟨fun _ _ => rfl, fun _ _ _ h => .inr h, fun b o h _ => s b o h, fun b h e => h (s.free e), fun _ h _ => h⟩
theorem Fr.mono (h : Fr M w1 A σ H A1 σ1 H1) (hw : ∀ i ∈ w1, i ∈ w) : Fr M w A σ H A1 σ1 H1 := ⟨fun i hi => h.out i fun z => hi (hw i z), h.new, fun b o e k => h.keep b o e fun i hm hi => k i hm (hw i hi), h.dom, h.al⟩
theorem Fr.trans (h : Fr M w A σ H A1 σ1 H1) (k : Fr M w A1 σ1 H1 A2 σ2 H2) : Fr M w A σ H A2 σ2 H2 where
  out := fun i hi => (k.out i hi).trans (h.out i hi)
  new := fun i hm b e => by
    rcases k.new i hm b e with z | z
    · by_cases q : H b = none
      · exact .inl q
      · exact (h.dom b q z).elim
    · exact h.new i hm b z
  keep := fun b o e q => k.keep b o (h.keep b o e q) fun i hm hi z => by
    rcases h.new i hm b z with y | y
    · rw [e] at y; cases y
    · exact q i hm hi y
  dom := fun b hb => k.dom b (h.dom b hb)
  al := fun a ha hb => k.al a (h.al a ha hb) (h.dom a hb)
theorem Own.same {a : Addr} {d : D} (s : Same H H1) (o : Own K H a d) : Own K H1 a d := by
  cases d with
  | lst ds => obtain ⟨xs, h1, h2, h3⟩ := o; exact ⟨xs, s _ _ h1, h2.same s, h3⟩
  | dct ds => obtain ⟨xs, h1, h2, h3⟩ := o; exact ⟨xs, s _ _ h1, h2.same s, h3⟩
  | _ => exact o
theorem Own.some {a : Addr} {d : D} (o : Own K H a d) : (∃ xs, H a = some (.lst xs)) ∨ ∃ ks, H a = some (.dK ks) := by
  cases d with
  | lst ds => obtain ⟨xs, h1, _⟩ := o; exact .inl ⟨xs, h1⟩
  | dct ds => obtain ⟨xs, h1, _⟩ := o; exact .inr ⟨xs, h1⟩
  | _ => exact o.elim
theorem Own.ne {a : Addr} {d : D} (o : Own K H a d) : H a ≠ none := by
  rcases o.some with ⟨_, h⟩ | ⟨_, h⟩ <;> rw [h] <;> simp
theorem Own.rep {a : Addr} {d : D} (o : Own K H a d) (ha : A a) : Rep K H A (.ref a) d := by
  cases d with
  | lst ds => obtain ⟨xs, h1, h2, h3, _⟩ := o; exact .lst h1 ha (h2.alw fun _ _ _ z => z.elim) h3
  | dct ds => obtain ⟨xs, h1, h2, h3, _⟩ := o; exact .dk (.of h1) ha (h2.alw fun _ _ _ z => z.elim) h3
  | _ => exact o.elim
theorem StOk.same (s : Same H H1) (h : StOk K M H0 A0 A σ H env) : StOk K M H0 A0 A σ H1 env :=
  ⟨h.ok.same s, h.e.same s, h.s0.trans s, h.sub, h.ok0, h.rng, h.non, fun i hi d e => let ⟨a, h1, h2, h3, h4⟩ := h.own i hi d e; ⟨a, h1, h2, h3, h4.same s⟩, h.dist⟩
/-- what a slot that is changed in its place holds -/
theorem StOk.at_ (h : StOk K M H0 A0 A σ H env) {i : Nat} {b : Addr} (hi : i ∈ M) (e : σ[i]? = some (some (.ref b))) : ¬ A b ∧ H0 b = none ∧ ∃ d, env[i]? = some (some d) ∧ Own K H b d := by
  have hl := h.rng i hi
  cases q : env[i]? with
  | none => rw [List.getElem?_eq_none_iff] at q; omega
  | some x => cases x with
    | none => rw [h.non i hi q] at e; cases e
    | some d =>
      obtain ⟨a, h1, h2, h3, h4⟩ := h.own i hi d q
      rw [e] at h1
      cases h1
      exact ⟨h2, h3, d, rfl, h4⟩
/-- what stands aside of the slots w stays -/
theorem Fr.keepB {B : Addr → Prop} (f : Fr M w A σ H A1 σ1 H1) (h : StOk K M H0 A0 A σ H env) (hb : ∀ b, B b → H b ≠ none → ∀ i ∈ M, i ∈ w → σ[i]? ≠ some (some (.ref b))) : Keep B H H1 := by
  refine ⟨fun b o hB e => f.keep b o e (hb b hB (by rw [e]; simp)), fun b xs e => f.keep b _ e fun i hi _ z => ?_, fun b o u e => f.keep b _ e fun i hi _ z => ?_⟩
  · obtain ⟨_, _, d, _, od⟩ := h.at_ hi z
    rcases od.some with ⟨_, q⟩ | ⟨_, q⟩ <;> rw [e] at q <;> cases q
  · obtain ⟨_, _, d, _, od⟩ := h.at_ hi z
    rcases od.some with ⟨_, q⟩ | ⟨_, q⟩ <;> rw [e] at q <;> cases q
/-- a name that is not changed in its place takes a value -/
theorem StOk.sets {is : List Nat} {vs : List V} {ds : List D} {env1 : Env} (h : StOk K M H0 A0 A σ H env) (hm : ∀ i ∈ is, i ∉ M) (r : RepL K H A vs ds) (e : setEs is ds env = some env1) : StOk K M H0 A0 A (setVs is vs σ) H env1 ∧ vs.length = is.length ∧ Fr M is A σ H A (setVs is vs σ) H := by
  obtain ⟨e1, l⟩ := h.e.sets hm r e
  have hs : ∀ i ∈ M, (setVs is vs σ)[i]? = σ[i]? := fun i hi => setVs_out fun z => hm i z hi
  have he : ∀ {is : List Nat} {ds : List D} {env env1 : Env}, setEs is ds env = some env1 → (∀ i, i ∉ is → env1[i]? = env[i]?) ∧ env1.length = env.length := by
    intro is
    induction is with
    | nil =>
      intro ds env env1 e
      cases ds with
      | nil => simp only [setEs, Option.some.injEq] at e; subst e; exact ⟨fun _ _ => rfl, rfl⟩
      | cons _ _ => simp [setEs] at e
    | cons i is ih =>
      intro ds env env1 e
      cases ds with
      | nil => simp [setEs] at e
      | cons d ds =>
        simp only [setEs] at e
        obtain ⟨a, b⟩ := ih e
        refine ⟨fun j hj => ?_, by rw [b, List.length_set]⟩
        rw [a j fun z => hj (List.mem_cons_of_mem _ z), List.getElem?_set_ne fun z => hj (by rw [z]; exact List.mem_cons_self ..)]
  obtain ⟨e2, e3⟩ := he e
  have e2' : ∀ i ∈ M, env1[i]? = env[i]? := fun i hi => e2 i fun z => hm i z hi
  refine ⟨⟨h.ok, e1, h.s0, h.sub, h.ok0, fun i hi => by rw [e3]; exact h.rng i hi, fun i hi q => by rw [hs i hi]; exact h.non i hi (by rw [← e2' i hi]; exact q), fun i hi d q => ?_, fun i hi j hj a q1 q2 => ?_⟩, l, fun i hi => setVs_out hi, fun i hi b q => .inr (by rw [← hs i hi]; exact q), fun _ _ q _ => q, fun _ q => q, fun _ q _ => q⟩
  · obtain ⟨a, h1, h2, h3, h4⟩ := h.own i hi d (by rw [← e2' i hi]; exact q)
    exact ⟨a, by rw [hs i hi]; exact h1, h2, h3, h4⟩
  · rw [hs i hi] at q1
    rw [hs j hj] at q2
    exact h.dist i hi j hj a q1 q2
theorem StOk.set1 {i : Nat} {v : V} {d : D} (h : StOk K M H0 A0 A σ H env) (hm : i ∉ M) (r : Rep K H A v d) : StOk K M H0 A0 A (σ.set i (some v)) H (env.set i (some d)) ∧ Fr M [i] A σ H A (σ.set i (some v)) H := by
  obtain ⟨a, _, b⟩ := h.sets (is := [i]) (vs := [v]) (ds := [d]) (fun j hj => by rw [List.mem_singleton.mp hj]; exact hm) (.cons r .nil) rfl
  exact ⟨a, b⟩
/-- the list or dict of a changed name, anew: the heap has it at a fresh place p, or it stands where it stood -/
theorem StOk.change {i : Nat} {p : Addr} {d : D} {o : HO} (h : StOk K M H0 A0 A σ H env) (hi : i ∈ M) (hp : σ[i]? = some (some (.ref p))) (ho : Own K (upd H p o) p d) (hno : ∀ b, H b ≠ none → (upd H p o) b ≠ none) :
    StOk K M H0 A0 A σ (upd H p o) (env.set i (some d)) ∧ Fr M [i] A σ H A σ (upd H p o) := by
  obtain ⟨na, n0, d0, ed, od⟩ := h.at_ hi hp
  have hpn : H p ≠ none := od.ne
  have kp : Keep A H (upd H p o) := by
    refine ⟨fun b u hb e => by rw [upd_ne (fun z => by subst z; exact na hb)]; exact e, fun b xs e => ?_, fun b u x e => ?_⟩
    · rw [upd_ne fun z => by subst z; rcases od.some with ⟨_, q⟩ | ⟨_, q⟩ <;> rw [e] at q <;> cases q]; exact e
    · rw [upd_ne fun z => by subst z; rcases od.some with ⟨_, q⟩ | ⟨_, q⟩ <;> rw [e] at q <;> cases q]; exact e
  have kF : Keep (fun _ => False) H (upd H p o) := ⟨fun _ _ z => z.elim, kp.tup, kp.frz⟩
  have oth : ∀ j ∈ M, ∀ a e, j ≠ i → σ[j]? = some (some (.ref a)) → Own K H a e → Own K (upd H p o) a e := fun j hj a e hne q oe => by
    have hap : a ≠ p := fun z => by subst z; exact hne (h.dist j hj i hi a q hp)
    cases e with
    | lst ds => obtain ⟨xs, h1, h2, h3⟩ := oe; exact ⟨xs, by rw [upd_ne hap]; exact h1, RepL.keep kF (fun _ z => z) h2, h3⟩
    | dct ds => obtain ⟨xs, h1, h2, h3⟩ := oe; exact ⟨xs, by rw [upd_ne hap]; exact h1, RepK.keep kF (fun _ z => z) h2, h3⟩
    | _ => exact oe.elim
  have hil : i < env.length := h.rng i hi
  refine ⟨⟨fun b hb => h.ok b (by by_cases q : H b = none; exact q; exact (hno b q hb).elim), ⟨by rw [List.length_set]; exact h.e.len, fun j x e => ?_⟩, fun b u e => ?_, h.sub, h.ok0, fun j hj => by rw [List.length_set]; exact h.rng j hj, fun j hj e => ?_, fun j hj x e => ?_, h.dist⟩, fun _ _ => rfl, fun _ _ _ q => .inr q, fun b u e q => ?_, hno, fun _ q _ => q⟩
  · by_cases hj : i = j
    · subst hj
      rw [List.getElem?_set_self hil] at e
      cases e
      exact ⟨.ref p, hp, ho.rep trivial, fun z => (z hi).elim⟩
    · rw [List.getElem?_set_ne hj] at e
      obtain ⟨v, h1, h2, h3⟩ := h.e.at_ j x e
      by_cases hjm : j ∈ M
      · obtain ⟨a, q1, q2, q3, q4⟩ := h.own j hjm x e
        refine ⟨.ref a, q1, (oth j hjm a x (fun z => hj z.symm) q1 q4).rep trivial, fun z => (z hjm).elim⟩
      · exact ⟨v, h1, (h3 hjm).keep kp fun _ _ => trivial, fun _ => (h3 hjm).keep kp fun _ z => z⟩
  · rw [upd_ne fun z => by subst z; rw [n0] at e; cases e]
    exact h.s0 _ _ e
  · by_cases hj' : i = j
    · subst hj'
      rw [List.getElem?_set_self hil] at e
      cases e
    · rw [List.getElem?_set_ne hj'] at e
      exact h.non j hj e
  · by_cases hj' : i = j
    · subst hj'
      rw [List.getElem?_set_self hil] at e
      cases e
      exact ⟨p, hp, na, n0, ho⟩
    · rw [List.getElem?_set_ne hj'] at e
      obtain ⟨a, h1, h2, h3, h4⟩ := h.own j hj x e
      exact ⟨a, h1, h2, h3, oth j hj a x (fun z => hj' z.symm) h1 h4⟩
  · rw [upd_ne fun z => by subst z; exact q i hi (List.mem_cons_self ..) hp]
    exact e
/-- a changed name gets a list or dict that is new -/
theorem StOk.fresh {i : Nat} {p : Addr} {d : D} (h : StOk K M H0 A0 A σ H env) (s : Same H H1) (hi : i ∈ M) (hp : H p = none) (ho : Own K H1 p d) :
    StOk K M H0 A0 (fun a => A a ∧ a ≠ p) (σ.set i (some (.ref p))) H1 (env.set i (some d)) ∧ Fr M [i] A σ H (fun a => A a ∧ a ≠ p) (σ.set i (some (.ref p))) H1 := by
  have hil : i < env.length := h.rng i hi
  have hil' : i < σ.length := by rw [← h.e.len]; exact hil
  have n0 : H0 p = none := h.s0.free hp
  refine ⟨⟨fun b hb => ⟨(h.ok.same s) b hb, fun z => by subst z; exact ho.ne hb⟩, ⟨by rw [List.length_set, List.length_set]; exact h.e.len, fun j x e => ?_⟩, h.s0.trans s, fun a q => h.sub a q.1, h.ok0, fun j hj => by rw [List.length_set]; exact h.rng j hj, fun j hj e => ?_, fun j hj x e => ?_, fun j hj k hk a q1 q2 => ?_⟩, fun j hj => ?_, fun j hj b q => ?_, fun b u e _ => s _ _ e, fun b q e => q (s.free e), fun a q1 q2 => ⟨q1, fun z => by subst z; exact q2 hp⟩⟩
  · by_cases hj : i = j
    · subst hj
      rw [List.getElem?_set_self hil] at e
      cases e
      exact ⟨.ref p, by rw [List.getElem?_set_self hil'], ho.rep trivial, fun z => (z hi).elim⟩
    · rw [List.getElem?_set_ne hj] at e
      obtain ⟨v, h1, h2, h3⟩ := h.e.at_ j x e
      refine ⟨v, by rw [List.getElem?_set_ne hj]; exact h1, h2.same s, fun z => ?_⟩
      exact ((h3 z).alw (A' := fun a => A a ∧ a ≠ p) fun a o ha q => ⟨q, fun y => by subst y; rw [hp] at ha; cases ha⟩).same s
  · by_cases hj' : i = j
    · subst hj'
      rw [List.getElem?_set_self hil] at e
      cases e
    · rw [List.getElem?_set_ne hj'] at e ⊢
      exact h.non j hj e
  · by_cases hj' : i = j
    · subst hj'
      rw [List.getElem?_set_self hil] at e
      cases e
      exact ⟨p, by rw [List.getElem?_set_self hil'], fun z => z.2 rfl, n0, ho⟩
    · rw [List.getElem?_set_ne hj'] at e
      obtain ⟨a, h1, h2, h3, h4⟩ := h.own j hj x e
      exact ⟨a, by rw [List.getElem?_set_ne hj']; exact h1, fun z => h2 z.1, h3, h4.same s⟩
  · have hsome : ∀ l ∈ M, ∀ b, l ≠ i → σ[l]? = some (some (.ref b)) → b ≠ p := fun l hl b _ q z => by
      subst z
      obtain ⟨_, _, d, _, od⟩ := h.at_ hl q
      exact od.ne hp
    by_cases hj' : i = j
    · subst hj'
      rw [List.getElem?_set_self hil'] at q1
      cases q1
      by_cases hk' : i = k
      · exact hk'
      · rw [List.getElem?_set_ne hk'] at q2
        exact (hsome k hk p (fun z => hk' z.symm) q2 rfl).elim
    · rw [List.getElem?_set_ne hj'] at q1
      by_cases hk' : i = k
      · subst hk'
        rw [List.getElem?_set_self hil'] at q2
        cases q2
        exact (hsome j hj p (fun z => hj' z.symm) q1 rfl).elim
      · rw [List.getElem?_set_ne hk'] at q2
        exact h.dist j hj k hk a q1 q2
  · exact List.getElem?_set_ne fun z => hj (by rw [z]; exact List.mem_cons_self ..)
  · by_cases hj' : i = j
    · subst hj'
      rw [List.getElem?_set_self hil'] at q
      cases q
      exact .inl hp
    · rw [List.getElem?_set_ne hj'] at q
      exact .inr q
end
/-- what is wanted of an end -/
def PO (K : PySem.W.Frag) (W : WC) (M : List Nat) (H0 : Hp) (A0 : Addr → Prop) (w : List Nat) (A : Addr → Prop) (σ : L2.St) (H : Hp) (D : Ends) : O → Prop
  | .nx e => ∀ A' σ' H', StOk K M H0 A0 A' σ' H' e → Fr M w A σ H A' σ' H' → D.nx σ' H'
  | .bk e => ∀ A' σ' H', StOk K M H0 A0 A' σ' H' e → Fr M w A σ H A' σ' H' → D.bk σ' H'
  | .ct e => ∀ A' σ' H', StOk K M H0 A0 A' σ' H' e → Fr M w A σ H A' σ' H' → D.ct σ' H'
  | .rt d => ∀ v H', Same H0 H' → Rep K H' A0 v d → D.rt v H'
  | .exc c _ => ∀ σ' H', Same H0 H' → W c σ' H'
  | .bad => False
def tSt (K : PySem.W.Frag) (W : WC) (M w : List Nat) (m : Env → O) : TS := fun D σ H => ∃ env H0 A0 A, StOk K M H0 A0 A σ H env ∧ PO K W M H0 A0 w A σ H D (m env)
section
variable {K : PySem.W.Frag} {W : WC} {M w w1 w2 : List Nat} {H0 : Hp} {A0 A A1 A2 : Addr → Prop} {σ σ1 σ2 : L2.St} {H H1 H2 : Hp} {env : Env} {Ed : Ends} {o : O}
theorem PO.mono (hw : ∀ i ∈ w1, i ∈ w) : ∀ {o : O}, PO K W M H0 A0 w A σ H Ed o → PO K W M H0 A0 w1 A σ H Ed o
  | .nx _, h => fun A' σ' H' s f => h A' σ' H' s (f.mono hw)
  | .bk _, h => fun A' σ' H' s f => h A' σ' H' s (f.mono hw)
  | .ct _, h => fun A' σ' H' s f => h A' σ' H' s (f.mono hw)
  | .rt _, h => h
  | .exc _ _, h => h
  | .bad, h => h
theorem PO.from (f : Fr M w A σ H A1 σ1 H1) : ∀ {o : O}, PO K W M H0 A0 w A σ H Ed o → PO K W M H0 A0 w A1 σ1 H1 Ed o
  | .nx _, h => fun A' σ' H' s g => h A' σ' H' s (f.trans g)
  | .bk _, h => fun A' σ' H' s g => h A' σ' H' s (f.trans g)
  | .ct _, h => fun A' σ' H' s g => h A' σ' H' s (f.trans g)
  | .rt _, h => h
  | .exc _ _, h => h
  | .bad, h => h
theorem PO.then {α : Type} {r : R α} {f : α → O} (h : PO K W M H0 A0 w A σ H Ed (r.then env f)) : (∃ a, r = .ok a ∧ PO K W M H0 A0 w A σ H Ed (f a)) ∨ ∃ c, r = .exc c ∧ ∀ σ' H', Same H0 H' → W c σ' H' := by
  cases r with
  | ok a => exact .inl ⟨a, rfl, h⟩
  | exc c => exact .inr ⟨c, rfl, h⟩
  | bad => exact h.elim
/-- an expression, then -/
theorem PO.pst {r : R D} {f : D → O} {Q : VK} {fr t : Bool} {A' : Addr → Prop} (st : StOk K M H0 A0 A σ H env) (h : PO K W M H0 A0 w A σ H Ed (r.then env f)) (k : ∀ d v H1, r = .ok d → Same H H1 → Rep K H1 (RA t A') v d → (fr = true → d.isMut = true → Fresh H H1 v) → PO K W M H0 A0 w A σ H Ed (f d) → PO K W M H0 A0 w A σ H1 Ed (f d) → StOk K M H0 A0 A σ H1 env → Q v H1) : Pst K W A' σ H Q fr t r := by
  rcases h.then with ⟨d, e, h⟩ | ⟨c, e, h⟩
  · subst e
    exact fun v H1 s re fre => k d v H1 rfl s re fre h (h.from (Fr.same s)) (st.same s)
  · subst e
    exact fun H1 s => h σ H1 (st.s0.trans s)
theorem PO.pstB {r : R Bool} {f : Bool → O} {Q : Bool → Hp → Prop} (st : StOk K M H0 A0 A σ H env) (h : PO K W M H0 A0 w A σ H Ed (r.then env f)) (k : ∀ d H1, r = .ok d → Same H H1 → PO K W M H0 A0 w A σ H1 Ed (f d) → StOk K M H0 A0 A σ H1 env → Q d H1) : PstB W σ H Q r := by
  rcases h.then with ⟨d, e, h⟩ | ⟨c, e, h⟩
  · subst e
    exact fun H1 s => k d H1 rfl s (h.from (Fr.same s)) (st.same s)
  · subst e
    exact fun H1 s => h σ H1 (st.s0.trans s)
/-- all names may be read -/
theorem StOk.all (st : StOk K M H0 A0 A σ H env) : OkA H A0 ∧ EnvOk K [] A0 σ H env := by
  refine ⟨fun p n => st.ok0 p (st.s0.free n), st.e.len, fun i d e => ?_⟩
  obtain ⟨v, h1, h2, h3⟩ := st.e.at_ i d e
  refine ⟨v, h1, h2, fun _ => ?_⟩
  by_cases hi : i ∈ M
  · obtain ⟨a, q1, q2, q3, q4⟩ := st.own i hi d e
    rw [h1] at q1
    cases q1
    exact q4.rep (st.ok0 a q3)
  · exact (h3 hi).alw fun a _ _ z => st.sub a z
end
end B

set_option maxHeartbeats 1000000
/-! GenO: the rules of statements. -/
namespace B
open PySem PySem.Spec PyProof.Rows L2
section
variable {X : Cx} {W : WC} {M : List Nat} {C : Nat → List D → R D} {G : List D} {F : Nat} {st : Stmt}
abbrev SS (X : Cx) (W : WC) (M : List Nat) (C : Nat → List D → R D) (G : List D) (F : Nat) (st : Stmt) (ds : DS) : Prop := PS X st (tSt X.K W M ds.wr (evS C G F ds))
abbrev SSs (X : Cx) (W : WC) (M : List Nat) (C : Nat → List D → R D) (G : List D) (F : Nat) (sts : List Stmt) (dss : DSs) : Prop := PSs X sts (tSt X.K W M dss.wr (evSs C G F dss))
theorem ss_set {i : Nat} {de : DE} (hp : PS X st (tAsg (tD X.K W M (ev C G de) false false) (gName i))) (hi : i ∉ M) : SS X W M C G F st (.set i de) :=
  PS.imp hp fun Ed σ H ⟨env, H0, A0, A, s, h⟩ => by
    simp only [evS] at h
    refine ⟨env, A, s.ok, s.e, h.pst s (fr := false) (t := false) fun d v H1 _ s1 r _ _ h1 st1 => ?_⟩
    obtain ⟨a, b⟩ := st1.set1 (d := d) hi (r.alw fun a _ _ z => z.resolve_left (by simp))
    exact h1 _ _ _ a b
theorem ss_setI {i : Nat} {de : DE} (hp : PS X st (tAsg (tD X.K W [] (ev C G de) false false) (gName i))) (hi : i ∉ M) : SS X W M C G F st (.setI i de) :=
  PS.imp hp fun Ed σ H ⟨env, H0, A0, A, s, h⟩ => by
    simp only [evS] at h
    obtain ⟨q1, q2⟩ := s.all
    refine ⟨env, A0, q1, q2, h.pst s (fr := false) (t := false) fun d v H1 _ s1 r _ _ h1 st1 => ?_⟩
    split at h1
    · rename_i hk
      obtain ⟨a, b⟩ := st1.set1 (d := d) hi (r.imm hk)
      exact h1 _ _ _ a b
    · exact h1.elim
theorem own_new {K : PySem.W.Frag} {H H1 : Hp} {A : Addr → Prop} {v : V} {d : D} (r : Rep K H1 A v d) (hk : d.immTop = true) (f : d.isMut = true → Fresh H H1 v) : ∃ p, v = .ref p ∧ H p = none ∧ Own K H1 p d := by
  cases r with
  | @lst a xs ds h1 a1 r1 z1 =>
    obtain ⟨p, e1, n, _⟩ := f rfl
    cases e1
    have hi : D.immL ds = true := hk
    exact ⟨a, rfl, n, xs, h1, r1.imm hi, z1, hi⟩
  | @dk a xs ds h1 a1 r1 z1 =>
    obtain ⟨p, e1, n, q⟩ := f rfl
    cases e1
    have hi : D.immKV ds = true := hk
    have h2 : H1 a = some (.dK xs) := by
      rcases h1 with h1 | ⟨o, h1⟩
      · exact h1
      · rcases q with ⟨_, q⟩ | ⟨_, q⟩ <;> rw [h1] at q <;> cases q
    refine ⟨a, rfl, n, xs, h2, ?_, z1, hi⟩
    have go : ∀ {xs : List (Key × V)} {ds : List (D × D)}, D.immKV ds = true → RepK K H1 A xs ds → RepK K H1 (fun _ => False) xs ds := by
      intro xs
      induction xs with
      | nil => intro ds _ r; cases r; exact .nil
      | cons x xs ih =>
        intro ds hi r
        cases r with
        | int r rs => simp only [D.immKV, Bool.and_eq_true] at hi; exact .int (r.imm hi.1) (ih hi.2 rs)
        | str h1 h2 r rs => simp only [D.immKV, Bool.and_eq_true] at hi; exact .str h1 h2 (r.imm hi.1) (ih hi.2 rs)
    exact go hi r1
  | @dt a xs ds h1 a1 r1 z0 z1 =>
    exfalso
    obtain ⟨p, e1, n, q⟩ := f rfl
    cases e1
    rcases h1 with h1 | ⟨o, h1⟩ <;> rcases q with ⟨_, q⟩ | ⟨_, q⟩ <;> rw [h1] at q <;> cases q
  | _ => cases hk
theorem ss_setM {i : Nat} {de : DE} (hp : PS X st (tAsg (tD X.K W M (ev C G de) true true) (gName i))) (hi : i ∈ M) : SS X W M C G F st (.setM i de) :=
  PS.imp hp fun Ed σ H ⟨env, H0, A0, A, s, h⟩ => by
    simp only [evS] at h
    refine ⟨env, A, s.ok, s.e, h.pst s (fr := true) (t := true) fun d v H1 _ s1 r fre h0 _ _ => ?_⟩
    split at h0
    · rename_i hk
      obtain ⟨p, rfl, n, o⟩ := own_new r hk (fre rfl)
      obtain ⟨a, b⟩ := s.fresh s1 hi n o
      exact h0 _ _ _ a b
    · exact h0.elim
theorem ss_tp {is : List Nat} {de : DE} (hp : PS X st (tAsg (tD X.K W M (ev C G de) false false) (gT X.K (.tp is)))) (hi : ∀ i ∈ is, i ∉ M) : SS X W M C G F st (.tp is de) :=
  PS.imp hp fun Ed σ H ⟨env, H0, A0, A, s, h⟩ => by
    simp only [evS] at h
    refine ⟨env, A, s.ok, s.e, h.pst s (fr := false) (t := false) fun d v H1 _ s1 r _ _ h1 st1 => ?_⟩
    cases r with
    | @tup a xs ds q1 q2 q3 =>
      dsimp only at h1
      split at h1
      · rename_i env1 e1
        obtain ⟨u, l, b⟩ := st1.sets hi (q2.alw fun a _ _ z => z.resolve_left (by simp)) e1
        exact ⟨a, xs, rfl, q1, l, gSeq_ok l (h1 _ _ _ u b)⟩
      · exact h1.elim
    | _ => exact h1.elim
/-- a, b = x, y (a, b, c = x, y, z): the names' stores -/
theorem ss_tpL {is : List Nat} {des : DEs} (hp : PS X st (fun Ed σ H => tL X.K W M (evs C G des) false σ H fun vs H1 => vs.length = is.length → Ed.nx (setVs is vs σ) H1)) (hi : ∀ i ∈ is, i ∉ M) : SS X W M C G F st (.tp is (.tup des)) :=
  PS.imp hp fun Ed σ H ⟨env, H0, A0, A, s, h⟩ => by
    simp only [evS, ev] at h
    refine ⟨env, A, s.ok, s.e, ?_⟩
    cases e1 : evs C G des env with
    | exc c => rw [e1] at h; exact fun H1 s1 => h σ H1 (s.s0.trans s1)
    | bad => rw [e1] at h; exact h
    | ok ds =>
      rw [e1] at h
      intro vs H1 s1 r1 _
      have h1 := PO.from (Fr.same (M := M) (w := is) (A := A) (σ := σ) s1) (show PO X.K W M H0 A0 is A σ H Ed _ from h)
      dsimp only [R.bind_ok, R.then_ok] at h1
      split at h1
      · rename_i env1 e2
        obtain ⟨u, l, b⟩ := (s.same s1).sets hi (r1.alw fun a _ _ z => z.resolve_left (by simp)) e2
        exact h1 _ _ _ u b
      · exact h1.elim
theorem ss_ex {de : DE} (hp : PS X st (tDrop (tD X.K W [] (ev C G de) false false))) : SS X W M C G F st (.ex de) :=
  PS.imp hp fun Ed σ H ⟨env, H0, A0, A, s, h⟩ => by
    simp only [evS] at h
    obtain ⟨q1, q2⟩ := s.all
    exact ⟨env, A0, q1, q2, h.pst s (fr := false) (t := false) fun d v H1 _ s1 r _ _ h1 st1 => h1 _ _ _ st1 Fr.refl⟩
theorem ss_ret {de : DE} (hp : PS X st (tRet (tD X.K W [] (ev C G de) false false))) : SS X W M C G F st (.ret de) :=
  PS.imp hp fun Ed σ H ⟨env, H0, A0, A, s, h⟩ => by
    simp only [evS] at h
    obtain ⟨q1, q2⟩ := s.all
    exact ⟨env, A0, q1, q2, h.pst s (fr := false) (t := false) fun d v H1 _ s1 r _ _ h1 st1 => h1 _ _ (s.s0.trans s1) (r.alw fun a _ _ z => z.resolve_left (by simp))⟩
theorem ss_retN (hp : PS X st tRetN) : SS X W M C G F st .retN :=
  PS.imp hp fun Ed σ H ⟨env, H0, A0, A, s, h⟩ => by
    simp only [evS] at h
    exact h _ _ s.s0 .non
theorem ss_brk (hp : PS X st tBreak) : SS X W M C G F st .brk :=
  PS.imp hp fun Ed σ H ⟨env, H0, A0, A, s, h⟩ => by
    simp only [evS] at h
    exact h _ _ _ s Fr.refl
theorem ss_cont (hp : PS X st tCont) : SS X W M C G F st .cont :=
  PS.imp hp fun Ed σ H ⟨env, H0, A0, A, s, h⟩ => by
    simp only [evS] at h
    exact h _ _ _ s Fr.refl
theorem ss_pass (hp : PS X st tNext) : SS X W M C G F st .pass :=
  PS.imp hp fun Ed σ H ⟨env, H0, A0, A, s, h⟩ => by
    simp only [evS] at h
    exact h _ _ _ s Fr.refl
theorem ss_raise {c : Nat} (hp : PS X st (fun _ σ H => W c σ H)) : SS X W M C G F st (.raise c) :=
  PS.imp hp fun Ed σ H ⟨env, H0, A0, A, s, h⟩ => by
    simp only [evS] at h
    exact h _ _ s.s0
theorem sss_nil : SSs X W M C G F [] .nil :=
  PSs.imp pss_nil fun Ed σ H ⟨env, H0, A0, A, s, h⟩ => by
    simp only [evSs] at h
    exact h _ _ _ s Fr.refl
theorem sss_cons {sts : List Stmt} {d : DS} {ds : DSs} (h1 : SS X W M C G F st d) (h2 : SSs X W M C G F sts ds) : SSs X W M C G F (st :: sts) (.cons d ds) :=
  PSs.imp (pss_cons h1 h2) fun Ed σ H ⟨env, H0, A0, A, s, h⟩ => by
    simp only [evSs] at h
    refine ⟨env, H0, A0, A, s, ?_⟩
    cases e : evS C G F d env with
    | nx e1 =>
      rw [e] at h
      intro A' σ' H' s' f
      have f' : Fr M (DSs.cons d ds).wr A σ H A' σ' H' := f.mono fun i hi => List.mem_append_left _ hi
      exact ⟨e1, H0, A0, A', s', ((show PO X.K W M H0 A0 (DSs.cons d ds).wr A σ H Ed (evSs C G F ds e1) from h).from f').mono fun i hi => List.mem_append_right _ hi⟩
    | rt v => rw [e] at h; exact h
    | bk e1 => rw [e] at h; exact fun A' σ' H' s' f => h A' σ' H' s' (f.mono fun i hi => List.mem_append_left _ hi)
    | ct e1 => rw [e] at h; exact fun A' σ' H' s' f => h A' σ' H' s' (f.mono fun i hi => List.mem_append_left _ hi)
    | exc c e1 => rw [e] at h; exact h
    | bad => rw [e] at h; exact h
theorem ss_ite {c : Expr} {dc : DE} {a b : List Stmt} {da db : DSs} {pos : Pos} (hc : ST X W M C G c dc) (ha : SSs X W M C G F a da) (hb : SSs X W M C G F b db) : SS X W M C G F (.If c a b pos) (.ite dc da db) :=
  PS.imp (ps_if hc ha hb) fun Ed σ H ⟨env, H0, A0, A, s, h⟩ => by
    simp only [evS] at h
    refine ⟨env, A, s.ok, s.e, h.pstB s fun d H1 _ s1 h1 st1 => ?_⟩
    cases d with
    | true =>
      rw [if_pos rfl] at h1 ⊢
      exact ⟨env, H0, A0, A, st1, h1.mono fun i hi => List.mem_append_left _ hi⟩
    | false =>
      rw [if_neg Bool.false_ne_true] at h1 ⊢
      exact ⟨env, H0, A0, A, st1, h1.mono fun i hi => List.mem_append_right _ hi⟩
/-! ### changes in the place -/
theorem ss_app {i : Nat} {e : Expr} {de : DE} (hp : PS X st (tDrop (tBM X.K "list" rAppend (tVar i) (tCons (tD X.K W [] (ev C G de) false false) tNil)))) (hi : i ∈ M) : SS X W M C G F st (.app i de) :=
  PS.imp hp fun Ed σ H ⟨env, H0, A0, A, s, h⟩ => by
    simp only [evS, getE] at h
    split at h
    · rename_i x ex
      dsimp only [R.then_ok] at h
      obtain ⟨a, h1, h2, h3, h4⟩ := s.own i hi x ex
      cases x with
      | lst xs =>
        obtain ⟨vs, q1, q2, q3, q4⟩ := h4
        refine ⟨.ref a, h1, .inl ⟨rfl, vs, .of q1⟩, ?_⟩
        obtain ⟨z1, z2⟩ := s.all
        refine (⟨env, A0, z1, z2, h.pst s (fr := false) (t := false) fun d v H1 _ s1 r _ _ k1 st1 => ?_⟩ : tD X.K W [] (ev C G de) false false σ H _)
        split at k1
        · rename_i hk
          simp only [Bool.and_eq_true, decide_eq_true_eq] at hk
          have q1' : H1 a = some (.lst vs) := s1 _ _ q1
          refine ⟨a, vs, v, rfl, rfl, q1', by rw [sz_eq, q2.length]; exact hk.2, ?_⟩
          have kF : Keep (fun _ => False) H1 (upd H1 a (.lst (vs ++ [v]))) := ⟨fun _ _ z => z.elim, fun b ys e => by rw [upd_ne fun z => by subst z; rw [q1'] at e; cases e]; exact e, fun b o u e => by rw [upd_ne fun z => by subst z; rw [q1'] at e; cases e]; exact e⟩
          have own' : Own X.K (upd H1 a (.lst (vs ++ [v]))) a (.lst (xs ++ [d])) := by
            refine ⟨_, upd_same, RepL.keep kF (fun _ z => z) ((q2.same s1).append (.cons (r.imm hk.1) .nil)), by simp; omega, ?_⟩
            exact immL_of fun y hy => by
              rcases List.mem_append.mp hy with hy | hy
              · exact immL_at q4 _ hy
              · rw [List.mem_singleton.mp hy]; exact hk.1
          obtain ⟨u, f⟩ := st1.change hi h1 own' fun b hb => by
            by_cases z : b = a
            · subst z; rw [upd_same]; simp
            · rw [upd_ne z]; exact hb
          exact k1 _ _ _ u f
        · exact k1.elim
      | _ => exact h.elim
    · exact h.elim
theorem ss_ext {i : Nat} {e : Expr} {de : DE} (hp : PS X st (tDrop (tBM X.K "list" rExtend (tVar i) (tCons (tD X.K W [] (ev C G de) false false) tNil)))) (hi : i ∈ M) : SS X W M C G F st (.ext i de) :=
  PS.imp hp fun Ed σ H ⟨env, H0, A0, A, s, h⟩ => by
    simp only [evS, getE] at h
    split at h
    · rename_i x ex
      dsimp only [R.then_ok] at h
      obtain ⟨a, h1, h2, h3, h4⟩ := s.own i hi x ex
      cases x with
      | lst xs =>
        obtain ⟨vs, q1, q2, q3, q4⟩ := h4
        refine ⟨.ref a, h1, .inl ⟨rfl, vs, .of q1⟩, ?_⟩
        obtain ⟨z1, z2⟩ := s.all
        refine (⟨env, A0, z1, z2, h.pst s (fr := false) (t := false) fun d v H1 _ s1 r _ _ k1 st1 => ?_⟩ : tD X.K W [] (ev C G de) false false σ H _)
        cases r with
        | @lst b us ys w1 w2 w3 w4 =>
          dsimp only at k1
          split at k1
          · rename_i hk
            simp only [Bool.and_eq_true, decide_eq_true_eq] at hk
            have q1' : H1 a = some (.lst vs) := s1 _ _ q1
            refine ⟨a, b, vs, us, rfl, rfl, q1', w1, by rw [sz_eq, q2.length, w3.length]; exact hk.2, ?_⟩
            have kF : Keep (fun _ => False) H1 (upd H1 a (.lst (vs ++ us))) := ⟨fun _ _ z => z.elim, fun b ys e => by rw [upd_ne fun z => by subst z; rw [q1'] at e; cases e]; exact e, fun b o u e => by rw [upd_ne fun z => by subst z; rw [q1'] at e; cases e]; exact e⟩
            have own' : Own X.K (upd H1 a (.lst (vs ++ us))) a (.lst (xs ++ ys)) := by
              refine ⟨_, upd_same, RepL.keep kF (fun _ z => z) ((q2.same s1).append (w3.imm hk.1)), by simpa using hk.2, ?_⟩
              exact immL_of fun y hy => by
                rcases List.mem_append.mp hy with hy | hy
                · exact immL_at q4 _ hy
                · exact immL_at hk.1 _ hy
            obtain ⟨u, f⟩ := st1.change hi h1 own' fun b hb => by
              by_cases z : b = a
              · subst z; rw [upd_same]; simp
              · rw [upd_ne z]; exact hb
            exact k1 _ _ _ u f
          · exact k1.elim
        | _ => exact k1.elim
      | _ => exact h.elim
    · exact h.elim
theorem ss_pop {i j : Nat} (hp : PS X st (tAsg (tBM0 X.K "list" rPop (tVar i)) (gName j))) (hi : i ∈ M) (hj : j ∉ M) : SS X W M C G F st (.pop j i) :=
  PS.imp hp fun Ed σ H ⟨env, H0, A0, A, s, h⟩ => by
    simp only [evS, getE] at h
    split at h
    · rename_i x ex
      dsimp only [R.then_ok] at h
      obtain ⟨a, h1, h2, h3, h4⟩ := s.own i hi x ex
      cases x with
      | lst xs =>
        obtain ⟨vs, q1, q2, q3, q4⟩ := h4
        refine ⟨.ref a, h1, .inl ⟨rfl, vs, .of q1⟩, ?_⟩
        dsimp only at h
        split at h
        · rename_i d ed
          rw [List.getLast?_eq_getElem?] at ed
          obtain ⟨v, hv, rv⟩ := q2.get ed
          rw [← q2.length] at hv
          refine ⟨a, vs, v, rfl, rfl, q1, hv, ?_⟩
          have kF : Keep (fun _ => False) H (upd H a (.lst vs.dropLast)) := ⟨fun _ _ z => z.elim, fun b ys e => by rw [upd_ne fun z => by subst z; rw [q1] at e; cases e]; exact e, fun b o u e => by rw [upd_ne fun z => by subst z; rw [q1] at e; cases e]; exact e⟩
          have rd : RepL X.K H (fun _ => False) vs.dropLast xs.dropLast := by
            rw [List.dropLast_eq_take, List.dropLast_eq_take, q2.length]
            exact q2.take _
          have own' : Own X.K (upd H a (.lst vs.dropLast)) a (.lst xs.dropLast) := by
            refine ⟨_, upd_same, RepL.keep kF (fun _ z => z) rd, by simp; omega, ?_⟩
            exact immL_of fun y hy => immL_at q4 _ ((List.dropLast_sublist _).subset hy)
          obtain ⟨u, f⟩ := s.change hi h1 own' fun b hb => by
            by_cases z : b = a
            · subst z; rw [upd_same]; simp
            · rw [upd_ne z]; exact hb
          have him : d.imm = true := immL_at q4 _ (List.mem_of_getElem? ed)
          obtain ⟨u2, f2⟩ := u.set1 (d := d) hj ((rv.keep kF fun _ z => z).imm him)
          exact h _ _ _ u2 ((f.mono fun k hk => by rw [List.mem_singleton.mp hk]; exact List.mem_cons_self ..).trans (f2.mono fun k hk => by rw [List.mem_singleton.mp hk]; exact List.mem_cons_of_mem _ (List.mem_cons_self ..)))
        · exact h.elim
      | _ => exact h.elim
    · exact h.elim
end
end B

set_option maxHeartbeats 1000000
/-! GenP: d[k] = v; loops. -/
namespace B
open PySem PySem.Spec PyProof.Rows L2
section
variable {X : Cx} {W : WC} {M : List Nat} {C : Nat → List D → R D} {G : List D} {F : Nat} {st : Stmt}
/-- o[i] = v of a list or a dict -/
def rSetD : TSet := fun o i v H Q => rSetL o i v H Q ∨ ∃ a H4, o = .ref a ∧ DPut H a i v H4 ∧ Q H4
theorem set_D (hu : X.A.units + 200 < cLine) : PSet X rSetD := by
  intro pins s σ H o i v ov iv u Q I ro ri rv h
  rcases h with h | ⟨a, H4, rfl, hd, q⟩
  · exact set_list pins s σ H o i v ov iv u Q I ro ri rv h
  · have e : ov = .ref a := ro
    subst e
    exact d_setItem (by omega) I hd ri rv fun s4 I4 => ⟨H4, I4, q⟩
theorem put_imm {ds : List (D × D)} {k v : D} (hd : D.immKV ds = true) (hv : v.imm = true) : D.immKV (D.put ds k v) = true := by
  have go1 : ∀ {ds : List (D × D)}, D.immKV ds = true → D.immKV (ds.map fun p => if D.eqv p.1 k then (p.1, v) else p) = true := by
    intro ds
    induction ds with
    | nil => intro _; rfl
    | cons p ds ih =>
      intro h
      obtain ⟨p1, p2⟩ := p
      simp only [D.immKV, Bool.and_eq_true] at h
      simp only [List.map_cons]
      split
      · simp only [D.immKV, Bool.and_eq_true]; exact ⟨hv, ih h.2⟩
      · simp only [D.immKV, Bool.and_eq_true]; exact ⟨h.1, ih h.2⟩
  have go2 : ∀ {ds : List (D × D)}, D.immKV ds = true → D.immKV (ds ++ [(k, v)]) = true := by
    intro ds
    induction ds with
    | nil => intro _; simp [D.immKV, hv]
    | cons p ds ih =>
      intro h
      obtain ⟨p1, p2⟩ := p
      simp only [D.immKV, Bool.and_eq_true] at h
      simp only [List.cons_append, D.immKV, Bool.and_eq_true]
      exact ⟨h.1, ih h.2⟩
  unfold D.put
  split
  · exact go1 hd
  · exact go2 hd
theorem set_immL {xs : List D} {j : Nat} {d : D} (h : D.immL xs = true) (hd : d.imm = true) : D.immL (xs.set j d) = true := immL_of fun y hy => by
  rcases List.mem_or_eq_of_mem_set hy with hy | hy
  · exact immL_at h _ hy
  · rw [hy]; exact hd
theorem repK_len2 {K : PySem.W.Frag} {H : Hp} {A : Addr → Prop} {kvs : List (Key × V)} {ds : List (D × D)} (r : RepK K H A kvs ds) : kvs.length = ds.length := repK_len r
theorem ss_put {i : Nat} {o k : Expr} {dk de : DE} (hp : PS X st (tAsg (tD X.K W [] (ev C G de) false false) (gSub (tVar i) (tD X.K W [] (ev C G dk) false false) rSetD))) (hi : i ∈ M) : SS X W M C G F st (.put i dk de) :=
  PS.imp hp fun Ed σ H ⟨env, H0, A0, A, s, h⟩ => by
    simp only [evS] at h
    obtain ⟨z1, z2⟩ := s.all
    refine ⟨env, A0, z1, z2, h.pst s (fr := false) (t := false) fun d v H1 _ s1 r _ _ k1 st1 => ?_⟩
    simp only [getE] at k1
    split at k1
    · rename_i x ex
      dsimp only [R.then_ok] at k1
      obtain ⟨a, h1, h2, h3, h4⟩ := st1.own i hi x ex
      obtain ⟨y1, y2⟩ := st1.all
      refine ⟨.ref a, h1, env, A0, y1, y2, k1.pst st1 (fr := false) (t := false) fun y w H2 _ s2 ry _ _ k2 st2 => ?_⟩
      split at k2
      · rename_i him
        obtain ⟨a', h1', _, h3', h4'⟩ := st2.own i hi x ex
        have ea : a' = a := by rw [h1] at h1'; cases h1'; rfl
        subst ea
        cases x with
        | lst xs =>
          obtain ⟨vs, q1, q2, q3, q4⟩ := h4'
          cases ry with
          | int n =>
            dsimp only at k2
            split at k2
            · rename_i j hj
              refine .inl ⟨a', vs, n, j, rfl, rfl, q1, by rw [q2.length]; exact hj, ?_⟩
              have kF : Keep (fun _ => False) H2 (upd H2 a' (.lst (vs.set j v))) := ⟨fun _ _ z => z.elim, fun b ys e => by rw [upd_ne fun z => by subst z; rw [q1] at e; cases e]; exact e, fun b o u e => by rw [upd_ne fun z => by subst z; rw [q1] at e; cases e]; exact e⟩
              have own' : Own X.K (upd H2 a' (.lst (vs.set j v))) a' (.lst (xs.set j d)) :=
                ⟨_, upd_same, RepL.keep kF (fun _ z => z) (q2.set j ((r.same s2).imm him)), by simpa using q3, set_immL q4 him⟩
              obtain ⟨u, f⟩ := st2.change hi h1 own' fun b hb => by
                by_cases z : b = a'
                · subst z; rw [upd_same]; simp
                · rw [upd_ne z]; exact hb
              exact k2 _ _ _ u f
            · exact k2.elim
          | _ => exact k2.elim
        | dct kvs =>
          obtain ⟨ks, q1, q2, q3, q4⟩ := h4'
          dsimp only at k2
          split at k2
          · rename_i hk
            simp only [Bool.and_eq_true, beq_iff_eq, decide_eq_true_eq] at hk
            obtain ⟨⟨k3, k4⟩, k5⟩ := hk
            obtain ⟨key, e1, e2⟩ := rep_key ry k3
            subst e1 e2
            have hko : KOk key := by
              cases key with
              | inl i => trivial
              | inr x => cases ry with
                | str _ h1 h2 => exact ⟨h1, h2⟩
            refine .inr ⟨a', _, rfl, .k q1 (by rw [repK_len q2, sz_eq]; exact k5), ?_⟩
            have kF : Keep (fun _ => False) H2 (upd H2 a' (.dK (putK ks key v))) := ⟨fun _ _ z => z.elim, fun b ys e => by rw [upd_ne fun z => by subst z; rw [q1] at e; cases e]; exact e, fun b o u e => by rw [upd_ne fun z => by subst z; rw [q1] at e; cases e]; exact e⟩
            have own' : Own X.K (upd H2 a' (.dK (putK ks key v))) a' (.dct (D.put kvs (kD key) d)) :=
              ⟨_, upd_same, RepK.keep kF (fun _ z => z) (q2.put hko ((r.same s2).imm him)), by have := put_len kvs (kD key) d; omega, put_imm q4 him⟩
            obtain ⟨u, f⟩ := st2.change hi h1 own' fun b hb => by
              by_cases z : b = a'
              · subst z; rw [upd_same]; simp
              · rw [upd_ne z]; exact hb
            exact k2 _ _ _ u f
          · exact k2.elim
        | _ => exact h4'.elim
      · exact k2.elim
    · exact k1.elim

/-! ### while -/
theorem ss_while {c : Expr} {dc : DE} {body : List Stmt} {db : DSs} {pos : Pos} (hp : PassesOwn (model X.prog X.w) X.A X.env X.xe) (hc : ST X W M C G c dc) (hb : SSs X W M C G F body db) : SS X W M C G F (.While c body [] pos) (.while dc db) :=
  PS.imp (ps_while hp hc hb) fun Ed σ H ⟨env, H0, A0, A, s, h⟩ => by
    simp only [evS] at h
    refine ⟨fun n σ' H' => ∃ env' A', StOk X.K M H0 A0 A' σ' H' env' ∧ Fr M db.wr A σ H A' σ' H' ∧ PO X.K W M H0 A0 db.wr A' σ' H' Ed (whileE (fun e => (ev C G dc e).bind D.truth) (evSs C G F db) n env'), ⟨F, env, A, s, Fr.refl, h⟩, ?_⟩
    rintro n σ1 H1 ⟨env1, A1, s1, f1, h1⟩
    cases n with
    | zero => exact h1.elim
    | succ n =>
      simp only [whileE] at h1
      refine ⟨env1, A1, s1.ok, s1.e, h1.pstB s1 fun d H2 _ ss h2 st2 => ?_⟩
      have f2 : Fr M db.wr A σ H A1 σ1 H2 := f1.trans (Fr.same ss)
      cases d with
      | false =>
        rw [if_neg Bool.false_ne_true] at h2 ⊢
        exact h2 _ _ _ st2 Fr.refl
      | true =>
        rw [if_pos rfl] at h2 ⊢
        refine ⟨fun σ' H' => ∃ env' A', StOk X.K M H0 A0 A' σ' H' env' ∧ Fr M db.wr A σ H A' σ' H' ∧ PO X.K W M H0 A0 db.wr A' σ' H' Ed (whileE (fun e => (ev C G dc e).bind D.truth) (evSs C G F db) n env'), fun σ' H' q => ⟨n, Nat.lt_succ_self n, q⟩, env1, H0, A0, A1, st2, ?_⟩
        cases e : evSs C G F db env1 with
        | nx e2 => rw [e] at h2; exact fun A' σ' H' s' f => ⟨e2, A', s', f2.trans f, PO.from f (show PO X.K W M H0 A0 db.wr A1 σ1 H2 Ed _ from h2)⟩
        | ct e2 => rw [e] at h2; exact fun A' σ' H' s' f => ⟨e2, A', s', f2.trans f, PO.from f (show PO X.K W M H0 A0 db.wr A1 σ1 H2 Ed _ from h2)⟩
        | bk e2 => rw [e] at h2; exact h2
        | rt v => rw [e] at h2; exact h2
        | exc c e2 => rw [e] at h2; exact h2
        | bad => rw [e] at h2; exact h2
/-! ### for -/
/-- the slots that are changed in their place and written in w -/
def Mw (M w : List Nat) : List Nat := M.filter fun i => w.contains i
theorem mem_Mw {M w : List Nat} {i : Nat} : i ∈ Mw M w ↔ i ∈ M ∧ i ∈ w := by
  unfold Mw
  rw [List.mem_filter]
  simp
theorem for_core {iter tg : Expr} {T : Tg} {k : IK} {src : DEs} {body : List Stmt} {db : DSs} {pos : Pos} {m : Bool} (hp : PassesOwn (model X.prog X.w) X.A X.env X.xe) (hc : X.calm = true)
    (hi : PI X tg iter (tIt X.K W (if m then Mw M (T.slots ++ db.wr) else M) k (evs C G src) false)) (hg : PG X tg (gT X.K T)) (hb : SSs X W M C G F body db) (hT : ∀ i ∈ T.slots, i ∉ M)
    (hs : ∀ x, foldedSetIterable iter X.env x = pure x) (hw : (DS.for m T k src db).wr = T.slots ++ db.wr) : SS X W M C G F (.For tg iter body [] pos) (.for m T k src db) :=
  PS.imp (ps_for hp hc hi hg hb hs) fun Ed σ H ⟨env, H0, A0, A, s, h⟩ => by
    rw [hw] at h
    simp only [evS] at h
    -- what the walk leans on
    have hE : ∃ A2 : Addr → Prop, OkA H A2 ∧ EnvOk X.K (if m then Mw M (T.slots ++ db.wr) else M) A2 σ H env ∧ (∀ b, A2 b → H b ≠ none → ∀ i ∈ M, i ∈ T.slots ++ db.wr → σ[i]? ≠ some (some (.ref b))) ∧ (m = false → A2 = A) := by
      cases m with
      | false => exact ⟨A, s.ok, s.e, fun b hb _ i hi _ z => (s.at_ hi z).1 hb, fun _ => rfl⟩
      | true =>
        refine ⟨fun b => A b ∨ ∃ i ∈ M, i ∉ T.slots ++ db.wr ∧ σ[i]? = some (some (.ref b)), fun p n => .inl (s.ok p n), ⟨s.e.len, fun i d e => ?_⟩, fun b hb hn i hi hiw z => ?_, fun z => by cases z⟩
        · obtain ⟨v, q1, q2, q3⟩ := s.e.at_ i d e
          refine ⟨v, q1, q2, fun hm => ?_⟩
          by_cases hiM : i ∈ M
          · obtain ⟨a, r1, r2, r3, r4⟩ := s.own i hiM d e
            rw [q1] at r1
            cases r1
            exact r4.rep (.inr ⟨i, hiM, fun z => hm (mem_Mw.mpr ⟨hiM, z⟩), q1⟩)
          · exact (q3 hiM).alw fun a _ _ z => .inl z
        · rcases hb with hb | ⟨j, hj, hjw, ej⟩
          · exact (s.at_ hi z).1 hb
          · have := s.dist i hi j hj b z ej
            subst this
            exact hjw hiw
    obtain ⟨A2, ok2, e2, own2, eA⟩ := hE
    refine ⟨env, A2, ok2, e2, ?_⟩
    rcases h.then with ⟨xs, ex, h⟩ | ⟨c, ex, hx⟩
    · rw [ex]
      intro J H1 s1 hz hwk
      have st1 := s.same s1
      have h1 : PO X.K W M H0 A0 (T.slots ++ db.wr) A σ H1 Ed (if m && !D.immL xs then O.bad else forE T (evSs C G F db) xs env) := PO.from (Fr.same s1) h
      split at h1
      · exact h1.elim
      rename_i him
      have him' : m = true → D.immL xs = true := fun e => by simpa [e] using him
      have wk := hwk (fun a => A2 a ∧ H1 a ≠ none) fun a o ha q => ⟨q.resolve_left (by simp), by rw [ha]; simp⟩
      have own3 : ∀ b, (fun a => A2 a ∧ H1 a ≠ none) b → H1 b ≠ none → ∀ i ∈ M, i ∈ T.slots ++ db.wr → σ[i]? ≠ some (some (.ref b)) := fun b hb hn i hi hiw z => by
        by_cases q : H b = none
        · obtain ⟨_, _, d, _, od⟩ := s.at_ hi z
          exact od.ne q
        · exact own2 b hb.1 q i hi hiw z
      refine ⟨fun j n σ' H' => j ≤ xs.length ∧ n = xs.length - j ∧ ∃ env' A', StOk X.K M H0 A0 A' σ' H' env' ∧ Fr M (T.slots ++ db.wr) A σ H1 A' σ' H' ∧ PO X.K W M H0 A0 (T.slots ++ db.wr) A' σ' H' Ed (forE T (evSs C G F db) (xs.drop j) env'), ⟨xs.length, Nat.zero_le _, by omega, env, A, st1, Fr.refl, by simpa using h1⟩, ?_⟩
      rintro j n σ2 H2 ⟨hj, rfl, env2, A3, st2, f2, h2⟩
      have kp : Keep (fun a => A2 a ∧ H1 a ≠ none) H1 H2 := f2.keepB st1 own3
      obtain ⟨wgo, wstop⟩ := wk j H2 kp
      by_cases hlt : j < xs.length
      · right
        obtain ⟨go, yl⟩ := wgo hlt
        rw [List.drop_eq_getElem_cons hlt] at h2
        simp only [forE] at h2
        refine ⟨go, fun σ' H' => j + 1 ≤ xs.length ∧ ∃ env' A', StOk X.K M H0 A0 A' σ' H' env' ∧ Fr M (T.slots ++ db.wr) A σ H1 A' σ' H' ∧ PO X.K W M H0 A0 (T.slots ++ db.wr) A' σ' H' Ed (forE T (evSs C G F db) (xs.drop (j + 1)) env'), fun σ' H' q => ⟨xs.length - (j + 1), by omega, q.1, rfl, q.2⟩, fun x H3 y => ?_⟩
        obtain ⟨s4, d, hd, rd⟩ := yl x H3 y
        have ed : d = xs[j] := Option.some.inj (hd.symm.trans (List.getElem?_eq_getElem hlt))
        subst ed
        have st3 := st2.same s4
        have f3 := f2.trans (Fr.same (M := M) (w := T.slots ++ db.wr) (A := A3) (σ := σ2) s4)
        have h3 := PO.from (Fr.same (M := M) (w := T.slots ++ db.wr) (A := A3) (σ := σ2) s4) h2
        have rd' : Rep X.K H3 A3 x xs[j] := by
          cases hm : m with
          | false => exact rd.alw fun a o ha z => f2.al a (by rw [← eA hm]; exact z.1) z.2
          | true => exact rd.imm (immL_at (him' hm) _ (List.getElem_mem hlt))
        split at h3
        · exact h3.elim
        · rename_i env3 t3
          -- the target takes it
          have tk : ∃ is vs ds, T.slots = is ∧ RepL X.K H3 A3 vs ds ∧ setEs is ds env2 = some env3 ∧ ∀ Q : L2.St → Hp → Prop, (vs.length = is.length → Q (setVs is vs σ2) H3) → gT X.K T x σ2 H3 Q := by
            cases T with
            | nm i => exact ⟨[i], [x], [xs[j]], rfl, .cons rd' .nil, t3, fun Q q => q rfl⟩
            | tp is =>
              generalize xs[j] = dj at rd' t3
              cases rd' with
              | @tup a us es q1 q2 q3 => exact ⟨is, us, es, rfl, q2, t3, fun Q q => ⟨a, us, rfl, q1, (by
                  obtain ⟨_, l⟩ := st3.e.sets (fun i hi => hT i hi) q2 t3
                  exact l), gSeq_ok (by
                  obtain ⟨_, l⟩ := st3.e.sets (fun i hi => hT i hi) q2 t3
                  exact l) (q (by
                  obtain ⟨_, l⟩ := st3.e.sets (fun i hi => hT i hi) q2 t3
                  exact l))⟩⟩
              | _ => cases t3
          obtain ⟨is, vs, ds, eis, rL, es, gk⟩ := tk
          refine gk _ fun hl => ?_
          obtain ⟨st4, _, f4⟩ := st3.sets (fun i hi => hT i (by rw [eis]; exact hi)) rL es
          have f5 : Fr M (T.slots ++ db.wr) A3 σ2 H3 A3 (setVs is vs σ2) H3 := f4.mono fun i hi => List.mem_append_left _ (by rw [eis]; exact hi)
          have h4 := PO.from f5 h3
          have f6 := f3.trans f5
          refine ⟨env3, H0, A0, A3, st4, ?_⟩
          have sub : ∀ i ∈ db.wr, i ∈ T.slots ++ db.wr := fun i hi => List.mem_append_right _ hi
          cases e : evSs C G F db env3 with
          | nx e2 => rw [e] at h4; exact fun A' σ' H' s' f => ⟨hlt, e2, A', s', f6.trans (f.mono sub), PO.from (f.mono sub) (show PO X.K W M H0 A0 (T.slots ++ db.wr) A3 (setVs is vs σ2) H3 Ed _ from h4)⟩
          | ct e2 => rw [e] at h4; exact fun A' σ' H' s' f => ⟨hlt, e2, A', s', f6.trans (f.mono sub), PO.from (f.mono sub) (show PO X.K W M H0 A0 (T.slots ++ db.wr) A3 (setVs is vs σ2) H3 Ed _ from h4)⟩
          | bk e2 => rw [e] at h4; exact fun A' σ' H' s' f => h4 A' σ' H' s' (f.mono sub)
          | rt v => rw [e] at h4; exact h4
          | exc c e2 => rw [e] at h4; exact h4
          | bad => rw [e] at h4; exact h4
      · left
        refine ⟨wstop (by omega), ?_⟩
        rw [List.drop_eq_nil_of_le (by omega)] at h2
        exact h2 _ _ _ st2 Fr.refl
    · rw [ex]
      exact fun H1 s1 => hx σ H1 (s.s0.trans s1)
end
end B

set_option maxHeartbeats 1000000
/-! GenQ: what the text must look like: rules with conditions that a reading decides. -/
namespace B
open PySem PySem.Spec PyProof.Rows L2
def ixB : Expr → Bool
  | .Slice _ _ _ _ => false
  | .Name _ _ | .Constant _ _ _ | .BinOp _ _ _ _ | .Subscript _ _ _ | .Call _ _ _ _ | .UnaryOp _ _ _ | .IfExp _ _ _ _ | .Tuple _ _ _ => true
  | _ => false
theorem ix_plain {b : Expr} (h : ixB b = true) : PlainIx b := by
  intro o i
  cases b <;> first | rfl | cases h
def testB : Expr → Bool
  | .UnaryOp .Not _ _ | .BoolOp _ _ _ | .IfExp _ _ _ _ | .Compare _ _ _ _ => false
  | _ => true
theorem test_plain {e : Expr} {env : PySem.Env} (h : testB e = true) : ∀ whole, isTrue e env whole = (do let v ← whole; standAt e.pos; holding [v] (truthy v)) := by
  intro whole
  cases e <;> first | rfl | cases h | skip
  rename_i op x p
  cases op <;> first | rfl | cases h
def setB : Expr → Bool
  | .Set _ _ _ => false
  | _ => true
theorem set_plain {e : Expr} {env : PySem.Env} (h : setB e = true) : ∀ x, foldedSetIterable e env x = pure x := by
  intro x
  cases e <;> first | rfl | cases h
def compB : Expr → Bool
  | .ListComp _ _ _ _ | .SetComp _ _ _ _ | .DictComp _ _ _ _ _ => false
  | _ => true
theorem swaps_no {e : Expr} {tg : Option Expr} {l : Nat} {env : PySem.Env} (h : compB e = true) : swapsWith e tg l env = pure false := by
  cases e <;> first | rfl | cases h
theorem swaps_sub {e o i : Expr} {p : Pos} {l : Nat} {env : PySem.Env} : swapsWith e (some (.Subscript o i p)) l env = pure false := by
  cases e <;> rfl
theorem swaps_tup {e : Expr} {es : List Expr} {k : Nat} {p : Pos} {l : Nat} {env : PySem.Env} : swapsWith e (some (.Tuple es k p)) l env = pure false := by
  cases e <;> rfl
def callB : Expr → Bool
  | .Call _ _ _ _ => false
  | _ => true
theorem base_plain {o : Expr} {a : Str} {env : PySem.Env} {w : Sem Value} (h : callB o = true) : attributeBase o a env w = w := by
  cases o <;> first | rfl | cases h
def tupB : Expr → Bool
  | .Tuple _ _ _ => false
  | _ => true
theorem stores_no {t e : Expr} {env : PySem.Env} (h : tupB e = true) : swappedStores [t] e env = pure none := by
  cases e <;> first | (cases h; done) | (cases t <;> rfl)
theorem stores_nm {x : Str} {p : Pos} {e : Expr} {env : PySem.Env} : swappedStores [.Name x p] e env = pure none := by
  cases e <;> rfl
theorem stores_sub {o i : Expr} {p : Pos} {e : Expr} {env : PySem.Env} : swappedStores [.Subscript o i p] e env = pure none := by
  cases e <;> rfl
def visB (sc : Scope) (x : Str) : Bool := match sc.names.lookup x with
  | some .local => true
  | some .cell => true
  | some .free => true
  | _ => false
def glB (sc : Scope) (x : Str) : Bool := match sc.names.lookup x with
  | some .globalImplicit => true
  | _ => false
def locB (sc : Scope) (fc : Str → Bool) (x : Str) : Bool := match sc.names.lookup x with
  | some .local => true
  | some .cell => fc x
  | _ => false
def nmOk (x : Str) : Bool := !(x == ("__debug__" : Str)) && !(x == ("__classdict__" : Str))
theorem vis_of {sc : Scope} {x : Str} (h : visB sc x = true) : Vis sc x := by
  unfold visB at h
  split at h <;> first | (rename_i e; exact .inl e) | (rename_i e; exact .inr (.inl e)) | (rename_i e; exact .inr (.inr e)) | cases h
/-- names of the module that no builtin has -/
abbrev bnames : List Str := ["len", "tuple", "list", "dict", "max", "min", "sum", "all", "any", "str", "int", "bool", "isinstance", "sorted", "set", "range", "enumerate", "zip", "ValueError"]
/-- where a text stands -/
structure CtxOk (ec : Nat → Addr) (gn : List Str) (fns : Nat → Option (Str × Nat)) (N : List Str) (C : Nat → List D → R D) (G : List D) (X : Cx) (W : WC) (sc : Scope) (fc : Str → Bool) : Prop where
  sc : X.env.scope = sc
  calm : X.calm = true
  n : X.N = N
  nd : N.Nodup
  room : X.A.units + 200 < cLine
  g : GOk X.K X.w X.mg G gn
  mg0 : ∀ x ∈ bnames, X.mg x = none
  calls : ∀ i nm np, fns i = some (nm, np) → ∃ (k : Nat) (f : Addr) (fd : FuncData) (ps : List Str), FnOk X.prog X.w X.K X.mg X.base (L2.CX X.prog X.w) k f fd ps (spF X.K ec ps.length (C i)) ∧ Room k X.A ∧ X.mg nm = some (.ref f) ∧ PySem.W.keepIn X.K (.ref f) = true ∧ Binds X.K fd ps [] ∧ ps.length = np
  pass : ∀ σ, PassesAt (L2.CX X.prog X.w) X σ (EW ec W σ)
  fn : ∀ x, fc x = true → X.fn x = true
section
variable {ec : Nat → Addr} {gn : List Str} {fns : Nat → Option (Str × Nat)} {N : List Str} {C : Nat → List D → R D} {G : List D} {X : Cx} {W : WC} {sc : Scope} {fc : Str → Bool}
theorem CtxOk.gl {x : Str} (c : CtxOk ec gn fns N C G X W sc fc) (h : glB sc x = true) : Gl X x := by
  unfold glB at h
  split at h
  · rename_i e
    show X.env.scope.names.lookup x = _
    rw [c.sc]; exact e
  · cases h
theorem CtxOk.vis {x : Str} (c : CtxOk ec gn fns N C G X W sc fc) (h : visB sc x = true) : Vis X.env.scope x := by
  rw [c.sc]; exact vis_of h
theorem CtxOk.loc {x : Str} (c : CtxOk ec gn fns N C G X W sc fc) (h : locB sc fc x = true) : Loc X.env.scope x ∧ (X.fn x = true ∨ X.env.scope.names.lookup x = some .local) := by
  rw [c.sc]
  unfold locB at h
  split at h
  · rename_i e; exact ⟨.inl e, .inr e⟩
  · rename_i e; exact ⟨.inr e, .inl (c.fn x h)⟩
  · cases h
/-- the block of a comprehension -/
theorem CtxOk.blk (c : CtxOk ec gn fns N C G X W sc fc) (scope : Scope) (s : Shared) (H : Hp) (Ca : Addr) (cl : List (Str × Addr)) (fp : List Addr) :
    CtxOk ec gn fns N C G (X.blk s H scope (compEnvC scope cl Ca X.env) fp) W0 (relS scope sc) (fun x => scope.names.lookup x == some .cell) where
  sc := by rw [← c.sc]; rfl
  calm := c.calm
  n := c.n
  nd := c.nd
  room := c.room
  g := c.g
  mg0 := c.mg0
  calls := c.calls
  pass := fun σ pins H s e s' I h => by
    obtain ⟨_, _, _, _, _, _, _, _, _, _, _, _, _, _, _, z⟩ := h
    exact z.elim
  fn := fun x h => h
end
section
variable {X : Cx} {W : WC} {M : List Nat} {C : Nat → List D → R D} {G : List D} {fr t : Bool}
theorem se_relax {e : Expr} {de : DE} (h : SE X W M C G fr true e de) (hi : ∀ env d, ev C G de env = .ok d → d.imm = true) : SE X W M C G fr t e de :=
  PE.imp h fun σ H Q ⟨env, A, hA, hE, q⟩ => by
    refine ⟨env, A, hA, hE, ?_⟩
    cases e1 : ev C G de env with
    | ok d => rw [e1] at q; exact fun v H' s r f => q v H' s (r.imm (hi env d e1)) f
    | exc c => rw [e1] at q; exact q
    | bad => rw [e1] at q; exact q
theorem se_unfr {e : Expr} {de : DE} (h : SE X W M C G fr t e de) : SE X W M C G false t e de :=
  PE.imp h fun σ H Q ⟨env, A, hA, hE, q⟩ => by
    refine ⟨env, A, hA, hE, ?_⟩
    cases e1 : ev C G de env with
    | ok d => rw [e1] at q; exact fun v H' s r f => q v H' s r fun z => by cases z
    | exc c => rw [e1] at q; exact q
    | bad => rw [e1] at q; exact q
/-- a comparison as a test -/
theorem st_of {e : Expr} {de : DE} {r : TE} (hp : PT X e (tTest r)) (imp : ∀ σ H Q, tD X.K W M (ev C G de) false true σ H Q → r σ H Q) (hb : ∀ env d, ev C G de env = .ok d → ∃ b, d = .bl b) : ST X W M C G e de :=
  PT.imp hp fun σ H Q ⟨env, A, hA, hE, h⟩ => imp σ H _ ⟨env, A, hA, hE, by
    dsimp only at h
    cases e1 : ev C G de env with
    | exc c => rw [e1] at h; exact h
    | bad => rw [e1] at h; exact h
    | ok d =>
      rw [e1, R.bind_ok] at h
      obtain ⟨b, rfl⟩ := hb env d e1
      intro v H' s r _
      cases r
      exact ⟨b, rfl, h H' s⟩⟩
theorem imp_chn {o o' : Cm} {da db dc : DE} (σ : L2.St) (H : Hp) (Q : VK) (h : tD X.K W M (ev C G (.chn o o' da db dc)) fr t σ H Q) : tChain (D2B X.K (D.cmD o)) (D2B X.K (D.cmD o')) (tD X.K W M (ev C G da) false true) (tD X.K W M (ev C G db) false true) (tD X.K W M (ev C G dc) false true) σ H Q := by
  obtain ⟨env, A, hA, hE, h⟩ := h
  simp only [ev] at h
  exact ⟨env, A, hA, hE, h.bindE (t' := true) fun d v H1 _ s1 r1 _ h1 => ⟨env, A, hA.same s1, hE.same s1, h1.bindE (t' := true) fun e u H2 _ s2 r2 _ h2 => ⟨W, _, _, σ, d, e, r1.same s2, r2, h2.bindB fun k H3 _ s3 h3 => ⟨k, rfl, by
    cases k with
    | false => rw [if_neg Bool.false_ne_true]; rw [if_neg Bool.false_ne_true] at h3; exact h3.bl
    | true =>
      rw [if_pos rfl]
      rw [if_pos rfl] at h3
      exact ⟨env, A, ((hA.same s1).same s2).same s3, ((hE.same s1).same s2).same s3, h3.bindE (t' := true) fun f w H4 _ s4 r4 _ h4 => ⟨W, _, _, σ, e, f, (r2.same s3).same s4, r4, h4.toB⟩⟩⟩⟩⟩⟩
theorem bind_bl {r : R Bool} {d : D} (h : (r.bind fun c => R.ok (D.bl c)) = .ok d) : ∃ b, d = .bl b := by
  cases r with
  | ok b => exact ⟨b, by injection h with h; exact h.symm⟩
  | exc c => cases h
  | bad => cases h
theorem chn_bl {o o' : Cm} {da db dc : DE} {env : Env} {d : D} (h : ev C G (.chn o o' da db dc) env = .ok d) : ∃ b, d = .bl b := by
  simp only [ev] at h
  cases e1 : ev C G da env with
  | ok x =>
    rw [e1, R.bind_ok] at h
    cases e2 : ev C G db env with
    | ok y =>
      rw [e2, R.bind_ok] at h
      cases e3 : D.cmD o x y with
      | ok k =>
        rw [e3, R.bind_ok] at h
        cases k with
        | false => exact ⟨false, by injection h with h; exact h.symm⟩
        | true =>
          rw [if_pos rfl] at h
          cases e4 : ev C G dc env with
          | ok z => rw [e4, R.bind_ok] at h; exact bind_bl h
          | exc c => rw [e4] at h; cases h
          | bad => rw [e4] at h; cases h
      | exc c => rw [e3] at h; cases h
      | bad => rw [e3] at h; cases h
    | exc c => rw [e2] at h; cases h
    | bad => rw [e2] at h; cases h
  | exc c => rw [e1] at h; cases h
  | bad => rw [e1] at h; cases h
theorem st_chn {o o' : Cm} {oc oc' : CmpOp} {a b c : Expr} {da db dc : DE} {pos : Pos} (ho : OpR X (compareOp oc) (D2B X.K (D.cmD o))) (ho' : OpR X (compareOp oc') (D2B X.K (D.cmD o'))) (ha : SE X W M C G false true a da) (hb : SE X W M C G false true b db) (hc : SE X W M C G false true c dc)
    (hm : lastMarks [oc, oc'] [b, c] = false) : ST X W M C G (.Compare a [oc, oc'] [b, c] pos) (.chn o o' da db dc) :=
  st_of (pt_chain ho ho' ha hb hc hm) (fun σ H Q h => imp_chn σ H Q h) fun env d h => chn_bl h
theorem st_gin {gn : List Str} {i : Nat} {x : Str} {pos p2 : Pos} {b : Expr} {db : DE} (hG : GOk X.K X.w X.mg G gn) (hx : gn[i]? = some x) (hg : Gl X x) (hd : (x == ("__debug__" : Str)) = false) (hb : SE X W M C G false true b db) : ST X W M C G (.Compare b [.In] [.Name x pos] p2) (.gin i db) := by
  cases e : G[i]? with
  | none => exact ⟨fun pins s σ H Q I ⟨env, A, hA, hE, h⟩ => by simp only [ev, e] at h; exact h.elim⟩
  | some d =>
    have hq := hG i d x e hx
    cases d with
    | dct kvs =>
      obtain ⟨a, es, n, q, hD, hk⟩ := hq
      refine st_of (pt_cmpR (op_in_kd hD) hb (pe_glob (v := .ref a) hg q rfl hd) rfl) (fun σ H Q ⟨env, A, hA, hE, h⟩ => ?_) fun env d h => ?_
      · simp only [ev, e] at h
        refine ⟨env, A, hA, hE, h.bindE (t' := true) fun y w H1 _ s1 r1 _ h1 => ?_⟩
        cases r1 with
        | str z _ _ =>
          have hz := hk z
          dsimp only at h1
          cases e2 : D.find kvs (.str z) with
          | none =>
            rw [e2] at h1 hz
            exact ⟨z, none, rfl, rfl, hz, h1.bl⟩
          | some d =>
            rw [e2] at h1 hz
            obtain ⟨u, v, h2, h3, h4⟩ := hz
            exact ⟨z, some u, rfl, rfl, h2, h1.bl⟩
        | _ => exact h1.elim
      · simp only [ev, e] at h
        cases e1 : ev C G db env with
        | ok y =>
          rw [e1, R.bind_ok] at h
          cases y with
          | str z => injection h with h; exact ⟨_, h.symm⟩
          | _ => cases h
        | exc c => rw [e1] at h; cases h
        | bad => rw [e1] at h; cases h
    | _ => exact ⟨fun pins s σ H Q I ⟨env, A, hA, hE, h⟩ => by simp only [ev, e] at h; exact h.elim⟩
theorem se_lc {iter elt tg : Expr} {ifs : List Expr} {scope : Scope} {own : List (Str × Nat)} {pos : Pos} {T : Tg} {k : IK} {src cond : DEs} {de : DE} {m t0 : Bool} (hc : X.calm = true) (hN : X.N.Nodup) (hi : SI X W M C G t0 tg iter k src) (ok : BlkOk X.N X.env.scope scope own)
    (hg : ∀ (s : Shared) (H : Hp) (Ca : Addr) (cl : List (Str × Addr)) (fp : List Addr), PG (X.blk s H scope (compEnvC scope cl Ca X.env) fp) tg (gT X.K T))
    (ht : ∀ (s : Shared) (H : Hp) (Ca : Addr) (cl : List (Str × Addr)) (fp : List Addr), SCs (X.blk s H scope (compEnvC scope cl Ca X.env) fp) W0 (if m then [] else M) C G ifs cond)
    (he : ∀ (s : Shared) (H : Hp) (Ca : Addr) (cl : List (Str × Addr)) (fp : List Addr), SE (X.blk s H scope (compEnvC scope cl Ca X.env) fp) W0 (if m then [] else M) C G false false elt de)
    (hs : ∀ x, foldedSetIterable iter X.env x = pure x) (ht0 : m = false → t0 = false) (hT : ∀ i ∈ T.slots, i ∈ own.map (·.2)) (hTM : m = false → ∀ i ∈ T.slots, i ∉ M) : SE X W M C G fr t (.ListComp elt [⟨tg, iter, ifs, 0⟩] scope pos) (.lc m de T k src cond (own.map (·.2))) :=
  PE.imp (pe_lc hc hN hi ok hg ht he hs) fun σ H Q ⟨env, A, hA, hE, h⟩ => lc_loop ht0 hT hTM hA hE h
end
end B

set_option maxHeartbeats 2000000
/-! GenR: the checker of expressions. -/
namespace B
open PySem PySem.Spec PyProof.Rows L2
structure Cfg where
  N : List Str
  gn : List Str
  fns : Nat → Option (Str × Nat)
/-- how an expression is read: as a value (new; of any place), as a test -/
inductive Md where | e (fr t : Bool) | t
def Md.fr : Md → Bool
  | .e fr _ => fr
  | .t => false
def Md.tt : Md → Bool
  | .e _ b => b
  | .t => true
/-- .. of its parts -/
def Md.sub : Md → Md
  | .e _ b => .e false b
  | .t => .t
def strip : Expr → Expr
  | .BoolOp _ [a] _ => a
  | e => e
def opB : Op → Operator → Bool
  | .add, .Add | .sub, .Sub | .mul, .Mult | .mod, .Mod | .fdiv, .FloorDiv => true
  | _, _ => false
def cmB : Cm → CmpOp → Bool
  | .eq, .Eq | .ne, .NotEq | .lt, .Lt | .le, .LtE | .gt, .Gt | .ge, .GtE | .in, .In | .nin, .NotIn | .is, .Is | .isnot, .IsNot => true
  | _, _ => false
def constB : D → Const → Bool
  | .non, .none => true
  | .bl b, .bool c => b == c
  | .int i, .int j => i == j
  | .str x, .str y => x == y && PyData.strOk x && decide (x.length ≤ SZ)
  | _, _ => false
def biF : Bi → Option (Str × Value)
  | .len => some ("len", .builtin "len")
  | .tup => some ("tuple", .type "tuple")
  | .lst => some ("list", .type "list")
  | .sorted => some ("sorted", .builtin "sorted")
  | .dict => some ("dict", .type "dict")
  | .max => some ("max", .builtin "max")
  | .min => some ("min", .builtin "min")
  | .sum => some ("sum", .builtin "sum")
  | .all => some ("all", .builtin "all")
  | .any => some ("any", .builtin "any")
  | .int => some ("int", .type "int")
  | _ => none
/-- a number or a truth comes -/
def biS : Bi → Bool
  | .len | .max | .min | .sum | .all | .any | .int => true
  | _ => false
def tyN : Ty → Str
  | .int => "int" | .bool => "bool" | .str => "str" | .tuple => "tuple" | .cls _ => "?"
def tyOk : Ty → Bool
  | .cls _ => false
  | _ => true
def tysB (sc : Scope) : List Ty → List Expr → Bool
  | [], [] => true
  | t :: ts, .Name x _ :: es => (x == tyN t) && tyOk t && glB sc x && tysB sc ts es
  | _, _ => false
def tyB (sc : Scope) : List Ty → Expr → Bool
  | [t], .Name x _ => (x == tyN t) && tyOk t && glB sc x
  | t :: ts, .Tuple es _ _ => tysB sc (t :: ts) es && decide (ts.length < 10)
  | _, _ => false
def keysB : List Str → List (Option Expr) → Bool
  | [], [] => true
  | x :: xs, some (.Constant (.str y) _ _) :: ks => (x == y) && PyData.strOk y && decide (y.length ≤ SZ) && keysB xs ks
  | _, _ => false
def nmsB (N : List Str) (sc : Scope) (fc : Str → Bool) : List Nat → List Expr → Bool
  | [], [] => true
  | i :: is, .Name x _ :: es => decide (N[i]? = some x) && locB sc fc x && nmsB N sc fc is es
  | _, _ => false
/-- a target -/
def tgB (N : List Str) (sc : Scope) (fc : Str → Bool) : Tg → Expr → Bool
  | .nm i, .Name x _ => decide (N[i]? = some x) && locB sc fc x
  | .tp is, .Tuple es _ _ => nmsB N sc fc is es
  | _, _ => false
def isTup : Expr → Bool
  | .Tuple _ _ _ => true
  | _ => false
/-- what a walk is made of -/
def itArgs (sc : Scope) (tg : Expr) : IK → Expr → Option (List Expr)
  | .seq, e => some [e]
  | .rng1, .Call (.Name x _) [a] [] _ => if x == ("range" : Str) && glB sc x && notStar a then some [a] else none
  | .rng2, .Call (.Name x _) [a, b] [] _ => if x == ("range" : Str) && glB sc x && notStar a && notStar b then some [a, b] else none
  | .enu, .Call (.Name x _) [a] [] _ => if x == ("enumerate" : Str) && glB sc x && notStar a && isTup tg then some [a] else none
  | .zip, .Call (.Name x _) [a, b] [] _ => if x == ("zip" : Str) && glB sc x && notStar a && notStar b && isTup tg then some [a, b] else none
  | _, _ => none
def isRng : IK → Bool
  | .rng1 | .rng2 => true
  | _ => false
def ownOf (N : List Str) (vs : List Nat) : List (Str × Nat) := vs.filterMap fun i => (N[i]?).map fun x => (x, i)
/-- one line of text -/
def lineB (a c : Pos) : Bool := a.endLine == c.line
def disj (is M : List Nat) : Bool := is.all fun i => !M.contains i
mutual
def chk (g : Cfg) : DE → List Nat → Scope → (Str → Bool) → Md → Expr → Bool
  | .v i, M, sc, _, md, e0 => match strip e0 with
    | .Name x _ => !md.fr && decide (g.N[i]? = some x) && visB sc x && nmOk x && (md.tt || !M.contains i)
    | _ => false
  | .k d, _, _, _, md, e0 => match strip e0 with
    | .Constant c _ _ => !md.fr && constB d c
    | _ => false
  | .g i, _, sc, _, md, e0 => match strip e0 with
    | .Name x _ => !md.fr && decide (g.gn[i]? = some x) && glB sc x && nmOk x
    | _ => false
  | .tup es, M, sc, fc, md, e0 => match strip e0 with
    | .Tuple l _ _ => !md.fr && l.all notStar && decide (es.len ≤ SZ) && chkEs g es M sc fc (.e false md.tt) l
    | _ => false
  | .lst es, M, sc, fc, md, e0 => match strip e0 with
    | .List l _ => l.all notStar && decide (es.len ≤ SZ) && chkEs g es M sc fc (.e false md.tt) l
    | _ => false
  | .dct ks es, M, sc, fc, md, e0 => match strip e0 with
    | .Dict keys values _ => keysB ks keys && decide (ks.length = es.len) && decide (0 < es.len) && decide (es.len ≤ 15) && chkEs g es M sc fc (.e false false) values
    | _ => false
  | .op o a b, M, sc, fc, md, e0 => match strip e0 with
    | .BinOp ea oc eb _ => opB o oc && chk g a M sc fc (.e false md.tt) ea && chk g b M sc fc (.e false md.tt) eb
    | _ => false
  | .cmp o a b, M, sc, fc, md, e0 => match strip e0 with
    | .Compare ea [oc] [eb] _ => cmB o oc && !behindInMarks oc eb && chk g a M sc fc (.e false true) ea && chk g b M sc fc (.e false true) eb
    | _ => false
  | .chn o o' a b c, M, sc, fc, md, e0 => match strip e0 with
    | .Compare ea [oc, oc'] [eb, ec] _ => cmB o oc && cmB o' oc' && !lastMarks [oc, oc'] [eb, ec] && chk g a M sc fc (.e false true) ea && chk g b M sc fc (.e false true) eb && chk g c M sc fc (.e false true) ec
    | _ => false
  | .and a b, M, sc, fc, md, e0 => match strip e0 with
    | .BoolOp .And (ea :: eb :: rest) p => !md.fr && chk g a M sc fc md.sub ea && chk g b M sc fc md.sub (.BoolOp .And (eb :: rest) p)
    | _ => false
  | .or a b, M, sc, fc, md, e0 => match strip e0 with
    | .BoolOp .Or (ea :: eb :: rest) p => !md.fr && chk g a M sc fc md.sub ea && chk g b M sc fc md.sub (.BoolOp .Or (eb :: rest) p)
    | _ => false
  | .not a, M, sc, fc, md, e0 => match strip e0 with
    | .UnaryOp .Not ea _ => chk g a M sc fc (match md with
      | .t => .t
      | _ => .e false true) ea
    | _ => false
  | .neg a, M, sc, fc, md, e0 => match strip e0 with
    | .UnaryOp .USub ea _ => chk g a M sc fc (.e false true) ea
    | _ => false
  | .ite c a b, M, sc, fc, md, e0 => match md, strip e0 with
    | .e fr t, .IfExp ec ea eb _ => !fr && chk g c M sc fc .t ec && chk g a M sc fc (.e false t) ea && chk g b M sc fc (.e false t) eb
    | _, _ => false
  | .ix a i, M, sc, fc, md, e0 => match strip e0 with
    | .Subscript ea ei _ => !md.fr && ixB ei && chk g a M sc fc (.e false md.tt) ea && chk g i M sc fc (.e false true) ei
    | _ => false
  | .gix k i, M, sc, fc, md, e0 => match strip e0 with
    | .Subscript (.Name x _) ei _ => !md.fr && ixB ei && decide (g.gn[k]? = some x) && glB sc x && nmOk x && chk g i M sc fc (.e false true) ei
    | _ => false
  | .gin k i, M, sc, fc, md, e0 => match strip e0 with
    | .Compare ei [.In] [.Name x _] _ => decide (g.gn[k]? = some x) && glB sc x && nmOk x && chk g i M sc fc (.e false true) ei
    | _ => false
  | .slA a lo, M, sc, fc, md, e0 => match strip e0 with
    | .Subscript ea (.Slice (some el) none none _) _ => chk g a M sc fc (.e false md.tt) ea && chk g lo M sc fc (.e false true) el
    | _ => false
  | .slB a hi, M, sc, fc, md, e0 => match strip e0 with
    | .Subscript ea (.Slice none (some eh) none _) _ => chk g a M sc fc (.e false md.tt) ea && chk g hi M sc fc (.e false true) eh
    | _ => false
  | .slC a lo hi, M, sc, fc, md, e0 => match strip e0 with
    | .Subscript ea (.Slice (some el) (some eh) none _) _ => chk g a M sc fc (.e false md.tt) ea && chk g lo M sc fc (.e false true) el && chk g hi M sc fc (.e false true) eh
    | _ => false
  | .rev a, M, sc, fc, md, e0 => match strip e0 with
    | .Subscript ea (.Slice none none (some (.UnaryOp .USub (.Constant (.int n) _ _) _)) _) _ => (n == 1) && chk g a M sc fc (.e false md.tt) ea
    | _ => false
  | .call f es, M, sc, fc, md, e0 => match strip e0, g.fns f with
    | .Call (.Name nm _) (ea :: l) [] _, some (nm', np) => !md.fr && (nm == nm') && (es.len == np) && glB sc nm && nmOk nm && (ea :: l).all notStar && chkEs g es M sc fc (.e false md.tt) (ea :: l)
    | _, _ => false
  | .bi b es, M, sc, fc, md, e0 => match b with
    | .isi ts => (match strip e0 with
      | .Call (.Name nm _) [ea, et] [] _ => (nm == ("isinstance" : Str)) && glB sc nm && notStar ea && tyB sc ts et && chkEs g es M sc fc (.e false true) [ea]
      | _ => false)
    | .sset => (match strip e0 with
      | .Call (.Name nm _) [.Call (.Name nm2 _) [ea] [] _] [] _ => (nm == ("sorted" : Str)) && glB sc nm && (nm2 == ("set" : Str)) && glB sc nm2 && notStar ea && chkEs g es M sc fc (.e false md.tt) [ea]
      | _ => false)
    | b => (match strip e0, biF b with
      | .Call (.Name nm _) [ea] [] _, some (nm', _) => (nm == nm') && glB sc nm && notStar ea && chkEs g es M sc fc (.e false (md.tt || biS b)) [ea]
      | _, _ => false)
  | .mt b a es, M, sc, fc, md, e0 => match b, strip e0 with
    | .get, .Call (.Attribute o nm ap) [ek, ex] [] cp => !md.fr && (nm == ("get" : Str)) && callB o && lineB ap cp && notStar ek && notStar ex && chk g a M sc fc (.e false md.tt) o && chkEs g es M sc fc (.e false md.tt) [ek, ex]
    | .index, .Call (.Attribute o nm ap) [ek] [] cp => (nm == ("index" : Str)) && callB o && lineB ap cp && notStar ek && chk g a M sc fc (.e false true) o && chkEs g es M sc fc (.e false true) [ek]
    | _, _ => false
  | .lc m elt T k src cond vs, M, sc, fc, md, e0 => match strip e0 with
    | .ListComp ee [⟨tg, iter, ifs, asy⟩] scope _ => (asy == 0) && (match itArgs sc tg k iter with
        | some args => chkEs g src M sc fc (.e false (m || isRng k)) args
        | none => false) && blkC g.N sc scope (ownOf g.N vs) && decide ((ownOf g.N vs).map (·.2) = vs) && T.slots.all (fun i => vs.contains i) && (m || disj T.slots M) && tgB g.N (relS scope sc) (fun x => scope.names.lookup x == some .cell) T tg && decide (ifs.length ≤ 1)
        && chkEs g cond (if m then [] else M) (relS scope sc) (fun x => scope.names.lookup x == some .cell) .t ifs && chk g elt (if m then [] else M) (relS scope sc) (fun x => scope.names.lookup x == some .cell) (.e false false) ee && setB iter
    | _ => false
def chkEs (g : Cfg) : DEs → List Nat → Scope → (Str → Bool) → Md → List Expr → Bool
  | .nil, _, _, _, _, l => match l with
    | [] => true
    | _ => false
  | .cons d ds, M, sc, fc, md, l => match l with
    | e :: es => chk g d M sc fc md e && chkEs g ds M sc fc md es
    | [] => false
end
end B

set_option maxHeartbeats 2000000
/-! GenS: what the checker of expressions passes is so. -/
namespace B
open PySem PySem.Spec PyProof.Rows L2
section
variable {X : Cx} {W : WC} {M : List Nat} {C : Nat → List D → R D} {G : List D} {md : Md}
def Out (X : Cx) (W : WC) (M : List Nat) (C : Nat → List D → R D) (G : List D) (md : Md) (e : Expr) (de : DE) : Prop := match md with
  | .e fr t => SE X W M C G fr t e de
  | .t => ST X W M C G e de ∧ ∀ op vs pos, e = .BoolOp op vs pos → SW X W M C G e de
theorem Out.mk {e : Expr} {de : DE} (h : SE X W M C G md.fr md.tt e de) (ht : testB e = true) : Out X W M C G md e de := by
  cases md with
  | e fr t => exact h
  | t => exact ⟨st_val h (test_plain ht), fun op vs pos e => by subst e; cases ht⟩
theorem Out.lift {e : Expr} {de : DE} (h : Out X W M C G md (strip e) de) : Out X W M C G md e de := by
  unfold strip at h
  split at h
  · rename_i op a p
    cases md with
    | e fr t => exact se_one h
    | t =>
      have w : SW X W M C G (.BoolOp op [a] p) de := by
        cases op with
        | And => exact sw_and1 h.1
        | Or => exact sw_or1 h.1
      exact ⟨w.st, fun _ _ _ _ => w⟩
  · exact h
inductive AllE (P : Expr → DE → Prop) : List Expr → DEs → Prop
  | nil : AllE P [] .nil
  | cons {e : Expr} {d : DE} {es : List Expr} {ds : DEs} : P e d → AllE P es ds → AllE P (e :: es) (.cons d ds)
theorem AllE.ses {t : Bool} : ∀ {es : List Expr} {ds : DEs}, AllE (fun e d => SE X W M C G false t e d) es ds → es.all notStar = true → SEs X W M C G t es ds
  | _, _, .nil, _ => ses_nil
  | _, _, .cons h r, hs => by
    simp only [List.all_cons, Bool.and_eq_true] at hs
    exact ses_cons h (AllE.ses r hs.2) (star_cons hs.1)
theorem AllE.one {P : Expr → DE → Prop} {e : Expr} {ds : DEs} (h : AllE P [e] ds) : ∃ d, ds = .cons d .nil ∧ P e d := by
  cases h with
  | cons h r => cases r; exact ⟨_, rfl, h⟩
theorem AllE.two {P : Expr → DE → Prop} {e f : Expr} {ds : DEs} (h : AllE P [e, f] ds) : ∃ d d', ds = .cons d (.cons d' .nil) ∧ P e d ∧ P f d' := by
  cases h with
  | cons h r =>
    obtain ⟨d', rfl, q⟩ := r.one
    exact ⟨_, d', rfl, h, q⟩
theorem and3 {a b : Bool} (h : (a && b) = true) : a = true ∧ b = true := by simpa using h
theorem op_of {o : Op} {oc : Operator} {fr : Bool} (h : opB o oc = true) : OpR X (binaryOp oc) (D2 X.K (D.opD o) fr) := by
  cases o <;> cases oc <;> first | (cases h; done) | exact op_addD | exact op_subD | exact op_mulD | exact op_modD | exact op_fdivD
theorem cm_of {o : Cm} {oc : CmpOp} (hu : X.A.units + 200 < cLine) (h : cmB o oc = true) : OpR X (compareOp oc) (D2B X.K (D.cmD o)) := by
  cases o <;> cases oc <;> first | (cases h; done) | exact op_eqD' hu | exact op_neD' hu | exact op_ltD | exact op_leD | exact op_gtD | exact op_geD | exact op_inD' hu | exact op_ninD' hu | exact op_isD | exact op_isnotD
theorem boot_all : bootBuiltins "all" = some (.builtin "all") := by decide +kernel
theorem boot_any : bootBuiltins "any" = some (.builtin "any") := by decide +kernel
theorem bi_of {b : Bi} {nm : Str} {f : Value} {fr : Bool} (hc : X.calm = true) (h : biF b = some (nm, f)) : CallR X f (D1 X.K (D.biD b) fr) ∧ bootBuiltins nm = some f ∧ nm ∈ bnames ∧ ((∃ id, f = .builtin id) ∨ ∃ id, f = .type id) := by
  cases b <;> first | (cases h; done) | skip
  · cases h; exact ⟨cr_len, boot_len, by simp, .inl ⟨_, rfl⟩⟩
  · cases h; exact ⟨cr_tup, PyProof.Rows.boot_tuple, by simp, .inr ⟨_, rfl⟩⟩
  · cases h; exact ⟨cr_lst, PyProof.Rows.boot_list, by simp, .inr ⟨_, rfl⟩⟩
  · cases h; exact ⟨cr_sortedD, PyProof.Rows.boot_sorted, by simp, .inl ⟨_, rfl⟩⟩
  · cases h; exact ⟨cr_dictD hc, PyProof.Rows.boot_dict, by simp, .inr ⟨_, rfl⟩⟩
  · cases h; exact ⟨cr_maxD hc, PyProof.Rows.boot_max, by simp, .inl ⟨_, rfl⟩⟩
  · cases h; exact ⟨cr_minD hc, PyProof.Rows.boot_min, by simp, .inl ⟨_, rfl⟩⟩
  · cases h; exact ⟨cr_sumD hc, PyProof.Rows.boot_sum, by simp, .inl ⟨_, rfl⟩⟩
  · cases h; exact ⟨cr_allD hc, boot_all, by simp, .inl ⟨_, rfl⟩⟩
  · cases h; exact ⟨cr_anyD hc, boot_any, by simp, .inl ⟨_, rfl⟩⟩
  · cases h; exact ⟨cr_intD, PyProof.Rows.boot_int, by simp, .inr ⟨_, rfl⟩⟩
theorem biS_imm {b : Bi} {ds : List D} {d : D} (hb : biS b = true) (h : D.biD b ds = .ok d) : d.imm = true := by
  match ds, h with
  | [x], h =>
    have h : D.bi1 b x = .ok d := h
    cases b <;> first | (cases hb; done) | skip
    all_goals (cases x <;> simp only [D.bi1] at h <;> first | (cases h; done) | (injection h with h; subst h; rfl) | (split at h <;> first | (cases h; done) | (injection h with h; subst h; rfl)))
  | [], h => cases h
  | _ :: _ :: _, h => cases h
end
section
variable {ec : Nat → Addr} {g : Cfg} {C : Nat → List D → R D} {G : List D} {X : Cx} {W : WC} {sc : Scope} {fc : Str → Bool} {M : List Nat}
theorem boot_ty : ∀ {t : Ty}, tyOk t = true → bootBuiltins (tyN t) = some (.type (tyS t)) ∧ tyN t ∈ bnames ∧ tyN t ≠ "__name__" ∧ (tyN t == ("__debug__" : Str)) = false
  | .int, _ => ⟨PyProof.Rows.boot_int, by simp [tyN], by decide, by decide⟩
  | .bool, _ => ⟨PyProof.Rows.boot_bool, by simp [tyN], by decide, by decide⟩
  | .str, _ => ⟨PyProof.Rows.boot_str, by simp [tyN], by decide, by decide⟩
  | .tuple, _ => ⟨PyProof.Rows.boot_tuple, by simp [tyN], by decide, by decide⟩
theorem tyns_of (c : CtxOk ec g.gn g.fns g.N C G X W sc fc) : ∀ {ts : List Ty} {es : List Expr}, tysB sc ts es = true → TyNs X es ts
  | [], [], _ => .nil
  | [], _ :: _, h => by simp [tysB] at h
  | t :: ts, [], h => by simp [tysB] at h
  | t :: ts, e :: es, h => by
    cases e with
    | Name x p =>
      simp only [tysB, Bool.and_eq_true, beq_iff_eq] at h
      obtain ⟨⟨⟨h1, h2⟩, h3⟩, h4⟩ := h
      subst h1
      obtain ⟨b1, b2, b3, b4⟩ := boot_ty h2
      exact .cons (c.gl h3) (c.mg0 _ b2) b1 b3 b4 (star_cons rfl) (tyns_of c h4)
    | _ => simp [tysB] at h
theorem nmOk_of {x : Str} (h : nmOk x = true) : (x == ("__debug__" : Str)) = false ∧ (x == ("__classdict__" : Str)) = false := by
  simpa [nmOk] using h
theorem own_ix {N : List Str} : ∀ {vs : List Nat}, ∀ p ∈ ownOf N vs, N[p.2]? = some p.1 := by
  intro vs p hp
  unfold ownOf at hp
  obtain ⟨i, hi, e⟩ := List.mem_filterMap.mp hp
  obtain ⟨x, hx, e⟩ := Option.map_eq_some_iff.mp e
  subst e
  exact hx
theorem nms_of (c : CtxOk ec g.gn g.fns g.N C G X W sc fc) : ∀ {is : List Nat} {es : List Expr}, nmsB g.N sc fc is es = true → PGs X es (gSeq is) ∧ es.length = is.length ∧ es.all notStar = true
  | [], [], _ => ⟨pgs_nil, rfl, rfl⟩
  | [], _ :: _, h => by simp [nmsB] at h
  | i :: is, [], h => by simp [nmsB] at h
  | i :: is, e :: es, h => by
    cases e with
    | Name x p =>
      simp only [nmsB, Bool.and_eq_true, decide_eq_true_eq] at h
      obtain ⟨⟨h1, h2⟩, h3⟩ := h
      obtain ⟨q1, q2, q3⟩ := nms_of c h3
      obtain ⟨l1, l2⟩ := c.loc h2
      have hN : X.N.Nodup := by rw [c.n]; exact c.nd
      have hi : X.N[i]? = some x := by rw [c.n]; exact h1
      exact ⟨pgs_cons (pg_name hN hi l1 l2) q1 (by rw [asg_cons (e := .Name x p) rfl] <;> rfl), by simp [q2], by simp [q3]; rfl⟩
    | _ => simp [nmsB] at h
theorem asg_len {env : PySem.Env} : ∀ {es : List Expr}, es.all notStar = true → (assignEach es env).length = es.length ∧ (assignEach es env).findIdx? (·.1) = none
  | [], _ => ⟨rfl, rfl⟩
  | e :: es, h => by
    simp only [List.all_cons, Bool.and_eq_true] at h
    obtain ⟨a, b⟩ := asg_len (env := env) h.2
    rw [asg_cons h.1]
    refine ⟨by simp [a], ?_⟩
    rw [List.findIdx?_cons]
    simp [b]
theorem tg_of (c : CtxOk ec g.gn g.fns g.N C G X W sc fc) {T : Tg} {tg : Expr} (h : tgB g.N sc fc T tg = true) : PG X tg (gT X.K T) := by
  cases T with
  | nm i => cases tg with
    | Name x p =>
      simp only [tgB, Bool.and_eq_true, decide_eq_true_eq] at h
      obtain ⟨l1, l2⟩ := c.loc h.2
      exact pg_name (by rw [c.n]; exact c.nd) (by rw [c.n]; exact h.1) l1 l2
    | _ => simp [tgB] at h
  | tp is => cases tg with
    | Tuple es k p =>
      simp only [tgB] at h
      obtain ⟨q1, q2, q3⟩ := nms_of c h
      obtain ⟨a, b⟩ := asg_len (env := X.env) q3
      exact pg_tup c.calm q1 (by rw [a, q2]) b
    | _ => simp [tgB] at h
theorem keys_dps {W : WC} : ∀ {xs : List Str} {keys : List (Option Expr)} {vs : List Expr} {ds : DEs}, keysB xs keys = true → AllE (fun e d => SE X W M C G false false e d) vs ds → xs.length = ds.len → DPs X W M C G keys vs xs ds
  | [], [], _, _, _, .nil, _ => .nil
  | [], [], _, _, _, .cons _ _, l => by simp [DEs.len] at l
  | [], _ :: _, _, _, h, _, _ => by simp [keysB] at h
  | x :: xs, [], _, _, h, _, _ => by simp [keysB] at h
  | x :: xs, k :: ks, _, _, h, .nil, l => by simp [DEs.len] at l
  | x :: xs, k :: ks, _, _, h, .cons h1 r, l => by
    unfold keysB at h
    split at h
    · rename_i heq1 heq2
      cases heq1
    · rename_i x' xs' y j p ks' heq1 heq2
      cases heq1
      cases heq2
      simp only [Bool.and_eq_true, beq_iff_eq, decide_eq_true_eq] at h
      obtain ⟨⟨⟨e, h2⟩, h3⟩, h4⟩ := h
      subst e
      exact .cons h2 h3 h1 (keys_dps h4 r (by simpa [DEs.len] using l))
    · cases h
theorem keys_len : ∀ {xs : List Str} {keys : List (Option Expr)}, keysB xs keys = true → keys.length = xs.length
  | [], [], _ => rfl
  | [], _ :: _, h => by simp [keysB] at h
  | x :: xs, [], h => by simp [keysB] at h
  | x :: xs, k :: ks, h => by
    unfold keysB at h
    split at h
    · rename_i heq1 heq2; cases heq1
    · rename_i x' xs' y j p ks' heq1 heq2
      cases heq1
      cases heq2
      simp only [Bool.and_eq_true] at h
      simp [keys_len h.2]
    · cases h
end
end B

set_option maxHeartbeats 4000000
/-! GenT: soundness of the checker of expressions. -/
namespace B
open PySem PySem.Spec PyProof.Rows L2
theorem out_cmp {X : Cx} {W : WC} {M : List Nat} {C : Nat → List D → R D} {G : List D} {md : Md} {e : Expr} {de : DE} (hn : ∀ op vs pos, e ≠ .BoolOp op vs pos) (h1 : ∀ fr t, SE X W M C G fr t e de) (h2 : ST X W M C G e de) : Out X W M C G md e de := by
  cases md with
  | e fr t => exact h1 fr t
  | t => exact ⟨h2, fun op vs pos z => (hn op vs pos z).elim⟩
section
variable (ec : Nat → Addr) (g : Cfg) (C : Nat → List D → R D) (G : List D)
set_option maxRecDepth 100000 in
mutual
theorem snd : ∀ (de : DE) {M : List Nat} {sc : Scope} {fc : Str → Bool} {md : Md} {e : Expr} {X : Cx} {W : WC}, CtxOk ec g.gn g.fns g.N C G X W sc fc → chk g de M sc fc md e = true → Out X W M C G md e de
  | .v i, M, sc, fc, md, e0, X, W, c, h => by
    refine Out.lift ?_
    unfold chk at h
    split at h
    · rename_i x p he
      rw [he]
      simp only [Bool.and_eq_true, Bool.not_eq_true', decide_eq_true_eq, Bool.or_eq_true] at h
      obtain ⟨⟨⟨⟨h1, h2⟩, h3⟩, h4⟩, h5⟩ := h
      obtain ⟨n1, n2⟩ := nmOk_of h4
      refine Out.mk ?_ rfl
      rw [h1]
      exact se_v (by rw [c.n]; exact h2) (c.vis h3) n1 n2 fun hm => by
        rcases h5 with h5 | h5
        · exact h5
        · simp [hm] at h5
    · cases h
  | .k d, M, sc, fc, md, e0, X, W, c, h => by
    refine Out.lift ?_
    unfold chk at h
    split at h
    · rename_i cv j p he
      rw [he]
      simp only [Bool.and_eq_true, Bool.not_eq_true'] at h
      obtain ⟨h1, h2⟩ := h
      refine Out.mk ?_ rfl
      rw [h1]
      cases d <;> cases cv <;> simp only [constB, Bool.and_eq_true, beq_iff_eq, decide_eq_true_eq] at h2 <;> first | (cases h2; done) | skip
      · exact se_non
      · subst h2; exact se_bl
      · subst h2; exact se_int
      · obtain ⟨⟨z1, z2⟩, z3⟩ := h2
        subst z1
        exact se_str z2 z3
    · cases h
  | .g i, M, sc, fc, md, e0, X, W, c, h => by
    refine Out.lift ?_
    unfold chk at h
    split at h
    · rename_i x p he
      rw [he]
      simp only [Bool.and_eq_true, Bool.not_eq_true', decide_eq_true_eq] at h
      obtain ⟨⟨⟨h1, h2⟩, h3⟩, h4⟩ := h
      refine Out.mk ?_ rfl
      rw [h1]
      exact se_g c.g h2 (c.gl h3) (nmOk_of h4).1
    · cases h
  | .tup es, M, sc, fc, md, e0, X, W, c, h => by
    refine Out.lift ?_
    unfold chk at h
    split at h
    · rename_i l j p he
      rw [he]
      simp only [Bool.and_eq_true, Bool.not_eq_true', decide_eq_true_eq] at h
      obtain ⟨⟨⟨h1, h2⟩, h3⟩, h4⟩ := h
      refine Out.mk ?_ rfl
      rw [h1]
      exact se_tup ((sndEs es c h4).ses h2) h3
    · cases h
  | .lst es, M, sc, fc, md, e0, X, W, c, h => by
    refine Out.lift ?_
    unfold chk at h
    split at h
    · rename_i l p he
      rw [he]
      simp only [Bool.and_eq_true, decide_eq_true_eq] at h
      obtain ⟨⟨h2, h3⟩, h4⟩ := h
      exact Out.mk (se_lst ((sndEs es c h4).ses h2) h3) rfl
    · cases h
  | .dct ks es, M, sc, fc, md, e0, X, W, c, h => by
    refine Out.lift ?_
    unfold chk at h
    split at h
    · rename_i keys values p he
      rw [he]
      simp only [Bool.and_eq_true, decide_eq_true_eq] at h
      obtain ⟨⟨⟨⟨h1, h2⟩, h3⟩, h4⟩, h5⟩ := h
      exact Out.mk (se_dct (keys_dps h1 (sndEs es c h5) h2) h3 h4) rfl
    · cases h
  | .op o a b, M, sc, fc, md, e0, X, W, c, h => by
    refine Out.lift ?_
    unfold chk at h
    split at h
    · rename_i ea oc eb p he
      rw [he]
      simp only [Bool.and_eq_true] at h
      obtain ⟨⟨h1, h2⟩, h3⟩ := h
      exact Out.mk (se_op (op_of h1) (snd a c h2) (snd b c h3)) rfl
    · cases h
  | .cmp o a b, M, sc, fc, md, e0, X, W, c, h => by
    refine Out.lift ?_
    unfold chk at h
    split at h
    · rename_i ea oc eb p he
      rw [he]
      simp only [Bool.and_eq_true, Bool.not_eq_true'] at h
      obtain ⟨⟨⟨h1, h2⟩, h3⟩, h4⟩ := h
      have ha := snd a c h3
      have hb := snd b c h4
      exact out_cmp (fun _ _ _ z => by cases z) (fun fr t => se_cmp (cm_of c.room h1) ha hb h2) (st_cmp (cm_of c.room h1) ha hb h2)
    · cases h
  | .chn o o' a b d, M, sc, fc, md, e0, X, W, c, h => by
    refine Out.lift ?_
    unfold chk at h
    split at h
    · rename_i ea oc oc' eb ed p he
      rw [he]
      simp only [Bool.and_eq_true, Bool.not_eq_true'] at h
      obtain ⟨⟨⟨⟨⟨h1, h2⟩, h3⟩, h4⟩, h5⟩, h6⟩ := h
      have ha := snd a c h4
      have hb := snd b c h5
      have hd := snd d c h6
      exact out_cmp (fun _ _ _ z => by cases z) (fun fr t => se_chn (cm_of c.room h1) (cm_of c.room h2) ha hb hd h3) (st_chn (cm_of c.room h1) (cm_of c.room h2) ha hb hd h3)
    · cases h
  | .and a b, M, sc, fc, md, e0, X, W, c, h => by
    refine Out.lift ?_
    unfold chk at h
    split at h
    · rename_i ea eb rest p he
      rw [he]
      simp only [Bool.and_eq_true, Bool.not_eq_true'] at h
      obtain ⟨⟨h1, h2⟩, h3⟩ := h
      have ha := snd a c h2
      have hb := snd b c h3
      cases md with
      | e fr t =>
        cases (show fr = false from h1)
        exact se_and ha hb
      | t =>
        have w := sw_and ha.1 (hb.2 _ _ _ rfl)
        exact ⟨w.st, fun _ _ _ _ => w⟩
    · cases h
  | .or a b, M, sc, fc, md, e0, X, W, c, h => by
    refine Out.lift ?_
    unfold chk at h
    split at h
    · rename_i ea eb rest p he
      rw [he]
      simp only [Bool.and_eq_true, Bool.not_eq_true'] at h
      obtain ⟨⟨h1, h2⟩, h3⟩ := h
      have ha := snd a c h2
      have hb := snd b c h3
      cases md with
      | e fr t =>
        cases (show fr = false from h1)
        exact se_or ha hb
      | t =>
        have w := sw_or ha.1 (hb.2 _ _ _ rfl)
        exact ⟨w.st, fun _ _ _ _ => w⟩
    · cases h
  | .not a, M, sc, fc, md, e0, X, W, c, h => by
    refine Out.lift ?_
    unfold chk at h
    split at h
    · rename_i ea p he
      rw [he]
      have ha := snd a c h
      cases md with
      | e fr t => exact se_not ha
      | t => exact ⟨st_not ha.1, fun _ _ _ z => by cases z⟩
    · cases h
  | .neg a, M, sc, fc, md, e0, X, W, c, h => by
    refine Out.lift ?_
    unfold chk at h
    split at h
    · rename_i ea p he
      rw [he]
      exact Out.mk (se_neg (snd a c h)) rfl
    · cases h
  | .ite d a b, M, sc, fc, md, e0, X, W, c, h => by
    refine Out.lift ?_
    unfold chk at h
    split at h
    · rename_i fr t ed ea eb p he
      rw [he]
      simp only [Bool.and_eq_true, Bool.not_eq_true'] at h
      obtain ⟨⟨⟨h1, h2⟩, h3⟩, h4⟩ := h
      subst h1
      exact se_ite (snd d c h2).1 (snd a c h3) (snd b c h4)
    · cases h
  | .ix a i, M, sc, fc, md, e0, X, W, c, h => by
    refine Out.lift ?_
    unfold chk at h
    split at h
    · rename_i ea ei p he
      rw [he]
      simp only [Bool.and_eq_true, Bool.not_eq_true'] at h
      obtain ⟨⟨⟨h1, h2⟩, h3⟩, h4⟩ := h
      refine Out.mk ?_ rfl
      rw [h1]
      exact se_ix c.room (snd a c h3) (snd i c h4) (ix_plain h2)
    · cases h
  | .gix k i, M, sc, fc, md, e0, X, W, c, h => by
    refine Out.lift ?_
    unfold chk at h
    split at h
    · rename_i x p2 ei p he
      rw [he]
      simp only [Bool.and_eq_true, Bool.not_eq_true', decide_eq_true_eq] at h
      obtain ⟨⟨⟨⟨⟨h1, h2⟩, h3⟩, h4⟩, h5⟩, h6⟩ := h
      refine Out.mk ?_ rfl
      rw [h1]
      exact se_gix c.g h3 (c.gl h4) (nmOk_of h5).1 (snd i c h6) (ix_plain h2)
    · cases h
  | .gin k i, M, sc, fc, md, e0, X, W, c, h => by
    refine Out.lift ?_
    unfold chk at h
    split at h
    · rename_i ei x p2 p he
      rw [he]
      simp only [Bool.and_eq_true, decide_eq_true_eq] at h
      obtain ⟨⟨⟨h3, h4⟩, h5⟩, h6⟩ := h
      have hi := snd i c h6
      exact out_cmp (fun _ _ _ z => by cases z) (fun fr t => se_gin c.g h3 (c.gl h4) (nmOk_of h5).1 hi) (st_gin c.g h3 (c.gl h4) (nmOk_of h5).1 hi)
    · cases h
  | .slA a lo, M, sc, fc, md, e0, X, W, c, h => by
    refine Out.lift ?_
    unfold chk at h
    split at h
    · rename_i ea el p2 p he
      rw [he]
      simp only [Bool.and_eq_true] at h
      exact Out.mk (se_slA (snd a c h.1) (snd lo c h.2)) rfl
    · cases h
  | .slB a hi, M, sc, fc, md, e0, X, W, c, h => by
    refine Out.lift ?_
    unfold chk at h
    split at h
    · rename_i ea el p2 p he
      rw [he]
      simp only [Bool.and_eq_true] at h
      exact Out.mk (se_slB (snd a c h.1) (snd hi c h.2)) rfl
    · cases h
  | .slC a lo hi, M, sc, fc, md, e0, X, W, c, h => by
    refine Out.lift ?_
    unfold chk at h
    split at h
    · rename_i ea el eh p2 p he
      rw [he]
      simp only [Bool.and_eq_true] at h
      exact Out.mk (se_slC (snd a c h.1.1) (snd lo c h.1.2) (snd hi c h.2)) rfl
    · cases h
  | .rev a, M, sc, fc, md, e0, X, W, c, h => by
    refine Out.lift ?_
    unfold chk at h
    split at h
    · rename_i ea n j p1 p2 p3 p he
      rw [he]
      simp only [Bool.and_eq_true, beq_iff_eq] at h
      obtain ⟨h1, h2⟩ := h
      subst h1
      exact Out.mk (se_rev (snd a c h2)) rfl
    · cases h
  | .call f es, M, sc, fc, md, e0, X, W, c, h => by
    refine Out.lift ?_
    unfold chk at h
    split at h
    · rename_i nm p ea l pos nm' np he hf
      rw [he]
      simp only [Bool.and_eq_true, Bool.not_eq_true', beq_iff_eq] at h
      obtain ⟨⟨⟨⟨⟨⟨h1, h2⟩, h3⟩, h4⟩, h5⟩, h6⟩, h7⟩ := h
      subst h2
      obtain ⟨k, fa, fd, ps, F, hr, hm, hk, hb, hl⟩ := c.calls f nm np hf
      refine Out.mk ?_ rfl
      rw [h1]
      have hs : notStar ea = true ∧ l.all notStar = true := by simpa using h6
      exact se_call F hr (c.gl h4) hm hk hb c.pass ((sndEs es c h7).ses h6) (by rw [hl]; exact h3) (nmOk_of h5).1 (star_cons hs.1) (back_any hs.2)
    · cases h
  | .bi b es, M, sc, fc, md, e0, X, W, c, h => by
    refine Out.lift ?_
    unfold chk at h
    split at h
    · rename_i ts
      split at h
      · rename_i nm p ea et pos he
        rw [he]
        simp only [Bool.and_eq_true, beq_iff_eq] at h
        obtain ⟨⟨⟨⟨h1, h2⟩, h3⟩, h4⟩, h5⟩ := h
        subst h1
        obtain ⟨d, rfl, hd⟩ := (sndEs es c h5).one
        refine Out.mk ?_ rfl
        have hm : X.mg "isinstance" = none := c.mg0 _ (by simp)
        unfold tyB at h4
        split at h4
        · rename_i ty x p2
          simp only [Bool.and_eq_true, beq_iff_eq] at h4
          obtain ⟨⟨z1, z2⟩, z3⟩ := h4
          subst z1
          obtain ⟨b1, b2, b3, b4⟩ := boot_ty z2
          exact se_isi1 (c.gl h2) hm PyProof.Rows.boot_isinstance hd (.cons (c.gl z3) (c.mg0 _ b2) b1 b3 b4 (star_cons rfl) .nil) (star_cons h3) (back_any rfl)
        · rename_i ty ts' tes j p2 hne
          simp only [Bool.and_eq_true, decide_eq_true_eq] at h4
          exact se_isiT (c.gl h2) hm PyProof.Rows.boot_isinstance hd (tyns_of c h4.1) h4.2 (star_cons h3) (star_cons rfl) (back_any rfl)
        · cases h4
      · cases h
    · split at h
      · rename_i nm p nm2 p2 ea q pos he
        rw [he]
        simp only [Bool.and_eq_true, beq_iff_eq] at h
        obtain ⟨⟨⟨⟨⟨h1, h2⟩, h3⟩, h4⟩, h5⟩, h6⟩ := h
        subst h1 h3
        obtain ⟨d, rfl, hd⟩ := (sndEs es c h6).one
        exact Out.mk (se_sset c.calm c.room (c.gl h2) (c.mg0 _ (by simp)) PyProof.Rows.boot_sorted (c.gl h4) (c.mg0 _ (by simp)) PyProof.Rows.boot_set hd (star_cons h5) (back_any rfl) (star_cons rfl) (back_any rfl)) rfl
      · cases h
    · split at h
      · rename_i nm p ea pos nm' f he hf
        rw [he]
        simp only [Bool.and_eq_true, beq_iff_eq] at h
        obtain ⟨⟨⟨h1, h2⟩, h3⟩, h4⟩ := h
        subst h1
        refine Out.mk ?_ rfl
        have hs := (sndEs es c h4).ses (t := md.tt || biS b) (by simp [h3])
        have go : SE X W M C G md.fr (md.tt || biS b) (.Call (.Name nm p) [ea] [] pos) (.bi b es) := by
          obtain ⟨q1, q2, q3, q4⟩ := bi_of (X := X) (fr := md.fr) c.calm hf
          have hm := c.mg0 _ q3
          have hn : nm ≠ "__name__" := fun z => by subst z; exact absurd q3 (by decide)
          have hdb : (nm == ("__debug__" : Str)) = false := by
            rw [beq_eq_false_iff_ne]
            intro z
            subst z
            exact absurd q3 (by decide)
          rcases q4 with ⟨id, rfl⟩ | ⟨id, rfl⟩
          · exact se_biB q1 (c.gl h2) hm q2 hs hn hdb (star_cons h3) (back_any rfl)
          · exact se_biT q1 (c.gl h2) hm q2 hs hn hdb (star_cons h3) (back_any rfl)
        cases hb : biS b with
        | false => rw [hb, Bool.or_false] at go; exact go
        | true =>
          rw [hb, Bool.or_true] at go
          exact se_relax go fun env d hd => by
            simp only [ev] at hd
            cases e1 : evs C G es env with
            | ok ds => rw [e1] at hd; exact biS_imm hb hd
            | exc c => rw [e1] at hd; cases hd
            | bad => rw [e1] at hd; cases hd
      · cases h
  | .mt b a es, M, sc, fc, md, e0, X, W, c, h => by
    refine Out.lift ?_
    unfold chk at h
    split at h
    · rename_i o nm ap ek ex cp he
      rw [he]
      simp only [Bool.and_eq_true, Bool.not_eq_true', beq_iff_eq] at h
      obtain ⟨⟨⟨⟨⟨⟨⟨h1, h2⟩, h3⟩, h4⟩, h5⟩, h6⟩, h7⟩, h8⟩ := h
      subst h2
      obtain ⟨d, d', rfl, k1, k2⟩ := (sndEs es c h8).two
      refine Out.mk ?_ rfl
      rw [h1]
      refine se_get c.room (snd a c h7) k1 k2 ⟨base_plain h3, ?_, h4, ?_⟩
      · rw [star_cons h5, star_cons h6]; rfl
      · rw [star_cons h5, star_cons h6]; rfl
    · rename_i o nm ap ek cp he
      rw [he]
      simp only [Bool.and_eq_true, beq_iff_eq] at h
      obtain ⟨⟨⟨⟨⟨h2, h3⟩, h4⟩, h5⟩, h7⟩, h8⟩ := h
      subst h2
      obtain ⟨d, rfl, k1⟩ := (sndEs es c h8).one
      refine Out.mk ?_ rfl
      refine se_index c.room (snd a c h7) k1 (base_plain h3) ?_ h4 (star_cons h5) (back_any rfl)
      rw [star_cons h5]; rfl
    · cases h
  | .lc m elt T k src cond vs, M, sc, fc, md, e0, X, W, c, h => by
    refine Out.lift ?_
    unfold chk at h
    split at h
    · rename_i ee tg iter ifs asy scope p he
      rw [he]
      simp only [Bool.and_eq_true, beq_iff_eq, decide_eq_true_eq] at h
      obtain ⟨⟨⟨⟨⟨⟨⟨⟨⟨⟨h1, h2⟩, h3⟩, h4⟩, h5⟩, h6⟩, h7⟩, h8⟩, h9⟩, h10⟩, h11⟩ := h
      subst h1
      have ok : BlkOk X.N X.env.scope scope (ownOf g.N vs) := by rw [c.n, c.sc]; exact blkOk_by h3
      have hs : ∀ (s : Shared) (H : Hp) (Ca : Addr) (cl : List (Str × Addr)) (fp : List Addr), CtxOk ec g.gn g.fns g.N C G (X.blk s H scope (compEnvC scope cl Ca X.env) fp) W0 (relS scope sc) (fun x => scope.names.lookup x == some .cell) := fun s H Ca cl fp => c.blk scope s H Ca cl fp
      have hit : ∃ t0 : Bool, (m = false → t0 = false) ∧ SI X W M C G t0 tg iter k src := by
        split at h2
        · rename_i args hargs
          have hA := sndEs src c h2
          unfold itArgs at hargs
          split at hargs
          · cases hargs
            obtain ⟨d, rfl, hd⟩ := hA.one
            refine ⟨m, fun z => z, si_seq ?_⟩
            have hd : SE X W M C G false (m || isRng .seq) _ d := hd
            rw [show (m || isRng .seq) = m by simp [isRng]] at hd
            exact hd
          · split at hargs
            · rename_i hk
              simp only [Bool.and_eq_true, beq_iff_eq] at hk
              obtain ⟨⟨z1, z2⟩, z3⟩ := hk
              cases hargs
              subst z1
              have hA' := hA.ses (t := m || isRng .rng1) (by simp [z3])
              obtain ⟨d, rfl, hd⟩ := hA.one
              rw [show (m || isRng .rng1) = true by simp [isRng]] at hA'
              exact ⟨m, fun z => z, si_rng1 (c.gl z2) (c.mg0 _ (by simp)) hA' (star_cons z3)⟩
            · cases hargs
          · split at hargs
            · rename_i hk
              simp only [Bool.and_eq_true, beq_iff_eq] at hk
              obtain ⟨⟨⟨z1, z2⟩, z3⟩, z4⟩ := hk
              cases hargs
              subst z1
              have hA' := hA.ses (t := m || isRng .rng2) (by simp [z3, z4])
              obtain ⟨d, d', rfl, hd, hd'⟩ := hA.two
              rw [show (m || isRng .rng2) = true by simp [isRng]] at hA'
              exact ⟨m, fun z => z, si_rng2 (c.gl z2) (c.mg0 _ (by simp)) hA' (by rw [star_cons z3, star_cons z4]; rfl) (star_cons z4)⟩
            · cases hargs
          · split at hargs
            · rename_i hk
              simp only [Bool.and_eq_true, beq_iff_eq] at hk
              obtain ⟨⟨⟨z1, z2⟩, z3⟩, z4⟩ := hk
              cases hargs
              subst z1
              have hA' := hA.ses (t := m || isRng .enu) (by simp [z3])
              obtain ⟨d, rfl, hd⟩ := hA.one
              rw [show (m || isRng .enu) = m by simp [isRng]] at hA'
              cases tg <;> first | (cases z4; done) | exact ⟨m, fun z => z, si_enu (c.gl z2) (c.mg0 _ (by simp)) hA' (star_cons z3)⟩
            · cases hargs
          · split at hargs
            · rename_i hk
              simp only [Bool.and_eq_true, beq_iff_eq] at hk
              obtain ⟨⟨⟨⟨z1, z2⟩, z3⟩, z4⟩, z5⟩ := hk
              cases hargs
              subst z1
              have hA' := hA.ses (t := m || isRng .zip) (by simp [z3, z4])
              obtain ⟨d, d', rfl, hd, hd'⟩ := hA.two
              rw [show (m || isRng .zip) = m by simp [isRng]] at hA'
              cases tg <;> first | (cases z5; done) | exact ⟨m, fun z => z, si_zip (c.gl z2) (c.mg0 _ (by simp)) hA' (star_cons z3) (back_any (by simp [z4]))⟩
            · cases hargs
          · cases hargs
        · cases h2
      obtain ⟨t0, ht0, hi⟩ := hit
      have hcond : ∀ (s : Shared) (H : Hp) (Ca : Addr) (cl : List (Str × Addr)) (fp : List Addr), SCs (X.blk s H scope (compEnvC scope cl Ca X.env) fp) W0 (if m then [] else M) C G ifs cond := fun s H Ca cl fp => by
        have q := sndEs cond (hs s H Ca cl fp) h9
        cases q with
        | nil => exact scs_nil
        | cons q1 q2 =>
          cases q2 with
          | nil => exact scs_one q1.1
          | cons _ _ => simp at h8
      refine Out.mk ?_ rfl
      have hown : ∀ i ∈ T.slots, i ∈ (ownOf g.N vs).map (·.2) := fun i hi => by
        rw [h4]
        have := List.all_eq_true.mp h5 i hi
        simpa using this
      have hdis : m = false → ∀ i ∈ T.slots, i ∉ M := fun z i hi hm => by
        rw [z, Bool.false_or] at h6
        have := List.all_eq_true.mp h6 i hi
        simp [hm] at this
      have fin := se_lc (t := md.tt) (fr := md.fr) (pos := p) c.calm (by rw [c.n]; exact c.nd) hi ok (fun s H Ca cl fp => tg_of (hs s H Ca cl fp) h7) hcond (fun s H Ca cl fp => snd elt (hs s H Ca cl fp) h10) (set_plain h11) ht0 hown hdis
      rw [h4] at fin
      exact fin
    · cases h
theorem sndEs : ∀ (des : DEs) {M : List Nat} {sc : Scope} {fc : Str → Bool} {md : Md} {es : List Expr} {X : Cx} {W : WC}, CtxOk ec g.gn g.fns g.N C G X W sc fc → chkEs g des M sc fc md es = true → AllE (fun e d => Out X W M C G md e d) es des
  | .nil, M, sc, fc, md, es, X, W, c, h => by
    unfold chkEs at h
    split at h
    · exact .nil
    · cases h
  | .cons d ds, M, sc, fc, md, es, X, W, c, h => by
    unfold chkEs at h
    split at h
    · simp only [Bool.and_eq_true] at h
      exact .cons (snd d c h.1) (sndEs ds c h.2)
    · cases h
end
end
end B

set_option maxHeartbeats 4000000
/-! GenU: the checker of statements. -/
namespace B
open PySem PySem.Spec PyProof.Rows L2
def fnK (sc : Scope) : Bool := match sc.kind with
  | .function => true
  | _ => false
/-- the store is made within the block -/
def swB (sc scope : Scope) (y : Str) (py pos : Pos) : Bool := (sc.names.lookup y == some .local) && (py.line == pos.line) && !(scope.names.any fun (n, k) => n == y && (k == .local || k == .cell))
theorem block_fn {env : PySem.Env} (h : fnK env.scope = true) : env.blockKind = .function := by
  unfold fnK at h
  split at h
  · rename_i hk
    unfold Env.blockKind
    rw [hk]
    rfl
  · cases h
theorem swaps_lc {elt : Expr} {gs : List Comprehension} {scope : Scope} {pos py : Pos} {y : Str} {l : Nat} {env : PySem.Env} (h : fnK env.scope = true) : swapsWith (.ListComp elt gs scope pos) (some (.Name y py)) l env = pure (swB env.scope scope y py pos) := by
  have e : swapsWith (.ListComp elt gs scope pos) (some (.Name y py)) l env = pure (env.blockKind == .function && env.kindOf y == some .local && py.line == pos.line && !(scope.names.any fun (n, k) => n == y && (k == .local || k == .cell))) := rfl
  rw [e, block_fn h]
  rfl
/-- a, b = ..: names at once, or one after another -/
inductive Sw where | plain | two | three | no
def nmIds (sc : Scope) (line : Nat) : List Expr → Option (List Str)
  | [] => some []
  | .Name x p :: es => if sc.names.lookup x == some .local && p.line == line then (nmIds sc line es).map (x :: ·) else none
  | _ => none
def swSt (sc : Scope) (ts vs : List Expr) : Sw :=
  if !(ts.length == 2 || ts.length == 3) || vs.length != ts.length then .plain
  else if vs.all (foldedForSure 8) then .plain
  else if vs.all (constantsAlone 8) then .no
  else match nmIds sc ((ts.head?.map (·.pos.line)).getD 0) ts with
    | some [x, y] => if x == y then .no else .two
    | some [x, y, z] => if x == y || x == z || y == z then .no else .three
    | _ => .no
section
variable {ec : Nat → Addr} {g : Cfg} {C : Nat → List D → R D} {G : List D} {X : Cx} {W : WC} {sc : Scope} {fc : Str → Bool} {M : List Nat}
/-- what is walked, by the checker -/
theorem si_of (c : CtxOk ec g.gn g.fns g.N C G X W sc fc) {k : IK} {tg iter : Expr} {src : DEs} {args : List Expr} {m : Bool} (hargs : itArgs sc tg k iter = some args) (h : chkEs g src M sc fc (.e false (m || isRng k)) args = true) : SI X W M C G m tg iter k src := by
  have hA := sndEs ec g C G src c h
  unfold itArgs at hargs
  split at hargs
  · cases hargs
    obtain ⟨d, rfl, hd⟩ := hA.one
    have hd : SE X W M C G false (m || isRng .seq) _ d := hd
    rw [show (m || isRng .seq) = m by simp [isRng]] at hd
    exact si_seq hd
  · split at hargs
    · rename_i hk
      simp only [Bool.and_eq_true, beq_iff_eq] at hk
      obtain ⟨⟨z1, z2⟩, z3⟩ := hk
      cases hargs
      subst z1
      have hA' := hA.ses (t := m || isRng .rng1) (by simp [z3])
      obtain ⟨d, rfl, hd⟩ := hA.one
      rw [show (m || isRng .rng1) = true by simp [isRng]] at hA'
      exact si_rng1 (c.gl z2) (c.mg0 _ (by simp)) hA' (star_cons z3)
    · cases hargs
  · split at hargs
    · rename_i hk
      simp only [Bool.and_eq_true, beq_iff_eq] at hk
      obtain ⟨⟨⟨z1, z2⟩, z3⟩, z4⟩ := hk
      cases hargs
      subst z1
      have hA' := hA.ses (t := m || isRng .rng2) (by simp [z3, z4])
      obtain ⟨d, d', rfl, hd, hd'⟩ := hA.two
      rw [show (m || isRng .rng2) = true by simp [isRng]] at hA'
      exact si_rng2 (c.gl z2) (c.mg0 _ (by simp)) hA' (by rw [star_cons z3, star_cons z4]; rfl) (star_cons z4)
    · cases hargs
  · split at hargs
    · rename_i hk
      simp only [Bool.and_eq_true, beq_iff_eq] at hk
      obtain ⟨⟨⟨z1, z2⟩, z3⟩, z4⟩ := hk
      cases hargs
      subst z1
      have hA' := hA.ses (t := m || isRng .enu) (by simp [z3])
      obtain ⟨d, rfl, hd⟩ := hA.one
      rw [show (m || isRng .enu) = m by simp [isRng]] at hA'
      cases tg <;> first | (cases z4; done) | exact si_enu (c.gl z2) (c.mg0 _ (by simp)) hA' (star_cons z3)
    · cases hargs
  · split at hargs
    · rename_i hk
      simp only [Bool.and_eq_true, beq_iff_eq] at hk
      obtain ⟨⟨⟨⟨z1, z2⟩, z3⟩, z4⟩, z5⟩ := hk
      cases hargs
      subst z1
      have hA' := hA.ses (t := m || isRng .zip) (by simp [z3, z4])
      obtain ⟨d, d', rfl, hd, hd'⟩ := hA.two
      rw [show (m || isRng .zip) = m by simp [isRng]] at hA'
      cases tg <;> first | (cases z5; done) | exact si_zip (c.gl z2) (c.mg0 _ (by simp)) hA' (star_cons z3) (back_any (by simp [z4]))
    · cases hargs
  · cases hargs
/-- name = value -/
theorem ps_name (c : CtxOk ec g.gn g.fns g.N C G X W sc fc) (hfn : fnK sc = true) {e : DE} {fr t : Bool} {i : Nat} {x : Str} {py pos : Pos} {v : Expr} (hi : g.N[i]? = some x) (hl : locB sc fc x = true) (hv : chk g e M sc fc (.e fr t) v = true) :
    PS X (.Assign [.Name x py] v pos) (tAsg (tD X.K W M (ev C G e) fr t) (gName i)) := by
  obtain ⟨l1, l2⟩ := c.loc hl
  have hN : X.N.Nodup := by rw [c.n]; exact c.nd
  have hi' : X.N[i]? = some x := by rw [c.n]; exact hi
  have plain : swapsWith v (some (.Name x py)) pos.line X.env = pure false → PS X (.Assign [.Name x py] v pos) (tAsg (tD X.K W M (ev C G e) fr t) (gName i)) := fun hs =>
    ps_set hN hi' l1 (snd ec g C G e c hv) hs l2
  cases v with
  | ListComp ee gens scope p =>
    have hfn' : fnK X.env.scope = true := by rw [c.sc]; exact hfn
    cases hsw : swB X.env.scope scope x py p with
    | false => exact plain (by rw [swaps_lc hfn', hsw])
    | true =>
      cases e with
      | lc m elt T k src cond vs =>
        unfold chk at hv
        split at hv
        · rename_i ee' tg iter ifs asy scope' p' he
          unfold strip at he
          cases he
          simp only [Bool.and_eq_true, beq_iff_eq, decide_eq_true_eq] at hv
          obtain ⟨⟨⟨⟨⟨⟨⟨⟨⟨⟨h1, h2⟩, h3⟩, h4⟩, h5⟩, h6⟩, h7⟩, h8⟩, h9⟩, h10⟩, h11⟩ := hv
          subst h1
          have ok : BlkOk X.N X.env.scope scope (ownOf g.N vs) := by rw [c.n, c.sc]; exact blkOk_by h3
          have hs : ∀ (s : Shared) (H : Hp) (Ca : Addr) (cl : List (Str × Addr)) (fp : List Addr), CtxOk ec g.gn g.fns g.N C G (X.blk s H scope (compEnvC scope cl Ca X.env) fp) W0 (relS scope sc) (fun x => scope.names.lookup x == some .cell) := fun s H Ca cl fp => c.blk scope s H Ca cl fp
          have hi2 : SI X W M C G m tg iter k src := by
            split at h2
            · rename_i args hargs; exact si_of c hargs h2
            · cases h2
          have hcond : ∀ (s : Shared) (H : Hp) (Ca : Addr) (cl : List (Str × Addr)) (fp : List Addr), SCs (X.blk s H scope (compEnvC scope cl Ca X.env) fp) W0 (if m then [] else M) C G ifs cond := fun s H Ca cl fp => by
            have q := sndEs ec g C G cond (hs s H Ca cl fp) h9
            cases q with
            | nil => exact scs_nil
            | cons q1 q2 =>
              cases q2 with
              | nil => exact scs_one q1.1
              | cons _ _ => simp at h8
          have hown : ∀ i ∈ T.slots, i ∈ vs := fun i hi => by
            have := List.all_eq_true.mp h5 i hi
            simpa using this
          have hdis : m = false → ∀ i ∈ T.slots, i ∉ M := fun z i hi hm => by
            rw [z, Bool.false_or] at h6
            have := List.all_eq_true.mp h6 i hi
            simp [hm] at this
          have hyl : X.env.scope.names.lookup x = some .local := by
            simp only [swB, Bool.and_eq_true, beq_iff_eq] at hsw
            exact hsw.1.1
          refine PS.imp (ps_setLc (g := gT X.K T) (tt := tB' X.K W0 (if m then [] else M) (evc C G cond)) (te := tD X.K W0 (if m then [] else M) (ev C G elt) false false) c.calm hN hi' hyl (by rw [swaps_lc hfn', hsw]) hi2 ok (fun s H Ca cl fp => tg_of (hs s H Ca cl fp) h7) hcond (fun s H Ca cl fp => snd ec g C G elt (hs s H Ca cl fp) h10) (set_plain h11)) fun Ed σ H ⟨env, A, hA, hE, q⟩ => ?_
          rw [h4]
          exact lc_loop (fun z => z) hown hdis hA hE q
        · cases hv
      | v i => unfold chk at hv; simp [strip] at hv
      | k d => unfold chk at hv; simp [strip] at hv
      | g i => unfold chk at hv; simp [strip] at hv
      | tup es => unfold chk at hv; simp [strip] at hv
      | lst es => unfold chk at hv; simp [strip] at hv
      | dct ks es => unfold chk at hv; simp [strip] at hv
      | op o a b => unfold chk at hv; simp [strip] at hv
      | cmp o a b => unfold chk at hv; simp [strip] at hv
      | chn o o' a b d => unfold chk at hv; simp [strip] at hv
      | and a b => unfold chk at hv; simp [strip] at hv
      | or a b => unfold chk at hv; simp [strip] at hv
      | not a => unfold chk at hv; simp [strip] at hv
      | neg a => unfold chk at hv; simp [strip] at hv
      | ite d a b => unfold chk at hv; simp [strip] at hv
      | ix a i => unfold chk at hv; simp [strip] at hv
      | gix k i => unfold chk at hv; simp [strip] at hv
      | gin k i => unfold chk at hv; simp [strip] at hv
      | slA a lo => unfold chk at hv; simp [strip] at hv
      | slB a hi => unfold chk at hv; simp [strip] at hv
      | slC a lo hi => unfold chk at hv; simp [strip] at hv
      | rev a => unfold chk at hv; simp [strip] at hv
      | call f es => unfold chk at hv; simp [strip] at hv
      | bi b es => unfold chk at hv; cases b <;> simp [strip] at hv
      | mt b a es => unfold chk at hv; cases b <;> simp [strip] at hv
  | SetComp ee gens scope p => cases e <;> (unfold chk at hv; first | (simp [strip] at hv; done) | (rename_i b _; cases b <;> simp [strip] at hv; done) | (rename_i b _ _; cases b <;> simp [strip] at hv))
  | DictComp ek ee gens scope p => cases e <;> (unfold chk at hv; first | (simp [strip] at hv; done) | (rename_i b _; cases b <;> simp [strip] at hv; done) | (rename_i b _ _; cases b <;> simp [strip] at hv))
  | _ => exact plain (swaps_no rfl)
end
end B

set_option maxHeartbeats 4000000
/-! GenV: the checker of statements. -/
namespace B
open PySem PySem.Spec PyProof.Rows L2
theorem stores_plain {ts vs : List Expr} {k k2 : Nat} {p p2 : Pos} {env : PySem.Env} (h : swSt env.scope ts vs = .plain) : swappedStores [.Tuple ts k p] (.Tuple vs k2 p2) env = pure none := by
  unfold swSt at h
  split at h
  · rename_i hc
    unfold swappedStores
    dsimp only
    rw [if_pos (by rw [Bool.or_eq_true]; exact .inl hc)]
  · split at h
    · rename_i hf
      unfold swappedStores
      dsimp only
      split
      · rfl
      · split
        · rfl
        · split
          · rfl
          · first | rfl | rw [if_pos hf]
    · split at h
      · cases h
      · split at h
        · split at h <;> cases h
        · split at h <;> cases h
        · cases h
/-- the words of a suite -/
structure StCtx (ec : Nat → Addr) (g : Cfg) (exs : Nat → Option Str) (C : Nat → List D → R D) (G : List D) (X : Cx) (W : WC) (sc : Scope) (fc : Str → Bool) : Prop where
  c : CtxOk ec g.gn g.fns g.N C G X W sc fc
  po : PassesOwn (model X.prog X.w) X.A X.env X.xe
  rs : ∀ k nm, exs k = some nm → Gl X nm → ∀ (m : Str) (j : Nat) (p p2 p3 pos : Pos), PS X (.Raise (some (.Call (.Name nm p) [.Constant (.str m) j p2] [] p3)) none pos) (fun _ σ H => W k σ H)
mutual
def chkS (g : Cfg) (exs : Nat → Option Str) : DS → List Nat → Scope → (Str → Bool) → Stmt → Bool
  | .set i e, M, sc, fc, st => match st with
    | .Assign [.Name x _] v _ => decide (g.N[i]? = some x) && locB sc fc x && !M.contains i && chk g e M sc fc (.e false false) v
    | _ => false
  | .setI i e, M, sc, fc, st => match st with
    | .Assign [.Name x _] v _ => decide (g.N[i]? = some x) && locB sc fc x && !M.contains i && chk g e [] sc fc (.e false false) v
    | _ => false
  | .setM i e, M, sc, fc, st => match st with
    | .Assign [.Name x _] v _ => decide (g.N[i]? = some x) && locB sc fc x && M.contains i && chk g e M sc fc (.e true true) v
    | _ => false
  | .tp is e, M, sc, fc, st => match st with
    | .Assign [.Tuple ts _ _] v _ => tgB g.N sc fc (.tp is) (.Tuple ts 0 ⟨0, 0, 0, 0⟩) && disj is M && (match v with
      | .Tuple vs _ _ => (match swSt sc ts vs with
        | .plain => true
        | _ => false)
      | _ => true) && chk g e M sc fc (.e false false) v
    | _ => false
  | .app i e, M, sc, fc, st => match st with
    | .Expr (.Call (.Attribute (.Name x _) nm ap) [a] [] cp) _ => (nm == ("append" : Str)) && decide (g.N[i]? = some x) && visB sc x && nmOk x && M.contains i && lineB ap cp && notStar a && chk g e [] sc fc (.e false false) a
    | _ => false
  | .ext i e, M, sc, fc, st => match st with
    | .Expr (.Call (.Attribute (.Name x _) nm ap) [a] [] cp) _ => (nm == ("extend" : Str)) && decide (g.N[i]? = some x) && visB sc x && nmOk x && M.contains i && lineB ap cp && notStar a && chk g e [] sc fc (.e false false) a
    | _ => false
  | .pop j i, M, sc, fc, st => match st with
    | .Assign [.Name y _] (.Call (.Attribute (.Name x _) nm ap) [] [] cp) _ => (nm == ("pop" : Str)) && decide (g.N[i]? = some x) && visB sc x && nmOk x && M.contains i && lineB ap cp && decide (g.N[j]? = some y) && locB sc fc y && !M.contains j
    | _ => false
  | .put i k e, M, sc, fc, st => match st with
    | .Assign [.Subscript (.Name x _) ek _] v _ => decide (g.N[i]? = some x) && visB sc x && nmOk x && M.contains i && ixB ek && chk g k [] sc fc (.e false false) ek && chk g e [] sc fc (.e false false) v
    | _ => false
  | .ex e, _, sc, fc, st => match st with
    | .Expr v _ => compB v && chk g e [] sc fc (.e false false) v
    | _ => false
  | .ite d a b, M, sc, fc, st => match st with
    | .If ec ea eb _ => chk g d M sc fc .t ec && chkSs g exs a M sc fc ea && chkSs g exs b M sc fc eb
    | _ => false
  | .for m T k src db, M, sc, fc, st => match st with
    | .For tg iter body [] _ => tgB g.N sc fc T tg && disj T.slots M && (match itArgs sc tg k iter with
        | some args => chkEs g src (if m then Mw M (T.slots ++ db.wr) else M) sc fc (.e false (false || isRng k)) args
        | none => false) && setB iter && chkSs g exs db M sc fc body
    | _ => false
  | .while d db, M, sc, fc, st => match st with
    | .While ec body [] _ => chk g d M sc fc .t ec && chkSs g exs db M sc fc body
    | _ => false
  | .ret e, _, sc, fc, st => match st with
    | .Return (some v) _ => chk g e [] sc fc (.e false false) v
    | _ => false
  | .retN, _, _, _, st => match st with
    | .Return none _ => true
    | _ => false
  | .raise k, _, sc, _, st => match st with
    | .Raise (some (.Call (.Name nm _) [.Constant (.str _) _ _] [] _)) none _ => decide (exs k = some nm) && glB sc nm
    | _ => false
  | .brk, _, _, _, st => match st with
    | .Break _ => true
    | _ => false
  | .cont, _, _, _, st => match st with
    | .Continue _ => true
    | _ => false
  | .pass, _, _, _, st => match st with
    | .Pass _ => true
    | _ => false
def chkSs (g : Cfg) (exs : Nat → Option Str) : DSs → List Nat → Scope → (Str → Bool) → List Stmt → Bool
  | .nil, _, _, _, l => match l with
    | [] => true
    | _ => false
  | .cons d ds, M, sc, fc, l => match l with
    | s :: ss => chkS g exs d M sc fc s && chkSs g exs ds M sc fc ss
    | [] => false
end
theorem sub_asg {o i : Expr} {pos : Pos} {env : PySem.Env} (h : ixB i = true) : ∀ v, assign (.Subscript o i pos) env v = (do
      let ov ← holding [v] (eval o env)
      let iv ← holding [v, ov] (eval i env)
      standAt pos
      holding [v, ov, iv] (setItem ov iv v)
      release [v, ov, iv] []) := by
  intro v
  cases i <;> first | (cases h; done) | rfl
theorem tp_ix {g : Cfg} {sc : Scope} {fc : Str → Bool} {is : List Nat} {ts : List Expr} {k k' : Nat} {p p' : Pos} (h : tgB g.N sc fc (.tp is) (.Tuple ts k p) = true) : tgB g.N sc fc (.tp is) (.Tuple ts k' p') = true := h
theorem not_mem_of {M : List Nat} {i : Nat} (h : (!M.contains i) = true) : i ∉ M := by simpa using h
theorem mem_of {M : List Nat} {i : Nat} (h : M.contains i = true) : i ∈ M := by simpa using h
theorem disj_of {is M : List Nat} (h : disj is M = true) : ∀ i ∈ is, i ∉ M := fun i hi hm => by
  have := List.all_eq_true.mp h i hi
  simp [hm] at this
section
variable (ec : Nat → Addr) (g : Cfg) (exs : Nat → Option Str) (C : Nat → List D → R D) (G : List D) (F : Nat)
mutual
theorem sndS : ∀ (ds : DS) {M : List Nat} {sc : Scope} {fc : Str → Bool} {st : Stmt} {X : Cx} {W : WC}, StCtx ec g exs C G X W sc fc → fnK sc = true → chkS g exs ds M sc fc st = true → SS X W M C G F st ds
  | .set i e, M, sc, fc, st, X, W, c, hf, h => by
    unfold chkS at h
    split at h
    · simp only [Bool.and_eq_true, decide_eq_true_eq] at h
      obtain ⟨⟨⟨h1, h2⟩, h3⟩, h4⟩ := h
      exact ss_set (ps_name c.c hf h1 h2 h4) (not_mem_of h3)
    · cases h
  | .setI i e, M, sc, fc, st, X, W, c, hf, h => by
    unfold chkS at h
    split at h
    · simp only [Bool.and_eq_true, decide_eq_true_eq] at h
      obtain ⟨⟨⟨h1, h2⟩, h3⟩, h4⟩ := h
      exact ss_setI (ps_name c.c hf h1 h2 h4) (not_mem_of h3)
    · cases h
  | .setM i e, M, sc, fc, st, X, W, c, hf, h => by
    unfold chkS at h
    split at h
    · simp only [Bool.and_eq_true, decide_eq_true_eq] at h
      obtain ⟨⟨⟨h1, h2⟩, h3⟩, h4⟩ := h
      exact ss_setM (ps_name c.c hf h1 h2 h4) (mem_of h3)
    · cases h
  | .tp is e, M, sc, fc, st, X, W, c, hf, h => by
    unfold chkS at h
    split at h
    · rename_i ts k p v pos
      simp only [Bool.and_eq_true] at h
      obtain ⟨⟨⟨h1, h2⟩, h3⟩, h4⟩ := h
      have hn : swappedStores [.Tuple ts k p] v X.env = pure none := by
        split at h3
        · split at h3
          · rename_i hs
            rw [← c.c.sc] at hs
            exact stores_plain hs
          · cases h3
        · rename_i hne
          refine stores_no ?_
          cases v <;> first | rfl | (exact (hne _ _ _ rfl).elim)
      have ht : PG X (.Tuple ts k p) (gT X.K (.tp is)) := tg_of c.c (T := .tp is) (tp_ix h1)
      exact ss_tp (ps_asg (snd ec g C G e c.c h4) ht (show swapsWith v (some (.Tuple ts k p)) pos.line X.env = pure false from swaps_tup) hn rfl) (disj_of h2)
    · cases h
  | .app i e, M, sc, fc, st, X, W, c, hf, h => by
    unfold chkS at h
    split at h
    · rename_i x px nm ap a cp pos
      simp only [Bool.and_eq_true, beq_iff_eq, decide_eq_true_eq] at h
      obtain ⟨⟨⟨⟨⟨⟨⟨h1, h2⟩, h3⟩, h4⟩, h5⟩, h6⟩, h7⟩, h8⟩ := h
      subst h1
      have hv : PE X (.Name x px) (tVar i) := pe_var (by rw [c.c.n]; exact h2) (c.c.vis h3) (nmOk_of h4).1 (nmOk_of h4).2
      exact ss_app (e := a) (ps_expr (pe_bm PySem.F.plainAttrs_list PySem.F.slot_list_append PySem.F.type_list_append mt_append hv (pa_cons (snd ec g C G e c.c h8) pa_nil (star_cons h7)) rfl (by rw [star_cons h7]; rfl) h6 (star_cons h7) (back_any rfl)) (swaps_no rfl)) (mem_of h5)
    · cases h
  | .ext i e, M, sc, fc, st, X, W, c, hf, h => by
    unfold chkS at h
    split at h
    · rename_i x px nm ap a cp pos
      simp only [Bool.and_eq_true, beq_iff_eq, decide_eq_true_eq] at h
      obtain ⟨⟨⟨⟨⟨⟨⟨h1, h2⟩, h3⟩, h4⟩, h5⟩, h6⟩, h7⟩, h8⟩ := h
      subst h1
      have hv : PE X (.Name x px) (tVar i) := pe_var (by rw [c.c.n]; exact h2) (c.c.vis h3) (nmOk_of h4).1 (nmOk_of h4).2
      exact ss_ext (e := a) (ps_expr (pe_bm PySem.F.plainAttrs_list PySem.F.slot_list_extend PySem.F.type_list_extend mt_extend hv (pa_cons (snd ec g C G e c.c h8) pa_nil (star_cons h7)) rfl (by rw [star_cons h7]; rfl) h6 (star_cons h7) (back_any rfl)) (swaps_no rfl)) (mem_of h5)
    · cases h
  | .pop j i, M, sc, fc, st, X, W, c, hf, h => by
    unfold chkS at h
    split at h
    · rename_i y py x px nm ap cp pos
      simp only [Bool.and_eq_true, beq_iff_eq, decide_eq_true_eq] at h
      obtain ⟨⟨⟨⟨⟨⟨⟨⟨h1, h2⟩, h3⟩, h4⟩, h5⟩, h6⟩, h7⟩, h8⟩, h9⟩ := h
      subst h1
      have hv : PE X (.Name x px) (tVar i) := pe_var (by rw [c.c.n]; exact h2) (c.c.vis h3) (nmOk_of h4).1 (nmOk_of h4).2
      obtain ⟨l1, l2⟩ := c.c.loc h8
      exact ss_pop (ps_set (by rw [c.c.n]; exact c.c.nd) (by rw [c.c.n]; exact h7) l1 (pe_bm0 PySem.F.plainAttrs_list PySem.F.slot_list_pop PySem.F.type_list_pop mt_pop hv rfl h6) (swaps_no rfl) l2) (mem_of h5) (not_mem_of h9)
    · cases h
  | .put i k e, M, sc, fc, st, X, W, c, hf, h => by
    unfold chkS at h
    split at h
    · rename_i x px ek ps v pos
      simp only [Bool.and_eq_true, decide_eq_true_eq] at h
      obtain ⟨⟨⟨⟨⟨⟨h2, h3⟩, h4⟩, h5⟩, h8⟩, h6⟩, h7⟩ := h
      have hv : PE X (.Name x px) (tVar i) := pe_var (by rw [c.c.n]; exact h2) (c.c.vis h3) (nmOk_of h4).1 (nmOk_of h4).2
      exact ss_put (o := .Name x px) (k := ek) (ps_asg (snd ec g C G e c.c h7) (pg_sub hv (snd ec g C G k c.c h6) (set_D c.c.room) (sub_asg h8)) (show swapsWith v (some (.Subscript (.Name x px) ek ps)) pos.line X.env = pure false from swaps_sub) stores_sub rfl) (mem_of h5)
    · cases h
  | .ex e, M, sc, fc, st, X, W, c, hf, h => by
    unfold chkS at h
    split at h
    · simp only [Bool.and_eq_true] at h
      exact ss_ex (ps_expr (snd ec g C G e c.c h.2) (swaps_no h.1))
    · cases h
  | .ite d a b, M, sc, fc, st, X, W, c, hf, h => by
    unfold chkS at h
    split at h
    · simp only [Bool.and_eq_true] at h
      exact ss_ite (snd ec g C G d c.c h.1.1).1 (sndSs a c hf h.1.2) (sndSs b c hf h.2)
    · cases h
  | .for m T k src db, M, sc, fc, st, X, W, c, hf, h => by
    unfold chkS at h
    split at h
    · rename_i tg iter body pos
      simp only [Bool.and_eq_true] at h
      obtain ⟨⟨⟨⟨h1, h2⟩, h3⟩, h4⟩, h5⟩ := h
      have hi : SI X W (if m then Mw M (T.slots ++ db.wr) else M) C G false tg iter k src := by
        split at h3
        · rename_i args hargs; exact si_of c.c (m := false) hargs h3
        · cases h3
      exact for_core c.po c.c.calm hi (tg_of c.c h1) (sndSs db c hf h5) (disj_of h2) (set_plain h4) (by cases T <;> simp [DS.wr, Tg.slots])
    · cases h
  | .while d db, M, sc, fc, st, X, W, c, hf, h => by
    unfold chkS at h
    split at h
    · simp only [Bool.and_eq_true] at h
      exact ss_while c.po (snd ec g C G d c.c h.1).1 (sndSs db c hf h.2)
    · cases h
  | .ret e, M, sc, fc, st, X, W, c, hf, h => by
    unfold chkS at h
    split at h
    · exact ss_ret (ps_ret (snd ec g C G e c.c h))
    · cases h
  | .retN, M, sc, fc, st, X, W, c, hf, h => by
    unfold chkS at h
    split at h
    · exact ss_retN ps_retN
    · cases h
  | .raise k, M, sc, fc, st, X, W, c, hf, h => by
    unfold chkS at h
    split at h
    · simp only [Bool.and_eq_true, decide_eq_true_eq] at h
      exact ss_raise (c.rs k _ h.1 (c.c.gl h.2) _ _ _ _ _ _)
    · cases h
  | .brk, M, sc, fc, st, X, W, c, hf, h => by
    unfold chkS at h
    split at h
    · exact ss_brk ps_break
    · cases h
  | .cont, M, sc, fc, st, X, W, c, hf, h => by
    unfold chkS at h
    split at h
    · exact ss_cont ps_continue
    · cases h
  | .pass, M, sc, fc, st, X, W, c, hf, h => by
    unfold chkS at h
    split at h
    · exact ss_pass ps_pass
    · cases h
theorem sndSs : ∀ (dss : DSs) {M : List Nat} {sc : Scope} {fc : Str → Bool} {sts : List Stmt} {X : Cx} {W : WC}, StCtx ec g exs C G X W sc fc → fnK sc = true → chkSs g exs dss M sc fc sts = true → SSs X W M C G F sts dss
  | .nil, M, sc, fc, sts, X, W, c, hf, h => by
    unfold chkSs at h
    split at h
    · exact sss_nil
    · cases h
  | .cons d ds, M, sc, fc, sts, X, W, c, hf, h => by
    unfold chkSs at h
    split at h
    · simp only [Bool.and_eq_true] at h
      exact sss_cons (sndS d c hf h.1) (sndSs ds c hf h.2)
    · cases h
end
end
end B

set_option maxHeartbeats 4000000
/-! GenW: defs; a program. -/
namespace B
open PySem PySem.Spec PyProof.Rows L2
structure DefS where
  id : Nat
  nm : Str
  np : Nat
  M : List Nat
  N : List Str
  body : DSs
  st : Stmt
def DefS.ps (d : DefS) : List Str := d.N.take d.np
/-- the def with that number -/
def look (ds : List DefS) (i : Nat) : Option DefS := ds.find? fun d => d.id == i
theorem look_mem {ds : List DefS} {i : Nat} {d : DefS} (h : look ds i = some d) : d ∈ ds := List.mem_of_find?_eq_some h
def tabOf (ds : List DefS) : Nat → Option Fn := fun i => (look ds i).map fun d => ⟨d.np, d.N.length, d.M, d.body⟩
def fnsOf (ds : List DefS) : Nat → Option (Str × Nat) := fun i => (look ds i).map fun d => (d.nm, d.np)
def parB (sc : Scope) (x : Str) : Bool := match sc.names.lookup x with
  | some .local => true
  | some .cell => true
  | _ => false
def noFree (sc : Scope) : Bool := sc.names.all fun y => !(y.2 == .free)
def scB (d : DefS) : Bool := fnK (defScope d.st) && !(defScope d.st).isCoroutine && !(defScope d.st).isGenerator && decide d.N.Nodup && d.ps.all (parB (defScope d.st)) && noFree (defScope d.st) && d.M.all (fun i => decide (d.np ≤ i) && decide (i < d.N.length)) && decide (d.np ≤ d.N.length)
def defB (ds : List DefS) (gn : List Str) (exs : Nat → Option Str) (d : DefS) : Bool := chkSs ⟨d.N, gn, fnsOf ds⟩ exs d.body d.M (defScope d.st) (fun _ => true) (defBody d.st) && scB d
theorem scope_of {d : DefS} (h : scB d = true) : FnScope d.N d.ps (defScope d.st) ∧ fnK (defScope d.st) = true ∧ (∀ i ∈ d.M, d.np ≤ i ∧ i < d.N.length) ∧ d.np ≤ d.N.length := by
  unfold scB at h
  simp only [Bool.and_eq_true, Bool.not_eq_true', decide_eq_true_eq] at h
  obtain ⟨⟨⟨⟨⟨⟨⟨h1, h2⟩, h3⟩, h4⟩, h5⟩, h6⟩, h7⟩, h8⟩ := h
  refine ⟨⟨?_, h2, h3, h4, ?_, fun x hx => ?_, fun y hy e => ?_⟩, h1, fun i hi => ?_, h8⟩
  · unfold fnK at h1
    split at h1
    · assumption
    · cases h1
  · unfold DefS.ps
    rw [List.length_take, Nat.min_eq_left h8]
  · have q := List.all_eq_true.mp h5 x hx
    unfold parB at q
    split at q
    · rename_i e; exact .inl e
    · rename_i e; exact .inr e
    · cases q
  · have q := List.all_eq_true.mp h6 y hy
    rw [e] at q
    simp at q
  · have q := List.all_eq_true.mp h7 i hi
    simpa using q
abbrev FnP (K : PySem.W.Frag) (d : DefS) (f : Addr) (fd : FuncData) : Prop := FunD K d.nm d.nm (defArgs d.st) (defBody d.st) (defScope d.st) [] [] f fd
/-- the parameters are bound in their order -/
def Bnd (d : DefS) : Prop := ∀ (kV doc pm : Value) (an : Option Addr) (cdv ct : Value) (us : List Value), us.length = d.ps.length → bindArgs (PySem.W.fnOf d.nm d.nm (defArgs d.st) (defBody d.st) (defScope d.st) .none kV doc pm an cdv ct) ⟨us, []⟩ = pure (d.ps.zip us)
def AllB : List DefS → Prop
  | [] => True
  | d :: ds => Bnd d ∧ AllB ds
theorem AllB.mem : ∀ {ds : List DefS} {d : DefS}, AllB ds → d ∈ ds → Bnd d
  | [], _, _, h => by cases h
  | _ :: _, _, a, h => by
    rcases List.mem_cons.mp h with rfl | h
    · exact a.1
    · exact AllB.mem a.2 h
/-- what the top leaves -/
structure Left (ds : List DefS) (gn : List Str) (exs : Nat → Option Str) (ec : Nat → Addr) (G : List D) (w : World) (K : PySem.W.Frag) (mg : Str → Option Value) : Prop where
  fn : ∀ d : DefS, d ∈ ds → ∃ f fd, FnP K d f fd ∧ mg d.nm = some (.ref f)
  g : GOk K w mg G gn
  mg0 : ∀ x ∈ bnames, mg x = none
  ex : ∀ k nm, exs k = some nm → mg nm = some (.ref (ec k)) ∧ PySem.W.excIn K (ec k) He.veBase "ValueError.__new__" = true ∧ PySem.W.keepIn K (.ref (ec k)) = true ∧ PySem.W.subIn K (.ref (ec k)) (.type "BaseException") = some true ∧ PySem.W.typeIn K (.ref (ec k)) = some (.type "type") ∧ (nm == ("__debug__" : Str)) = false
theorem CX.imp {P : Program} {w : World} {outer : List PySem.Env} {H : Hp} {s s' : Shared} {E E' : XK} {u : Value} (h : ∀ cls d H, E cls d H → E' cls d H) (c : L2.CX P w outer H s E u s') : L2.CX P w outer H s E' u s' := by
  obtain ⟨a, B, H', cls, d, e1, e2, e3, e4, e5, e6, e7, e8⟩ := c
  exact ⟨a, B, H', cls, d, e1, e2, e3, e4, e5, e6, e7, h _ _ _ e8⟩
theorem start_at {N : List Str} {vs : List V} {i : Nat} (h : vs.length ≤ i) (hl : i < N.length) : (L2.start N vs)[i]? = some none := by
  unfold L2.start
  rw [List.getElem?_append_right (by simpa using h), List.getElem?_replicate, List.length_map, if_pos (by omega)]
theorem startE_at {n : Nat} {ds : List D} {i : Nat} (h : ds.length ≤ i) (hl : i < n) : (startE n ds)[i]? = some none := by
  unfold startE
  rw [List.getElem?_append_right (by simpa using h), List.getElem?_replicate, List.length_map, if_pos (by omega)]
theorem start_ok {K : PySem.W.Frag} {d : DefS} {H : Hp} {A : Addr → Prop} {vs : List V} {ds : List D} (hA : OkA H A) (r : RepL K H A vs ds) (hl : ds.length = d.np) (hM : ∀ i ∈ d.M, d.np ≤ i ∧ i < d.N.length) (hn : d.np ≤ d.N.length) : StOk K d.M H A A (L2.start d.N vs) H (startE d.N.length ds) := by
  have lv : vs.length = ds.length := r.length
  have e1 : (L2.start d.N vs).length = d.N.length := by
    unfold L2.start
    rw [List.length_append, List.length_map, List.length_replicate]
    omega
  have e2 : (startE d.N.length ds).length = d.N.length := by
    unfold startE
    rw [List.length_append, List.length_map, List.length_replicate]
    omega
  have nM : ∀ i ∈ d.M, (L2.start d.N vs)[i]? = some none ∧ (startE d.N.length ds)[i]? = some none := fun i hi => ⟨start_at (by have := hM i hi; omega) (hM i hi).2, startE_at (by have := hM i hi; omega) (hM i hi).2⟩
  refine ⟨hA, ⟨by rw [e1, e2], fun i x h => ?_⟩, Same.refl H, fun _ z => z, hA, fun i hi => by rw [e2]; exact (hM i hi).2, fun i hi _ => (nM i hi).1, fun i hi x h => ?_, fun i hi j hj a h => ?_⟩
  · by_cases hi : i < ds.length
    · have h2 : ds[i]? = some x := by
        unfold startE at h
        rw [List.getElem?_append_left (by simpa using hi), List.getElem?_map] at h
        obtain ⟨y, q1, q2⟩ := Option.map_eq_some_iff.mp h
        cases q2
        exact q1
      obtain ⟨v, q1, q2⟩ := r.get h2
      refine ⟨v, ?_, q2.alw fun _ _ _ _ => trivial, fun _ => q2⟩
      unfold L2.start
      rw [List.getElem?_append_left (by simpa [lv] using hi), List.getElem?_map, q1]
      rfl
    · by_cases hl2 : i < d.N.length
      · rw [startE_at (by omega) hl2] at h; cases h
      · rw [List.getElem?_eq_none (by omega)] at h; cases h
  · rw [(nM i hi).2] at h; cases h
  · rw [(nM i hi).1] at h; cases h
/-- THE RULE: every def does what run says -/
theorem defs_ok {ds : List DefS} {gn : List Str} {exs : Nat → Option Str} {ec : Nat → Addr} {G : List D} {F : Nat} {P : Program} {w : World} {K : PySem.W.Frag} {mg : Str → Option Value} {base : Heap}
    (L : Left ds gn exs ec G w K mg) (hb : AllB ds) (hc : ds.all (defB ds gn exs) = true) : ∀ (k i : Nat) (d : DefS) (f : Addr) (fd : FuncData), look ds i = some d → FnP K d f fd → FnOk P w K mg base (L2.CX P w) k f fd d.ps (spF K ec d.ps.length (run (tabOf ds) G F k i))
  | 0, i, d, f, fd, _, _ => ⟨fun vs H Q E h => h.1, fun A outer s H args us vs Q E _ _ _ _ h => by
      obtain ⟨_, xs, A', _, _, z⟩ := h
      exact z.elim⟩
  | k + 1, i, d, f, fd, hd, hF => by
    have hdB := List.all_eq_true.mp hc d (look_mem hd)
    unfold defB at hdB
    simp only [Bool.and_eq_true] at hdB
    obtain ⟨hck, hsc⟩ := hdB
    obtain ⟨S, hfk, hM, hn⟩ := scope_of hsc
    have hpl : d.ps.length = d.np := by unfold DefS.ps; rw [List.length_take, Nat.min_eq_left hn]
    refine hF.ok S (fun vs H Q E h => h.1) fun cdv A outer s H vs Q E hr hsp => ?_
    obtain ⟨hlv, xs, A0, hA, r, hq⟩ := hsp
    have hlx : xs.length = d.np := by rw [← r.length, hlv, hpl]
    let X := cxOf (L2.CX P w) P w K mg base d.N d.nm (defScope d.st) f cdv A outer s H E
    have tk : Takes X (fun cls d _ H => E cls d H) := takes_of rfl rfl rfl rfl
    have cx : CtxOk ec gn (fnsOf ds) d.N (run (tabOf ds) G F k) G X (fun c _ H' => E (.ref (ec c)) none H') (defScope d.st) (fun _ => true) := by
      refine ⟨rfl, rfl, rfl, S.nd, ?_, L.g, L.mg0, fun j nm np hj => ?_, fun σ => ?_, fun _ _ => rfl⟩
      · have := hr.un
        show (A.deeper _).units + 200 < cLine
        omega
      · unfold fnsOf at hj
        obtain ⟨d', q1, q2⟩ := Option.map_eq_some_iff.mp hj
        cases q2
        obtain ⟨f', fd', q3, q4⟩ := L.fn d' (look_mem q1)
        have hdB' := List.all_eq_true.mp hc d' (look_mem q1)
        unfold defB at hdB'
        simp only [Bool.and_eq_true] at hdB'
        obtain ⟨_, _, _, hn'⟩ := scope_of hdB'.2
        exact ⟨k, f', fd', d'.ps, defs_ok L hb hc k j d' f' fd' q1 q3, hr, q4, q3.kp, FunD.bindsN q3 (hb.mem (look_mem q1)), by unfold DefS.ps; rw [List.length_take, Nat.min_eq_left hn']⟩
      · intro pins H1 s1 e s2 I c
        exact passAt tk σ pins H1 s1 e s2 I (CX.imp (fun cls d H' h => by
          obtain ⟨c', e1, e2, h⟩ := h
          subst e1 e2
          exact h) c)
    have sx : StCtx ec ⟨d.N, gn, fnsOf ds⟩ exs (run (tabOf ds) G F k) G X (fun c _ H' => E (.ref (ec c)) none H') (defScope d.st) (fun _ => true) := by
      refine ⟨cx, passes_of rfl, fun c nm hx hg m j p p2 p3 pos => ?_⟩
      obtain ⟨e1, e2, e3, e4, e5, e6⟩ := L.ex c nm hx
      exact PS.imp (ps_raise rfl tk (pmk_own PySem.F.excBase_ValueError e2 e1 e3 (raises_own e4 e5) hg e6)) fun _ _ _ h => h
    refine ⟨_, sndSs ec ⟨d.N, gn, fnsOf ds⟩ exs (run (tabOf ds) G F k) G F d.body sx hfk hck, startE d.N.length xs, H, A0, A0, start_ok hA r hlx hM hn, ?_⟩
    have hrun : run (tabOf ds) G F (k + 1) i xs = endR (evSs (run (tabOf ds) G F k) G F d.body (startE d.N.length xs)) := by
      simp only [run, tabOf, hd, Option.map_some]
      rw [if_pos hlx]
    rw [hrun] at hq
    cases e : evSs (run (tabOf ds) G F k) G F d.body (startE d.N.length xs) with
    | nx e1 => rw [e] at hq; exact fun A' σ' H' s' _ => hq .non H' s'.s0 .non
    | rt v => rw [e] at hq; exact hq
    | exc c e1 => rw [e] at hq; exact fun σ' H' s' => hq H' s'
    | bk e1 => rw [e] at hq; exact hq.elim
    | ct e1 => rw [e] at hq; exact hq.elim
    | bad => rw [e] at hq; exact hq.elim
end B

set_option maxHeartbeats 4000000
/-! GenX: what the top leaves, read from the head. -/
namespace B
open PySem PySem.Spec PyProof.Rows L2
mutual
/-- the value u bears d, by the written part -/
def dB (K : PySem.W.Frag) : D → Value → Bool
  | .non, .none => true
  | .bl b, .bool c => b == c
  | .int i, .int j _ => i == j
  | .str x, .str y _ => x == y && PyData.strOk x && decide (x.length ≤ SZ)
  | .tup ds, .ref a => (match K.lookup a with
    | some ⟨.type c, _, .seq its _, _⟩ => decide (c = "tuple") && decide (its.size ≤ sizeLine) && decide (ds.length ≤ SZ) && dBs K ds its.toList
    | _ => false)
  | _, _ => false
def dBs (K : PySem.W.Frag) : List D → List Value → Bool
  | [], [] => true
  | d :: ds, u :: us => dB K d u && dBs K ds us
  | _, _ => false
end
mutual
theorem dB_ok {K : PySem.W.Frag} : ∀ {d : D} {u : Value}, dB K d u = true → ∃ v, RelV v u ∧ ∀ H A, Rep K H A v d
  | .non, u, h => by
    unfold dB at h
    cases u <;> first | (cases h; done) | exact ⟨.non, rfl, fun _ _ => .non⟩
  | .bl b, u, h => by
    unfold dB at h
    cases u <;> first | (cases h; done) | skip
    have e := beq_iff_eq.mp h
    subst e
    exact ⟨.bl b, rfl, fun _ _ => .bl b⟩
  | .int i, u, h => by
    unfold dB at h
    cases u <;> first | (cases h; done) | skip
    have e := beq_iff_eq.mp h
    subst e
    exact ⟨.int i, ⟨_, rfl⟩, fun _ _ => .int i⟩
  | .str x, u, h => by
    unfold dB at h
    cases u <;> first | (cases h; done) | skip
    simp only [Bool.and_eq_true, beq_iff_eq, decide_eq_true_eq] at h
    obtain ⟨⟨e, h1⟩, h2⟩ := h
    subst e
    exact ⟨.str x, ⟨_, rfl⟩, fun _ _ => .str x h1 h2⟩
  | .tup ds, u, h => by
    unfold dB at h
    cases u <;> first | (cases h; done) | skip
    rename_i a
    dsimp only at h
    split at h
    · rename_i c od its n sl hK
      simp only [Bool.and_eq_true, decide_eq_true_eq] at h
      obtain ⟨⟨⟨e, h1⟩, h2⟩, h3⟩ := h
      subst e
      obtain ⟨vs, r1, r2⟩ := dBs_ok h3
      exact ⟨.ref a, rfl, fun H A => .tup (.inr ⟨_, its, n, hK, rfl, rfl, h1, r1⟩) (r2 H A) h2⟩
    · cases h
  | .lst _, u, h => by unfold dB at h; cases u <;> cases h
  | .dct _, u, h => by unfold dB at h; cases u <;> cases h
  | .exc _, u, h => by unfold dB at h; cases u <;> cases h
  | .arg _, u, h => by unfold dB at h; cases u <;> cases h
theorem dBs_ok {K : PySem.W.Frag} : ∀ {ds : List D} {us : List Value}, dBs K ds us = true → ∃ vs, Vals vs us ∧ ∀ H A, RepL K H A vs ds
  | [], [], _ => ⟨[], .nil, fun _ _ => .nil⟩
  | [], _ :: _, h => by unfold dBs at h; cases h
  | _ :: _, [], h => by unfold dBs at h; cases h
  | d :: ds, u :: us, h => by
    unfold dBs at h
    simp only [Bool.and_eq_true] at h
    obtain ⟨v, r1, r2⟩ := dB_ok h.1
    obtain ⟨vs, q1, q2⟩ := dBs_ok h.2
    exact ⟨v :: vs, .cons r1 q1, fun H A => .cons (r2 H A) (q2 H A)⟩
end
def keyS : D × D → Str
  | (.str z, _) => z
  | _ => Str.empty
def strK : D × D → Bool
  | (.str _, _) => true
  | _ => false
/-- a global of the module -/
def gB (K : PySem.W.Frag) (x : Str) : D → Bool
  | .int n => (He.Fa.int x n).ok K
  | .str z => (He.Fa.str x z).ok K && PyData.strOk z && decide (z.length ≤ SZ)
  | .dct kvs => (He.Fa.glo x).ok K && kvs.all fun q => strK q && (match PySem.W.nsIn K (He.ga K x) (keyS q) with
    | some (some u) => dB K q.2 u
    | _ => false)
  | .non => true
  | _ => false
def gsB (gn : List Str) (G : List D) (K : PySem.W.Frag) : Bool := (gn.zip G).all fun q => gB K q.1 q.2
def tabsOf (gn : List Str) (G : List D) : List He.Tab := (gn.zip G).filterMap fun q => match q.2 with
  | .dct kvs => some (fun K => He.ga K q.1, kvs.map keyS)
  | _ => none
theorem dic_of {fa : List He.Fa} {fn : List He.DefD} {ts : List He.Tab} {w : World} {K : PySem.W.Frag} (c : He.SaysT fa fn ts w K) {t : He.Tab} (h : t ∈ ts) : He.dicW K (t.1 K) = some (He.keysIn w.params t.2) := by
  have e : ts.map (fun t => He.dicW K (t.1 K)) = ts.map fun t => some (He.keysIn w.params t.2) := congrArg (fun z : He.AlT => z.2) c
  have go : ∀ {l : List He.Tab}, l.map (fun t => He.dicW K (t.1 K)) = l.map (fun t => some (He.keysIn w.params t.2)) → ∀ t ∈ l, He.dicW K (t.1 K) = some (He.keysIn w.params t.2) := by
    intro l
    induction l with
    | nil => intro _ t h; cases h
    | cons a l ih =>
      intro e t h
      simp only [List.map_cons, List.cons.injEq] at e
      rcases List.mem_cons.mp h with rfl | h
      · exact e.1
      · exact ih e.2 t h
  exact go e t h
theorem keys_no {P : Params} {z : Str} : ∀ {l : List DictEntry} {ks : List Str}, l.map He.keyOf = He.keysIn P ks → z ∉ ks → l.find? (·.key.isStr z) = none ∧ l.any (·.refKey) = false
  | [], _, _, _ => ⟨rfl, rfl⟩
  | e :: r, [], h, _ => by cases h
  | e :: r, k :: ks, h, hz => by
    have h1 : He.keyOf e :: r.map He.keyOf = some (k, PyData.keyHash P k) :: He.keysIn P ks := h
    injection h1 with h2 h3
    obtain ⟨q1, q2⟩ := keys_no h3 fun y => hz (List.mem_cons_of_mem _ y)
    unfold He.keyOf at h2
    split at h2
    · rename_i x t q
      have h4 := (Prod.mk.inj (Option.some.inj h2)).1
      subst h4
      have hne : ¬ x = z := fun y => hz (by rw [← y]; exact List.mem_cons_self ..)
      constructor
      · rw [List.find?_cons, q]
        have : (Value.str x t).isStr z = false := by
          show (x == z) = false
          exact beq_eq_false_iff_ne.mpr hne
        rw [this]
        exact q1
      · rw [List.any_cons, q2]
        have : e.refKey = false := by
          unfold DictEntry.refKey
          rw [q]
        rw [this]
        rfl
    · cases h2
theorem ns_none {P : Params} {K : PySem.W.Frag} {a : Addr} {ks : List Str} {z : Str} (h : He.dicW K a = some (He.keysIn P ks)) (hz : z ∉ ks) : PySem.W.nsIn K a z = some none := by
  unfold He.dicW at h
  split at h
  · rename_i c es n sl hK
    split at h
    · obtain ⟨q1, q2⟩ := keys_no (Option.some.inj h) hz
      unfold PySem.W.nsIn
      rw [hK]
      dsimp only
      rw [q1]
      dsimp only
      rw [if_neg (by rw [q2]; exact Bool.false_ne_true)]
    · cases h
  · cases h
theorem find_some {kvs : List (D × D)} {z : Str} {d : D} (hs : kvs.all strK = true) (h : D.find kvs (.str z) = some d) : ∃ q ∈ kvs, keyS q = z ∧ q.2 = d := by
  unfold D.find at h
  obtain ⟨q, h1, h2⟩ := Option.map_eq_some_iff.mp h
  have hm := List.mem_of_find?_eq_some h1
  have hp := List.find?_some h1
  refine ⟨q, hm, ?_, h2⟩
  have hk := List.all_eq_true.mp hs q hm
  obtain ⟨k, v⟩ := q
  cases k <;> first | (cases hk; done) | skip
  simp only [D.eqv] at hp
  exact beq_iff_eq.mp hp
theorem find_none {kvs : List (D × D)} {z : Str} (hs : kvs.all strK = true) (h : D.find kvs (.str z) = none) : z ∉ kvs.map keyS := by
  intro hz
  obtain ⟨q, hq, e⟩ := List.mem_map.mp hz
  unfold D.find at h
  rw [Option.map_eq_none_iff, List.find?_eq_none] at h
  have := h q hq
  have hk := List.all_eq_true.mp hs q hq
  obtain ⟨k, v⟩ := q
  cases k <;> first | (cases hk; done) | skip
  simp only [D.eqv] at this
  subst e
  simp [keyS] at this
theorem gok {h : Heap} {fa : List He.Fa} {fn : List He.DefD} {gn : List Str} {G : List D} {w : World} {K : PySem.W.Frag} {mg : Str → Option Value} (Xk : K.In h) (Gm : h.Ns mainGlobals mg) (c : He.SaysT fa fn (tabsOf gn G) w K) (hg : gsB gn G K = true) : GOk K w mg G gn := by
  intro i d x h1 h2
  have hm : (x, d) ∈ gn.zip G := by
    have : (gn.zip G)[i]? = some (x, d) := by rw [List.getElem?_zip_eq_some]; exact ⟨h2, h1⟩
    exact List.mem_of_getElem? this
  have hb := List.all_eq_true.mp hg (x, d) hm
  cases d with
  | int n => exact He.int_ok Xk Gm hb
  | str z =>
    simp only [gB, Bool.and_eq_true, decide_eq_true_eq] at hb
    exact ⟨He.str_ok Xk Gm hb.1.1, hb.1.2, hb.2⟩
  | dct kvs =>
    simp only [gB, Bool.and_eq_true] at hb
    obtain ⟨b1, b2⟩ := hb
    have ht : ((fun K => He.ga K x, kvs.map keyS) : He.Tab) ∈ tabsOf gn G := by
      unfold tabsOf
      exact List.mem_filterMap.mpr ⟨(x, .dct kvs), hm, rfl⟩
    have hd := dic_of c ht
    obtain ⟨es, n, hD⟩ := He.dicW_ok hd
    have hs : kvs.all strK = true := List.all_eq_true.mpr fun q hq => by
      have := List.all_eq_true.mp b2 q hq
      simp only [Bool.and_eq_true] at this
      exact this.1
    refine ⟨He.ga K x, es, n, He.glo_ok Xk Gm b1, hD, fun z => ?_⟩
    cases e : D.find kvs (.str z) with
    | none => exact ns_none hd (find_none hs e)
    | some d =>
      obtain ⟨q, hq, e1, e2⟩ := find_some hs e
      have := List.all_eq_true.mp b2 q hq
      simp only [Bool.and_eq_true] at this
      have b3 := this.2
      rw [e1] at b3
      split at b3
      · rename_i u hu
        obtain ⟨v, r1, r2⟩ := dB_ok b3
        rw [e2] at r2
        exact ⟨u, v, hu, r1, r2⟩
      · cases b3
  | _ => exact True.intro
/-! ### the head's list of facts -/
def exAt (exl : List (Option Str)) (k : Nat) : Option Str := (exl[k]?).join
def faOf (ds : List DefS) (exl : List (Option Str)) : List He.Fa := ds.map (fun d => .glo d.nm) ++ bnames.map .free ++ (exl.filterMap id).map .glo ++ (exl.filterMap id).map .exc
def fnD (ds : List DefS) : List He.DefD := ds.map fun d => ⟨(d.nm, none), d.nm, d.nm, defArgs d.st, defBody d.st, defScope d.st, [], []⟩
def exOk (exl : List (Option Str)) : Bool := (exl.filterMap id).all fun x => !(x == ("__debug__" : Str))
def exNm (exl : List (Option Str)) (k : Nat) : Str := (exAt exl k).getD Str.empty
theorem left_of {ds : List DefS} {gn : List Str} {G : List D} {exl : List (Option Str)} {h : Heap} {w : World} {K : PySem.W.Frag} {mg : Str → Option Value} (Xk : K.In h) (Gm : h.Ns mainGlobals mg) (c : He.SaysT (faOf ds exl) (fnD ds) (tabsOf gn G) w K) (hg : gsB gn G K = true) (he : exOk exl = true) :
    Left ds gn (exAt exl) (fun k => He.ga K (exNm exl k)) G w K mg where
  fn := fun d hm => by
    obtain ⟨fd, F⟩ := c.d.defs (d := ⟨(d.nm, none), d.nm, d.nm, defArgs d.st, defBody d.st, defScope d.st, [], []⟩) (List.mem_map.mpr ⟨d, hm, rfl⟩)
    refine ⟨He.ga K d.nm, fd, F, He.glo_ok Xk Gm (c.d.facts ?_)⟩
    unfold faOf
    exact List.mem_append_left _ (List.mem_append_left _ (List.mem_append_left _ (List.mem_map.mpr ⟨d, hm, rfl⟩)))
  g := gok Xk Gm c hg
  mg0 := fun x hx => He.free_ok Xk Gm (c.d.facts (by
    unfold faOf
    exact List.mem_append_left _ (List.mem_append_left _ (List.mem_append_right _ (List.mem_map.mpr ⟨x, hx, rfl⟩)))))
  ex := fun k nm hk => by
    have hm : nm ∈ exl.filterMap id := by
      unfold exAt at hk
      cases q : exl[k]? with
      | none => rw [q] at hk; cases hk
      | some o =>
        rw [q] at hk
        have e : o = some nm := hk
        subst e
        exact List.mem_filterMap.mpr ⟨some nm, List.mem_of_getElem? q, rfl⟩
    have e : exNm exl k = nm := by unfold exNm; rw [hk]; rfl
    rw [e]
    have f1 : (He.Fa.glo nm).ok K = true := c.d.facts (by
      unfold faOf
      exact List.mem_append_left _ (List.mem_append_right _ (List.mem_map.mpr ⟨nm, hm, rfl⟩)))
    have f2 : (He.Fa.exc nm).ok K = true := c.d.facts (by
      unfold faOf
      exact List.mem_append_right _ (List.mem_map.mpr ⟨nm, hm, rfl⟩))
    have f3 : (PySem.W.excIn K (He.ga K nm) He.veBase "ValueError.__new__" && (PySem.W.keepIn K (.ref (He.ga K nm)) && (decide (PySem.W.subIn K (.ref (He.ga K nm)) (.type "BaseException") = some true) && decide (PySem.W.typeIn K (.ref (He.ga K nm)) = some (.type "type"))))) = true := f2
    simp only [Bool.and_eq_true, decide_eq_true_eq] at f3
    have f4 := List.all_eq_true.mp he nm hm
    exact ⟨He.glo_ok Xk Gm f1, f3.1, f3.2.1, f3.2.2.1, f3.2.2.2, by simpa using f4⟩
/-- nothing is let out: the layer without exceptions -/
theorem fn_cx0 {P : Program} {w : World} {K : PySem.W.Frag} {mg : Str → Option Value} {base : Heap} {k : Nat} {f : Addr} {fd : FuncData} {ps : List Str} {sp : Sp} (F : FnOk P w K mg base (L2.CX P w) k f fd ps sp) : FnOk P w K mg base CX0 k f fd ps (fun vs H Q _ => sp vs H Q fun _ _ _ => False) :=
  ⟨fun vs H Q E h => F.len _ _ _ _ h, fun A outer s H args us vs Q E hr e0 hb r h => codeAny_mono (F.run A outer s H args us vs Q _ hr e0 hb r h) fun res s' q => by
    cases res with
    | error e =>
      obtain ⟨_, _, _, _, _, _, _, _, _, _, _, _, z⟩ := (show L2.CX P w outer H s (fun _ _ _ => False) e s' from q)
      exact z.elim
    | ok fl => cases fl <;> exact q⟩
/-- THE LAW's promise, of what run says -/
def spLaw (K : PySem.W.Frag) (F : List D → R D) : Sp := fun vs H Q _ => spF K (fun _ => 0) 1 F vs H Q fun _ _ _ => False
theorem law_sp {K : PySem.W.Frag} {ec : Nat → Addr} {F : List D → R D} {H : Hp} {a : Addr} {ns : List Int} (hO : Only H) (hS : SqL K H a (ns.map V.int)) (hr : F [.arg ns] = .ok (.bl true)) : spF K ec 1 F [.ref a] H (fun v _ => v = .bl true) fun _ _ _ => False := by
  refine ⟨rfl, [.arg ns], fun _ => True, fun _ _ => True.intro, .cons ?_ .nil, ?_⟩
  · rcases hS with (h | ⟨o, h⟩) | h
    · rcases hO a with q | ⟨o, xs, q⟩ <;> rw [h] at q <;> cases q
    · exact .arg (o := o) (.inl h)
    · obtain ⟨o, its, n, h1, h2, h3, h4, h5, h6⟩ := h
      exact .arg (o := o) (.inr ⟨o, its, n, h1, h2, h3, h4, h5, h6⟩)
  · rw [hr]
    intro v H' _ r
    cases r
    rfl
end B

/-! GenY: the evaluator's steps, as rules that wait for what they need. -/
namespace B
open PySem
theorem r_b {α β : Type} (a : α) (f : α → R β) : (R.ok a).bind f = f a := id rfl
theorem r_be {α β : Type} (c : Nat) (f : α → R β) : (R.exc c : R α).bind f = .exc c := id rfl
theorem r_x {α : Type} (a : α) : (R.ok a).nox = .ok a := id rfl
theorem r_t {α : Type} (a : α) (env : Env) (f : α → O) : (R.ok a).then env f = f a := id rfl
theorem r_te {α : Type} (c : Nat) (env : Env) (f : α → O) : (R.exc c : R α).then env f = .exc c env := id rfl
theorem n_nx (e : Env) (f : Env → O) : (O.nx e).next f = f e := id rfl
theorem n_rt (d : D) (f : Env → O) : (O.rt d).next f = .rt d := id rfl
theorem n_bk (e : Env) (f : Env → O) : (O.bk e).next f = .bk e := id rfl
theorem n_ct (e : Env) (f : Env → O) : (O.ct e).next f = .ct e := id rfl
theorem n_exc (c : Nat) (e : Env) (f : Env → O) : (O.exc c e).next f = .exc c e := id rfl
theorem u_nx (e : Env) (f : Env → O) : (O.nx e).turn f = f e := id rfl
theorem u_ct (e : Env) (f : Env → O) : (O.ct e).turn f = f e := id rfl
theorem u_bk (e : Env) (f : Env → O) : (O.bk e).turn f = .nx e := id rfl
theorem u_rt (d : D) (f : Env → O) : (O.rt d).turn f = .rt d := id rfl
theorem u_exc (c : Nat) (e : Env) (f : Env → O) : (O.exc c e).turn f = .exc c e := id rfl
section
variable {C : Nat → List D → R D} {G : List D} {W : Nat} {env : Env}
theorem g0 (d : D) (e : Env) : getE (some d :: e) 0 = .ok d := id rfl
theorem gS (o : Option D) (e : Env) (n : Nat) : getE (o :: e) (n + 1) = getE e n := id rfl
theorem x_v (i : Nat) : ev C G (.v i) env = getE env i := id rfl
theorem x_k (d : D) : ev C G (.k d) env = .ok d := id rfl
theorem x_tup (es : DEs) : ev C G (.tup es) env = (evs C G es env).bind fun ds => .ok (.tup ds) := id rfl
theorem x_lst (es : DEs) : ev C G (.lst es) env = (evs C G es env).bind fun ds => .ok (.lst ds) := id rfl
theorem x_dct (ks : List Str) (es : DEs) : ev C G (.dct ks es) env = (evs C G es env).bind fun ds => .ok (.dct (D.putAll [] ((ks.map D.str).zip ds))) := id rfl
theorem x_op (o : Op) (a b : DE) : ev C G (.op o a b) env = (ev C G a env).bind fun x => (ev C G b env).bind fun y => D.opD o x y := id rfl
theorem x_cmp (o : Cm) (a b : DE) : ev C G (.cmp o a b) env = (ev C G a env).bind fun x => (ev C G b env).bind fun y => (D.cmD o x y).bind fun c => .ok (.bl c) := id rfl
def chnF (C : Nat → List D → R D) (G : List D) (o' : Cm) (c : DE) (env : Env) (y : D) (t : Bool) : R D := if t then (ev C G c env).bind fun z => (D.cmD o' y z).bind fun u => .ok (.bl u) else .ok (.bl false)
theorem x_chn (o o' : Cm) (a b c : DE) : ev C G (.chn o o' a b c) env = (ev C G a env).bind fun x => (ev C G b env).bind fun y => (D.cmD o x y).bind fun t => chnF C G o' c env y t := id rfl
theorem chn_t (o' : Cm) (c : DE) (y : D) : chnF C G o' c env y true = (ev C G c env).bind fun z => (D.cmD o' y z).bind fun u => .ok (.bl u) := id rfl
theorem chn_f (o' : Cm) (c : DE) (y : D) : chnF C G o' c env y false = .ok (.bl false) := id rfl
/-- one of two, the other is not looked at -/
def selF (C : Nat → List D → R D) (G : List D) (a b : DE) (env : Env) (t : Bool) : R D := if t then ev C G a env else ev C G b env
theorem sel_t (a b : DE) : selF C G a b env true = ev C G a env := id rfl
theorem sel_f (a b : DE) : selF C G a b env false = ev C G b env := id rfl
def andF (C : Nat → List D → R D) (G : List D) (b : DE) (env : Env) (x : D) (t : Bool) : R D := if t then ev C G b env else .ok x
theorem and_t (b : DE) (x : D) : andF C G b env x true = ev C G b env := id rfl
theorem and_f (b : DE) (x : D) : andF C G b env x false = .ok x := id rfl
def orF (C : Nat → List D → R D) (G : List D) (b : DE) (env : Env) (x : D) (t : Bool) : R D := if t then .ok x else ev C G b env
theorem or_t (b : DE) (x : D) : orF C G b env x true = .ok x := id rfl
theorem or_f (b : DE) (x : D) : orF C G b env x false = ev C G b env := id rfl
theorem x_and (a b : DE) : ev C G (.and a b) env = (ev C G a env).bind fun x => (D.truth x).bind fun t => andF C G b env x t := id rfl
theorem x_or (a b : DE) : ev C G (.or a b) env = (ev C G a env).bind fun x => (D.truth x).bind fun t => orF C G b env x t := id rfl
theorem x_not (a : DE) : ev C G (.not a) env = (ev C G a env).bind fun x => (D.truth x).bind fun t => .ok (.bl (!t)) := id rfl
def negD : D → R D
  | .int i => .ok (.int (-i))
  | _ => .bad
theorem neg_int (i : Int) : negD (.int i) = .ok (.int (-i)) := id rfl
theorem x_neg (a : DE) : ev C G (.neg a) env = (ev C G a env).bind negD := id rfl
theorem x_ite (c a b : DE) : ev C G (.ite c a b) env = (ev C G c env).bind fun x => (D.truth x).bind fun t => selF C G a b env t := id rfl
theorem x_ix (a i : DE) : ev C G (.ix a i) env = (ev C G a env).bind fun x => (ev C G i env).bind fun y => D.ixD x y := id rfl
def gD : Option D → R D
  | some (.int n) => .ok (.int n)
  | some (.str z) => .ok (.str z)
  | _ => .bad
theorem gD_int (n : Int) : gD (some (.int n)) = .ok (.int n) := id rfl
theorem gD_str (n : Str) : gD (some (.str n)) = .ok (.str n) := id rfl
theorem x_g (i : Nat) : ev C G (.g i) env = gD G[i]? := id rfl
def gixD (kvs : List (D × D)) : D → R D
  | .str z => match D.find kvs (.str z) with
    | some d => .ok d
    | none => .bad
  | _ => .bad
def ginD (kvs : List (D × D)) : D → R D
  | .str z => .ok (.bl (D.find kvs (.str z)).isSome)
  | _ => .bad
theorem gix_some {kvs : List (D × D)} {z : Str} {d : D} (h : D.find kvs (.str z) = some d) : gixD kvs (.str z) = .ok d := by simp only [gixD, h]
theorem gin_str (kvs : List (D × D)) (z : Str) : ginD kvs (.str z) = .ok (.bl (D.find kvs (.str z)).isSome) := id rfl
def gixO (C : Nat → List D → R D) (G : List D) (i : DE) (env : Env) : Option D → R D
  | some (.dct kvs) => (ev C G i env).bind (gixD kvs)
  | _ => .bad
def ginO (C : Nat → List D → R D) (G : List D) (i : DE) (env : Env) : Option D → R D
  | some (.dct kvs) => (ev C G i env).bind (ginD kvs)
  | _ => .bad
theorem gix_dct (i : DE) (kvs : List (D × D)) : gixO C G i env (some (.dct kvs)) = (ev C G i env).bind (gixD kvs) := id rfl
theorem gin_dct (i : DE) (kvs : List (D × D)) : ginO C G i env (some (.dct kvs)) = (ev C G i env).bind (ginD kvs) := id rfl
theorem x_gix (g : Nat) (i : DE) : ev C G (.gix g i) env = gixO C G i env G[g]? := id rfl
theorem x_gin (g : Nat) (i : DE) : ev C G (.gin g i) env = ginO C G i env G[g]? := id rfl
def slAD (x : D) : D → R D
  | .int i => D.slD x (some i) none
  | _ => .bad
def slBD (x : D) : D → R D
  | .int i => D.slD x none (some i)
  | _ => .bad
def slCD (x : D) : D → D → R D
  | .int i, .int j => D.slD x (some i) (some j)
  | _, _ => .bad
theorem slA_int (x : D) (i : Int) : slAD x (.int i) = D.slD x (some i) none := id rfl
theorem slB_int (x : D) (i : Int) : slBD x (.int i) = D.slD x none (some i) := id rfl
theorem slC_int (x : D) (i j : Int) : slCD x (.int i) (.int j) = D.slD x (some i) (some j) := id rfl
theorem x_slA (a lo : DE) : ev C G (.slA a lo) env = (ev C G a env).bind fun x => (ev C G lo env).bind fun y => slAD x y := id rfl
theorem x_slB (a hi : DE) : ev C G (.slB a hi) env = (ev C G a env).bind fun x => (ev C G hi env).bind fun y => slBD x y := id rfl
def slCX (C : Nat → List D → R D) (G : List D) (hi : DE) (env : Env) (x : D) : D → R D
  | .int i => (ev C G hi env).bind (slCD x (.int i))
  | _ => .bad
theorem slCX_int (hi : DE) (x : D) (i : Int) : slCX C G hi env x (.int i) = (ev C G hi env).bind (slCD x (.int i)) := id rfl
theorem x_slC (a lo hi : DE) : ev C G (.slC a lo hi) env = (ev C G a env).bind fun x => (ev C G lo env).bind (slCX C G hi env x) := by
  simp only [ev]
  congr 1; funext x; congr 1; funext y
  cases y <;> try rfl
  unfold slCX
  dsimp only
  congr 1; funext z
  cases z <;> rfl
def revD : D → R D
  | .lst xs => .ok (.lst xs.reverse)
  | _ => .bad
theorem rev_lst (xs : List D) : revD (.lst xs) = .ok (.lst xs.reverse) := id rfl
theorem x_rev (a : DE) : ev C G (.rev a) env = (ev C G a env).bind revD := id rfl
theorem x_call (f : Nat) (es : DEs) : ev C G (.call f es) env = (evs C G es env).bind fun ds => C f ds := id rfl
theorem x_bi (b : Bi) (es : DEs) : ev C G (.bi b es) env = (evs C G es env).bind fun ds => D.biD b ds := id rfl
def mtX (C : Nat → List D → R D) (G : List D) (b : Bi) (es : DEs) (env : Env) (x : D) : R D := if D.recv b x then (evs C G es env).bind (D.mtD b x) else .bad
theorem x_mt (b : Bi) (a : DE) (es : DEs) : ev C G (.mt b a es) env = (ev C G a env).bind (mtX C G b es env) := id rfl
theorem mtX_index (es : DEs) (xs : List D) : mtX C G .index es env (.lst xs) = (evs C G es env).bind (D.mtD .index (.lst xs)) := id rfl
theorem mtX_get (es : DEs) (xs : List (D × D)) : mtX C G .get es env (.dct xs) = (evs C G es env).bind (D.mtD .get (.dct xs)) := id rfl
theorem mt_index (xs : List D) (x : D) : D.mtD .index (.lst xs) [x] = D.indexM xs x := id rfl
theorem mt_get (kvs : List (D × D)) (k v : D) : D.mtD .get (.dct kvs) [k, v] = D.getM kvs k v := id rfl
/-- a comprehension's turn -/
def lcG (C : Nat → List D → R D) (G : List D) (m : Bool) (elt : DE) (t : Tg) (cond : DEs) (own : List Nat) (env : Env) (x : D) : R (Option D) := match tgE t x (wipeE env own) with
    | none => .bad
    | some env1 => (evc C G cond env1).nox.bind fun c => if c then (ev C G elt env1).nox.bind fun d => (if m && !d.imm then .bad else .ok (some d)) else .ok none
def lcB (C : Nat → List D → R D) (G : List D) (m : Bool) (elt : DE) (t : Tg) (cond : DEs) (own : List Nat) (env : Env) (xs : List D) : R D := if m && !D.immL xs then .bad else (lcE (lcG C G m elt t cond own env) xs).bind fun r => .ok (.lst r)
theorem x_lc (m : Bool) (elt : DE) (t : Tg) (k : IK) (src cond : DEs) (own : List Nat) : ev C G (.lc m elt t k src cond own) env = (evs C G src env).bind fun ds => (D.itD k ds).bind fun xs => lcB C G m elt t cond own env xs := id rfl
theorem lcB_f (elt : DE) (t : Tg) (cond : DEs) (own : List Nat) (xs : List D) : lcB C G false elt t cond own env xs = (lcE (lcG C G false elt t cond own env) xs).bind fun r => .ok (.lst r) := id rfl
theorem lcB_t {elt : DE} {t : Tg} {cond : DEs} {own : List Nat} {xs : List D} (h : D.immL xs = true) : lcB C G true elt t cond own env xs = (lcE (lcG C G true elt t cond own env) xs).bind fun r => .ok (.lst r) := by
  unfold lcB
  rw [h]
  rfl
/-- what a turn gives -/
def lcR (C : Nat → List D → R D) (G : List D) (m : Bool) (elt : DE) (env1 : Env) (c : Bool) : R (Option D) := if c then (ev C G elt env1).nox.bind fun d => (if m && !d.imm then .bad else .ok (some d)) else .ok none
def lcC (C : Nat → List D → R D) (G : List D) (m : Bool) (elt : DE) (cond : DEs) : Option Env → R (Option D)
  | none => .bad
  | some env1 => (evc C G cond env1).nox.bind fun c => lcR C G m elt env1 c
theorem lcG_at (m : Bool) (elt : DE) (t : Tg) (cond : DEs) (own : List Nat) (x : D) : lcG C G m elt t cond own env x = lcC C G m elt cond (tgE t x (wipeE env own)) := by
  unfold lcG lcC lcR
  cases tgE t x (wipeE env own) <;> rfl
theorem lcC_s (m : Bool) (elt : DE) (cond : DEs) (env1 : Env) : lcC C G m elt cond (some env1) = (evc C G cond env1).nox.bind fun c => lcR C G m elt env1 c := id rfl
theorem lcR_f (m : Bool) (elt : DE) : lcR C G m elt env false = .ok none := id rfl
theorem lcR_t (elt : DE) : lcR C G false elt env true = (ev C G elt env).nox.bind fun d => .ok (some d) := id rfl
def immF (d : D) : R (Option D) := if !d.imm then .bad else .ok (some d)
theorem immF_t {d : D} (h : d.imm = true) : immF d = .ok (some d) := by
  unfold immF
  rw [h]
  rfl
theorem lcR_m (elt : DE) : lcR C G true elt env true = (ev C G elt env).nox.bind immF := id rfl
theorem z_nil : evs C G .nil env = .ok [] := id rfl
theorem z_cons (e : DE) (es : DEs) : evs C G (.cons e es) env = (ev C G e env).bind fun d => (evs C G es env).bind fun ds => .ok (d :: ds) := id rfl
theorem c_nil : evc C G .nil env = .ok true := id rfl
def cndF (C : Nat → List D → R D) (G : List D) (es : DEs) (env : Env) (t : Bool) : R Bool := if t then evc C G es env else .ok false
theorem cnd_t (es : DEs) : cndF C G es env true = evc C G es env := id rfl
theorem cnd_f (es : DEs) : cndF C G es env false = .ok false := id rfl
theorem cnd_nil (t : Bool) : cndF C G .nil env t = .ok t := by cases t <;> rfl
theorem c_cons (e : DE) (es : DEs) : evc C G (.cons e es) env = (ev C G e env).bind fun x => (D.truth x).bind fun t => cndF C G es env t := id rfl
/-! statements -/
theorem s_nil : evSs C G W .nil env = .nx env := id rfl
theorem s_cons (s : DS) (ss : DSs) : evSs C G W (.cons s ss) env = (evS C G W s env).next (evSs C G W ss) := id rfl
theorem s_set (i : Nat) (e : DE) : evS C G W (.set i e) env = (ev C G e env).then env fun d => .nx (env.set i (some d)) := id rfl
def setIF (i : Nat) (env : Env) (d : D) : O := if d.imm then .nx (env.set i (some d)) else .bad
def setMF (i : Nat) (env : Env) (d : D) : O := if d.immTop then .nx (env.set i (some d)) else .bad
theorem s_setI (i : Nat) (e : DE) : evS C G W (.setI i e) env = (ev C G e env).then env (setIF i env) := id rfl
theorem s_setM (i : Nat) (e : DE) : evS C G W (.setM i e) env = (ev C G e env).then env (setMF i env) := id rfl
theorem setI_t {i : Nat} {d : D} (h : d.imm = true) : setIF i env d = .nx (env.set i (some d)) := by
  unfold setIF
  rw [h]
  rfl
theorem setM_t {i : Nat} {d : D} (h : d.immTop = true) : setMF i env d = .nx (env.set i (some d)) := by
  unfold setMF
  rw [h]
  rfl
theorem setM_nil (i : Nat) : setMF i env (.lst []) = .nx (env.set i (some (.lst []))) := id rfl
theorem setM_dct (i : Nat) : setMF i env (.dct []) = .nx (env.set i (some (.dct []))) := id rfl
def optO : Option Env → O
  | some e => .nx e
  | none => .bad
theorem opt_s (e : Env) : optO (some e) = .nx e := id rfl
def tpF (is : List Nat) (env : Env) : D → O
  | .tup ds => optO (setEs is ds env)
  | _ => .bad
theorem tp_tup (is : List Nat) (ds : List D) : tpF is env (.tup ds) = optO (setEs is ds env) := id rfl
theorem s_tp (is : List Nat) (e : DE) : evS C G W (.tp is e) env = (ev C G e env).then env (tpF is env) := by
  unfold evS
  congr 1
theorem q_nil : setEs [] [] env = some env := id rfl
theorem q_cons (i : Nat) (is : List Nat) (d : D) (ds : List D) : setEs (i :: is) (d :: ds) env = setEs is ds (env.set i (some d)) := id rfl
theorem t_nm (i : Nat) (d : D) : tgE (.nm i) d env = some (env.set i (some d)) := id rfl
theorem t_tp (is : List Nat) (ds : List D) : tgE (.tp is) (.tup ds) env = setEs is ds env := id rfl
def appF (i : Nat) (env : Env) (xs : List D) (d : D) : O := if d.imm && decide (xs.length < SZ) then .nx (env.set i (some (.lst (xs ++ [d])))) else .bad
theorem app_t {i : Nat} {xs : List D} {d : D} (h : d.imm = true) (h2 : xs.length < SZ) : appF i env xs d = .nx (env.set i (some (.lst (xs ++ [d])))) := by
  unfold appF
  rw [h, if_pos]
  exact decide_eq_true h2
def appX (C : Nat → List D → R D) (G : List D) (i : Nat) (e : DE) (env : Env) : D → O
  | .lst xs => (ev C G e env).then env (appF i env xs)
  | _ => .bad
theorem appX_l (i : Nat) (e : DE) (xs : List D) : appX C G i e env (.lst xs) = (ev C G e env).then env (appF i env xs) := id rfl
theorem s_app (i : Nat) (e : DE) : evS C G W (.app i e) env = (getE env i).then env (appX C G i e env) := by
  unfold evS
  congr 1
def extF (i : Nat) (env : Env) (xs : List D) : D → O
  | .lst ys => if D.immL ys && decide (xs.length + ys.length ≤ SZ) then .nx (env.set i (some (.lst (xs ++ ys)))) else .bad
  | _ => .bad
def extX (C : Nat → List D → R D) (G : List D) (i : Nat) (e : DE) (env : Env) : D → O
  | .lst xs => (ev C G e env).then env (extF i env xs)
  | _ => .bad
theorem extX_l (i : Nat) (e : DE) (xs : List D) : extX C G i e env (.lst xs) = (ev C G e env).then env (extF i env xs) := id rfl
theorem ext_t {i : Nat} {xs ys : List D} (h : D.immL ys = true) (h2 : xs.length + ys.length ≤ SZ) : extF i env xs (.lst ys) = .nx (env.set i (some (.lst (xs ++ ys)))) := by
  unfold extF
  dsimp only
  rw [h, if_pos]
  exact decide_eq_true h2
theorem s_ext (i : Nat) (e : DE) : evS C G W (.ext i e) env = (getE env i).then env (extX C G i e env) := by
  unfold evS
  congr 1
def popX (j i : Nat) (env : Env) : D → O
  | .lst xs => (match xs.getLast? with
      | some d => .nx ((env.set i (some (.lst xs.dropLast))).set j (some d))
      | none => .bad)
  | _ => .bad
theorem popX_c (j i : Nat) (xs : List D) (d : D) : popX j i env (.lst (xs ++ [d])) = .nx ((env.set i (some (.lst xs))).set j (some d)) := by
  unfold popX
  simp only [List.getLast?_append, List.getLast?_singleton, Option.some_or, List.dropLast_concat]
theorem s_pop (i j : Nat) : evS C G W (.pop j i) env = (getE env i).then env (popX j i env) := by
  unfold evS
  congr 1
def putF (i : Nat) (env : Env) (d x y : D) : O := if d.imm then (match x with
    | .lst xs => (match y with
      | .int n => (match L2.ixN xs.length n with
        | some j => .nx (env.set i (some (.lst (xs.set j d))))
        | none => .bad)
      | _ => .bad)
    | .dct kvs => if (D.keyTy y == some false) && D.keysTy false kvs && decide (kvs.length < SZ) then .nx (env.set i (some (.dct (D.put kvs y d)))) else .bad
    | _ => .bad) else .bad
theorem s_put (i : Nat) (k e : DE) : evS C G W (.put i k e) env = (ev C G e env).then env fun d => (getE env i).then env fun x => (ev C G k env).then env fun y => putF i env d x y := by
  unfold evS
  congr 1
theorem put_l {i : Nat} {xs : List D} {d : D} {n : Int} {j : Nat} (h3 : d.imm = true) (h4 : L2.ixN xs.length n = some j) : putF i env d (.lst xs) (.int n) = .nx (env.set i (some (.lst (xs.set j d)))) := by
  unfold putF
  simp only [h3, if_true, h4]
theorem put_d {i : Nat} {kvs : List (D × D)} {d y : D} (h3 : d.imm = true) (h4 : D.keyTy y = some false) (h5 : D.keysTy false kvs = true) (h6 : kvs.length < SZ) : putF i env d (.dct kvs) y = .nx (env.set i (some (.dct (D.put kvs y d)))) := by
  unfold putF
  simp only [h3, if_true, h4, h5]
  rw [if_pos]
  exact decide_eq_true h6
theorem s_ex (e : DE) : evS C G W (.ex e) env = (ev C G e env).then env fun _ => .nx env := id rfl
def iteS (C : Nat → List D → R D) (G : List D) (W : Nat) (a b : DSs) (env : Env) (t : Bool) : O := if t then evSs C G W a env else evSs C G W b env
theorem iteS_t (a b : DSs) : iteS C G W a b env true = evSs C G W a env := id rfl
theorem iteS_f (a b : DSs) : iteS C G W a b env false = evSs C G W b env := id rfl
theorem s_ite (c : DE) (a b : DSs) : evS C G W (.ite c a b) env = ((ev C G c env).bind D.truth).then env (iteS C G W a b env) := id rfl
def forF (C : Nat → List D → R D) (G : List D) (W : Nat) (m : Bool) (t : Tg) (body : DSs) (env : Env) (xs : List D) : O := if m && !D.immL xs then .bad else forE t (evSs C G W body) xs env
theorem for_f (t : Tg) (body : DSs) (xs : List D) : forF C G W false t body env xs = forE t (evSs C G W body) xs env := id rfl
theorem for_t {t : Tg} {body : DSs} {xs : List D} (h : D.immL xs = true) : forF C G W true t body env xs = forE t (evSs C G W body) xs env := by
  unfold forF
  rw [h]
  rfl
theorem s_for (m : Bool) (t : Tg) (k : IK) (src : DEs) (body : DSs) : evS C G W (.for m t k src body) env = ((evs C G src env).bind (D.itD k)).then env (forF C G W m t body env) := id rfl
def whC (C : Nat → List D → R D) (G : List D) (c : DE) (env : Env) : R Bool := (ev C G c env).bind D.truth
theorem wh_at (c : DE) : whC C G c env = (ev C G c env).bind D.truth := id rfl
theorem s_while (c : DE) (body : DSs) : evS C G W (.while c body) env = whileE (whC C G c) (evSs C G W body) W env := id rfl
theorem s_ret (e : DE) : evS C G W (.ret e) env = (ev C G e env).then env fun d => .rt d := id rfl
theorem s_retN : evS C G W .retN env = .rt .non := id rfl
theorem s_raise (c : Nat) : evS C G W (.raise c) env = .exc c env := id rfl
theorem s_brk : evS C G W .brk env = .bk env := id rfl
theorem s_cont : evS C G W .cont env = .ct env := id rfl
theorem s_pass : evS C G W .pass env = .nx env := id rfl
end
/-! data -/
theorem o_add (a b : Int) : D.opD .add (.int a) (.int b) = .ok (.int (a + b)) := id rfl
theorem o_sub (a b : Int) : D.opD .sub (.int a) (.int b) = .ok (.int (a - b)) := id rfl
theorem o_addS {a b : Str} (h : a.length + b.length ≤ SZ) : D.opD .add (.str a) (.str b) = .ok (.str (a ++ b)) := if_pos h
theorem o_addT {a b : List D} (h : a.length + b.length ≤ SZ) : D.opD .add (.tup a) (.tup b) = .ok (.tup (a ++ b)) := if_pos h
theorem o_addL {a b : List D} (h : a.length + b.length ≤ SZ) : D.opD .add (.lst a) (.lst b) = .ok (.lst (a ++ b)) := if_pos h
theorem o_mul {a b : Int} (h : (D.small a || D.small b) = true) : D.opD .mul (.int a) (.int b) = .ok (.int (a * b)) := if_pos h
theorem sm_of {i : Int} (h : -18446744073709551616 < i) (h2 : i < 18446744073709551616) : D.small i = true := decide_eq_true ⟨h, h2⟩
theorem o_mod {a b : Int} (h : 0 < b) : D.opD .mod (.int a) (.int b) = .ok (.int (a % b)) := if_pos h
theorem o_div {a b : Int} (h : 0 < b ∧ b < 1073741824) : D.opD .fdiv (.int a) (.int b) = .ok (.int (a / b)) := if_pos h
theorem th_bl (b : Bool) : D.truth (.bl b) = .ok b := id rfl
theorem th_int (i : Int) : D.truth (.int i) = .ok (i != 0) := id rfl
theorem th_str (s : Str) : D.truth (.str s) = .ok ((s.length : Int) != 0) := id rfl
theorem th_non : D.truth .non = .ok false := id rfl
theorem th_tup (xs : List D) : D.truth (.tup xs) = .ok (!xs.isEmpty) := id rfl
theorem th_lst (xs : List D) : D.truth (.lst xs) = .ok (!xs.isEmpty) := id rfl
theorem i_lst (xs : List D) : D.itD .seq [.lst xs] = .ok xs := id rfl
theorem i_tup (xs : List D) : D.itD .seq [.tup xs] = .ok xs := id rfl
theorem i_rng {n : Int} (h0 : 0 ≤ n) (h : n ≤ 16777216) : D.itD .rng1 [.int n] = .ok (D.rangeD 0 n.toNat) := by
  show (if _ then _ else _) = _
  rw [if_pos]
  simp only [D.fits62, SZ, Bool.and_eq_true, decide_eq_true_eq]
  omega
theorem i_enL (xs : List D) : D.itD .enu [.lst xs] = .ok (D.enumFrom 0 xs) := id rfl
theorem i_enT (xs : List D) : D.itD .enu [.tup xs] = .ok (D.enumFrom 0 xs) := id rfl
theorem i_zL (xs ys : List D) : D.itD .zip [.lst xs, .lst ys] = .ok (D.zipD xs ys) := id rfl
theorem i_zT (xs ys : List D) : D.itD .zip [.tup xs, .tup ys] = .ok (D.zipD xs ys) := id rfl
theorem b_lenS (s : Str) : D.biD .len [.str s] = .ok (.int s.length) := id rfl
theorem b_lenA (s : List Int) : D.biD .len [.arg s] = .ok (.int s.length) := id rfl
theorem b_lenT (s : List D) : D.biD .len [.tup s] = .ok (.int s.length) := id rfl
theorem b_lenL (s : List D) : D.biD .len [.lst s] = .ok (.int s.length) := id rfl
theorem b_tupT (s : List D) : D.biD .tup [.tup s] = .ok (.tup s) := id rfl
theorem b_tupL (s : List D) : D.biD .tup [.lst s] = .ok (.tup s) := id rfl
theorem b_lstT (s : List D) : D.biD .lst [.tup s] = .ok (.lst s) := id rfl
theorem b_lstL (s : List D) : D.biD .lst [.lst s] = .ok (.lst s) := id rfl
theorem b_sorted (s : List D) : D.biD .sorted [.lst s] = D.sortL s := id rfl
theorem b_sset (s : List D) : D.biD .sset [.lst s] = D.ssetL s := id rfl
theorem b_dict (s : List D) : D.biD .dict [.lst s] = D.dictD s := id rfl
def isiO : Option Bool → R D
  | some b => .ok (.bl b)
  | none => .bad
theorem isi_s (b : Bool) : isiO (some b) = .ok (.bl b) := id rfl
theorem b_isi (ts : List Ty) (d : D) : D.biD (.isi ts) [d] = isiO (D.isTys ts d) := by
  show (match D.isTys ts d with
    | some b => R.ok (D.bl b)
    | none => .bad) = _
  cases D.isTys ts d <;> rfl
def allO : Option (List Bool) → R D
  | some b => .ok (.bl (b.all id))
  | none => .bad
theorem all_s (b : List Bool) : allO (some b) = .ok (.bl (b.all id)) := id rfl
theorem b_all (xs : List D) : D.biD .all [.lst xs] = allO (D.boolsD xs) := by
  show (match D.boolsD xs with
    | some b => R.ok (D.bl (b.all id))
    | none => .bad) = _
  cases D.boolsD xs <;> rfl
def anyO : Option (List Bool) → R D
  | some b => .ok (.bl (b.any id))
  | none => .bad
theorem any_s (b : List Bool) : anyO (some b) = .ok (.bl (b.any id)) := id rfl
theorem b_any (xs : List D) : D.biD .any [.lst xs] = anyO (D.boolsD xs) := by
  show (match D.boolsD xs with
    | some b => R.ok (D.bl (b.any id))
    | none => .bad) = _
  cases D.boolsD xs <;> rfl
def maxO : Option (List Int) → R D
  | some (m :: b) => .ok (.int (D.maxL m b))
  | _ => .bad
theorem max_s (m : Int) (b : List Int) : maxO (some (m :: b)) = .ok (.int (D.maxL m b)) := id rfl
theorem b_max (xs : List D) : D.biD .max [.lst xs] = maxO (D.intsD xs) := by
  show (match D.intsD xs with
    | some (m :: b) => R.ok (D.int (D.maxL m b))
    | _ => .bad) = _
  cases D.intsD xs with
  | none => rfl
  | some l => cases l <;> rfl
theorem ixT (xs : List D) (i : Int) : D.ixD (.tup xs) (.int i) = match L2.atI xs i with
  | some v => .ok v
  | none => .bad := id rfl
theorem ixA (xs : List Int) (i : Int) : D.ixD (.arg xs) (.int i) = match L2.atI xs i with
  | some v => .ok (.int v)
  | none => .bad := id rfl
theorem ixL (xs : List D) (i : Int) : D.ixD (.lst xs) (.int i) = match L2.atI xs i with
  | some v => .ok v
  | none => .bad := id rfl
theorem cm_int (a b : Int) : D.cmD .eq (.int a) (.int b) = .ok (a == b) := id rfl
theorem cm_str (a b : Str) : D.cmD .eq (.str a) (.str b) = .ok (a == b) := id rfl
theorem cm_bl (a b : Bool) : D.cmD .eq (.bl a) (.bl b) = .ok (a == b) := id rfl
theorem cm_nint (a b : Int) : D.cmD .ne (.int a) (.int b) = .ok (!(a == b)) := id rfl
theorem cm_nstr (a b : Str) : D.cmD .ne (.str a) (.str b) = .ok (!(a == b)) := id rfl
theorem cm_nbl (a b : Bool) : D.cmD .ne (.bl a) (.bl b) = .ok (!(a == b)) := id rfl
theorem cm_lt (a b : Int) : D.cmD .lt (.int a) (.int b) = .ok (decide (a < b)) := id rfl
theorem cm_le (a b : Int) : D.cmD .le (.int a) (.int b) = .ok (decide (a ≤ b)) := id rfl
theorem cm_gt (a b : Int) : D.cmD .gt (.int a) (.int b) = .ok (decide (b < a)) := id rfl
theorem cm_ge (a b : Int) : D.cmD .ge (.int a) (.int b) = .ok (decide (b ≤ a)) := id rfl
theorem cm_in (a b : D) : D.cmD .in a b = D.mem a b := id rfl
theorem cm_nin (a b : D) : D.cmD .nin a b = (D.mem a b).bind fun c => .ok (!c) := id rfl
theorem cm_isN : D.cmD .is .non .non = .ok true := id rfl
theorem cm_isI (i : Int) : D.cmD .is (.int i) .non = .ok false := id rfl
theorem cm_isS (i : Str) : D.cmD .is (.str i) .non = .ok false := id rfl
theorem cm_isB (i : Bool) : D.cmD .is (.bl i) .non = .ok false := id rfl
theorem cm_isT (i : List D) : D.cmD .is (.tup i) .non = .ok false := id rfl
theorem cm_isL (i : List D) : D.cmD .is (.lst i) .non = .ok false := id rfl
theorem cm_snN : D.cmD .isnot .non .non = .ok false := id rfl
theorem cm_snI (i : Int) : D.cmD .isnot (.int i) .non = .ok true := id rfl
theorem cm_snS (i : Str) : D.cmD .isnot (.str i) .non = .ok true := id rfl
theorem cm_snB (i : Bool) : D.cmD .isnot (.bl i) .non = .ok true := id rfl
theorem cm_snT (i : List D) : D.cmD .isnot (.tup i) .non = .ok true := id rfl
theorem cm_snL (i : List D) : D.cmD .isnot (.lst i) .non = .ok true := id rfl
theorem e_rt (d : D) : endR (.rt d) = .ok d := id rfl
theorem e_nx (e : Env) : endR (.nx e) = .ok .non := id rfl
theorem e_exc (c : Nat) (e : Env) : endR (.exc c e) = .exc c := id rfl
theorem w_nil (env : Env) : wipeE env [] = env := id rfl
theorem w_cons (env : Env) (v : Nat) (vs : List Nat) : wipeE env (v :: vs) = (wipeE env vs).set v none := id rfl
end B

set_option maxHeartbeats 0
/-! the defs of the laws' texts, as data -/
namespace B
open PySem
def F_box_in : Fn := ⟨2, 3, [], (.cons (.for false (.nm 2) .seq (.cons (.ix (.v 0) (.k (.int 0))) .nil) (.cons (.ite (.cmp .eq (.ix (.v 2) (.k (.int 0))) (.v 1)) (.cons (.ret (.v 2)) .nil) .nil) .nil)) (.cons (.ret (.k .non)) .nil))⟩
def F_kinds_in : Fn := ⟨3, 5, [], (.cons (.ret (.bi .tup (.cons (.lc false (.ix (.ix (.call 141 (.cons (.call 100 (.cons (.v 0) (.cons (.v 3) .nil))) .nil)) (.v 2)) (.v 4)) (.tp [3, 4]) .seq (.cons (.v 1) .nil) .nil [3, 4]) .nil))) .nil)⟩
def F_ports : Fn := ⟨1, 4, [], (.cons (.ite (.cmp .eq (.ix (.v 0) (.k (.int 1))) (.k (.str "group"))) (.cons (.tp [1, 2, 3] (.ix (.v 0) (.k (.int 2)))) (.cons (.ret (.tup (.cons (.call 124 (.cons (.v 3) (.cons (.v 1) (.cons (.k (.int 0)) .nil)))) (.cons (.call 124 (.cons (.v 3) (.cons (.v 2) (.cons (.k (.int 1)) .nil)))) .nil)))) .nil)) .nil) (.cons (.ret (.gix 6 (.ix (.v 0) (.k (.int 1))))) .nil))⟩
def F_law_cell : Fn := ⟨2, 2, [], (.cons (.ite (.cmp .lt (.v 1) (.bi .len (.cons (.v 0) .nil))) (.cons (.ret (.ix (.v 0) (.v 1))) .nil) .nil) (.cons (.ret (.k (.int 0))) .nil))⟩
def F_law_mix : Fn := ⟨3, 4, [], (.cons (.set 3 (.op .mod (.op .mul (.v 0) (.k (.int 48271))) (.v 1))) (.cons (.ret (.op .mod (.op .mod (.op .mul (.v 3) (.op .add (.v 3) (.k (.int 7)))) (.v 1)) (.v 2))) .nil))⟩
def F_law_same : Fn := ⟨2, 4, [], (.cons (.ite (.bi (.isi [.tuple]) (.cons (.v 1) .nil)) (.cons (.ite (.or (.not (.bi (.isi [.tuple]) (.cons (.v 0) .nil))) (.cmp .ne (.bi .len (.cons (.v 0) .nil)) (.bi .len (.cons (.v 1) .nil)))) (.cons (.ret (.k (.bl false))) .nil) .nil) (.cons (.ret (.bi .all (.cons (.lc false (.call 66 (.cons (.v 2) (.cons (.v 3) .nil))) (.tp [2, 3]) .zip (.cons (.v 0) (.cons (.v 1) .nil)) .nil [2, 3]) .nil))) .nil)) .nil) (.cons (.ite (.cmp .is (.v 1) (.k .non)) (.cons (.ret (.cmp .is (.v 0) (.k .non))) .nil) .nil) (.cons (.ite (.or (.bi (.isi [.bool]) (.cons (.v 1) .nil)) (.bi (.isi [.bool]) (.cons (.v 0) .nil))) (.cons (.ret (.and (.bi (.isi [.bool]) (.cons (.v 1) .nil)) (.and (.bi (.isi [.bool]) (.cons (.v 0) .nil)) (.cmp .eq (.v 0) (.v 1))))) .nil) .nil) (.cons (.ret (.and (.bi (.isi [.int, .str]) (.cons (.v 0) .nil)) (.cmp .eq (.v 0) (.v 1)))) .nil))))⟩
def F_law_kinds : Fn := ⟨1, 14, [], (.cons (.set 1 (.ix (.v 0) (.k (.int 1)))) (.cons (.ite (.cmp .eq (.v 1) (.k (.str "group"))) (.cons (.tp [2, 3, 4] (.ix (.v 0) (.k (.int 2)))) (.cons (.set 5 (.bi .dict (.cons (.lc false (.tup (.cons (.ix (.v 13) (.k (.int 0))) (.cons (.v 13) .nil))) (.nm 13) .seq (.cons (.ix (.v 4) (.k (.int 0))) .nil) .nil [13]) .nil))) (.cons (.set 6 (.lc false (.ix (.ix (.call 30 (.cons (.ix (.v 5) (.v 11)) .nil)) (.k (.int 0))) (.v 12)) (.tp [11, 12]) .seq (.cons (.v 2) .nil) .nil [11, 12])) (.cons (.ret (.tup (.cons (.bi .tup (.cons (.v 6) .nil)) (.cons (.bi .tup (.cons (.lc false (.ix (.ix (.call 30 (.cons (.ix (.v 5) (.v 11)) .nil)) (.k (.int 1))) (.v 12)) (.tp [11, 12]) .seq (.cons (.v 3) .nil) .nil [11, 12]) .nil)) .nil)))) .nil)))) .nil) (.cons (.tp [7, 8, 9] (.tup (.cons (.k (.str "number")) (.cons (.k (.str "text")) (.cons (.k (.str "truth")) .nil))))) (.cons (.set 6 (.dct ["add", "less", "pick", "text", "glue", "size", "late"] (.cons (.tup (.cons (.v 7) (.cons (.v 7) .nil))) (.cons (.tup (.cons (.v 7) (.cons (.v 7) .nil))) (.cons (.tup (.cons (.v 9) (.cons (.v 7) (.cons (.v 7) .nil)))) (.cons (.tup (.cons (.v 7) .nil)) (.cons (.tup (.cons (.v 8) (.cons (.v 8) .nil))) (.cons (.tup (.cons (.v 8) .nil)) (.cons (.tup (.cons (.v 7) .nil)) .nil))))))))) (.cons (.set 10 (.dct ["words", "less", "text", "glue"] (.cons (.tup (.cons (.v 8) .nil)) (.cons (.tup (.cons (.v 9) .nil)) (.cons (.tup (.cons (.v 8) .nil)) (.cons (.tup (.cons (.v 8) .nil)) .nil)))))) (.cons (.ret (.tup (.cons (.mt .get (.v 6) (.cons (.v 1) (.cons (.tup .nil) .nil))) (.cons (.mt .get (.v 10) (.cons (.v 1) (.cons (.tup (.cons (.v 7) .nil)) .nil))) .nil)))) .nil))))))⟩
def F_law_setting : Fn := ⟨2, 2, [], (.cons (.ite (.cmp .«in» (.v 1) (.tup (.cons (.k (.str "const")) (.cons (.k (.str "late")) .nil)))) (.cons (.ret (.ix (.tup (.cons (.k (.int 0)) (.cons (.k (.int 1)) (.cons (.k (.int 2)) (.cons (.k (.int 999)) (.cons (.k (.int 500)) .nil)))))) (.call 40 (.cons (.v 0) (.cons (.k (.int 9973)) (.cons (.k (.int 5)) .nil)))))) .nil) .nil) (.cons (.ite (.cmp .eq (.v 1) (.k (.str "words"))) (.cons (.ret (.ix (.tup (.cons (.k (.str "")) (.cons (.k (.str "a")) (.cons (.k (.str "abc")) (.cons (.k (.str "zzzzzzzz")) .nil))))) (.call 40 (.cons (.v 0) (.cons (.k (.int 9967)) (.cons (.k (.int 4)) .nil)))))) .nil) .nil) (.cons (.ret (.k .non)) .nil)))⟩
def F_law_sheet : Fn := ⟨2, 16, [3, 7], (.cons (.set 2 (.tup (.cons (.k (.str "const")) (.cons (.k (.str "words")) (.cons (.k (.str "add")) (.cons (.k (.str "less")) (.cons (.k (.str "pick")) (.cons (.k (.str "text")) (.cons (.k (.str "glue")) (.cons (.k (.str "size")) (.cons (.k (.str "late")) .nil))))))))))) (.cons (.set 2 (.op .add (.v 2) (.tup (.cons (.k (.str "late")) (.cons (.k (.str "add")) (.cons (.k (.str "const")) .nil)))))) (.cons (.setM 3 (.lst .nil)) (.cons (.set 4 (.k (.int 0))) (.cons (.for false (.nm 5) .rng1 (.cons (.call 40 (.cons (.v 0) (.cons (.k (.int 9949)) (.cons (.op .add (.v 1) (.k (.int 1))) .nil)))) .nil) (.cons (.set 4 (.op .add (.op .add (.v 4) (.k (.int 1))) (.call 40 (.cons (.op .add (.v 0) (.op .mul (.k (.int 3)) (.v 5))) (.cons (.k (.int 9941)) (.cons (.k (.int 2)) .nil)))))) (.cons (.set 6 (.ix (.v 2) (.call 40 (.cons (.op .add (.v 0) (.op .mul (.k (.int 7)) (.v 5))) (.cons (.k (.int 9931)) (.cons (.k (.int 12)) .nil)))))) (.cons (.app 3 (.tup (.cons (.v 4) (.cons (.v 6) (.cons (.call 69 (.cons (.op .add (.v 0) (.op .mul (.k (.int 11)) (.v 5))) (.cons (.v 6) .nil))) .nil))))) .nil)))) (.cons (.setM 7 (.lst .nil)) (.cons (.for true (.nm 8) .seq (.cons (.v 3) .nil) (.cons (.for false (.tp [9, 10]) .enu (.cons (.ix (.call 30 (.cons (.v 8) .nil)) (.k (.int 0))) .nil) (.cons (.set 11 (.op .add (.op .add (.v 0) (.op .mul (.k (.int 13)) (.ix (.v 8) (.k (.int 0))))) (.op .mul (.k (.int 5)) (.v 9)))) (.cons (.set 12 (.lc true (.ix (.v 15) (.k (.int 0))) (.nm 15) .seq (.cons (.v 3) .nil) (.cons (.cmp .eq (.ix (.call 30 (.cons (.v 15) .nil)) (.k (.int 1))) (.tup (.cons (.v 10) .nil))) .nil) [15])) (.cons (.set 13 (.cmp .eq (.op .mod (.v 0) (.k (.int 3))) (.k (.int 0)))) (.cons (.set 14 (.lc false (.v 15) (.nm 15) .seq (.cons (.v 12) .nil) (.cons (.or (.and (.cmp .ne (.cmp .lt (.v 15) (.ix (.v 8) (.k (.int 0)))) (.v 13)) (.cmp .ne (.v 15) (.ix (.v 8) (.k (.int 0))))) (.cmp .eq (.ix (.v 8) (.k (.int 1))) (.k (.str "late")))) .nil) [15])) (.cons (.ite (.and (.v 14) (.cmp .gt (.call 40 (.cons (.v 11) (.cons (.k (.int 9929)) (.cons (.k (.int 4)) .nil)))) (.k (.int 0)))) (.cons (.app 7 (.tup (.cons (.ix (.v 14) (.call 40 (.cons (.v 11) (.cons (.k (.int 9923)) (.cons (.bi .len (.cons (.v 14) .nil)) .nil))))) (.cons (.k (.int 0)) (.cons (.ix (.v 8) (.k (.int 0))) (.cons (.v 9) .nil)))))) .nil) .nil) .nil)))))) .nil)) (.cons (.ret (.tup (.cons (.bi .tup (.cons (.v 3) .nil)) (.cons (.bi .tup (.cons (.bi .sorted (.cons (.v 7) .nil)) .nil)) .nil)))) .nil))))))))⟩
def F_law_ids : Fn := ⟨2, 3, [], (.cons (.ret (.bi .tup (.cons (.lc false (.ix (.v 2) (.k (.int 0))) (.nm 2) .seq (.cons (.ix (.v 1) (.k (.int 0))) .nil) (.cons (.cmp .eq (.call 40 (.cons (.op .add (.v 0) (.op .mul (.k (.int 7)) (.ix (.v 2) (.k (.int 0))))) (.cons (.k (.int 9907)) (.cons (.k (.int 2)) .nil)))) (.k (.int 0))) .nil) [2]) .nil))) .nil)⟩
def F_law_grouped : Fn := ⟨2, 11, [7], (.cons (.set 2 (.op .add (.bi .max (.cons (.lc false (.ix (.v 10) (.k (.int 0))) (.nm 10) .seq (.cons (.ix (.v 0) (.k (.int 0))) .nil) .nil [10]) .nil)) (.k (.int 1)))) (.cons (.set 3 (.bi .sorted (.cons (.lc false (.slA (.v 8) (.k (.int 2))) (.nm 8) .seq (.cons (.ix (.v 0) (.k (.int 1))) .nil) (.cons (.and (.cmp .«in» (.ix (.v 8) (.k (.int 2))) (.v 1)) (.cmp .nin (.ix (.v 8) (.k (.int 0))) (.v 1))) .nil) [8]) .nil))) (.cons (.set 4 (.bi .sset (.cons (.lc false (.slB (.v 8) (.k (.int 2))) (.nm 8) .seq (.cons (.ix (.v 0) (.k (.int 1))) .nil) (.cons (.and (.cmp .«in» (.ix (.v 8) (.k (.int 0))) (.v 1)) (.cmp .nin (.ix (.v 8) (.k (.int 2))) (.v 1))) .nil) [8]) .nil))) (.cons (.set 5 (.lc false (.v 8) (.nm 8) .seq (.cons (.ix (.v 0) (.k (.int 1))) .nil) (.cons (.and (.cmp .«in» (.ix (.v 8) (.k (.int 0))) (.v 1)) (.cmp .«in» (.ix (.v 8) (.k (.int 2))) (.v 1))) .nil) [8])) (.cons (.set 6 (.tup (.cons (.bi .tup (.cons (.lc false (.v 10) (.nm 10) .seq (.cons (.ix (.v 0) (.k (.int 0))) .nil) (.cons (.cmp .«in» (.ix (.v 10) (.k (.int 0))) (.v 1)) .nil) [10]) .nil)) (.cons (.bi .tup (.cons (.v 5) .nil)) .nil)))) (.cons (.setM 7 (.lst .nil)) (.cons (.for false (.nm 8) .seq (.cons (.ix (.v 0) (.k (.int 1))) .nil) (.cons (.ite (.and (.cmp .«in» (.ix (.v 8) (.k (.int 2))) (.v 1)) (.cmp .nin (.ix (.v 8) (.k (.int 0))) (.v 1))) (.cons (.app 7 (.op .add (.slB (.v 8) (.k (.int 2))) (.tup (.cons (.v 2) (.cons (.mt .index (.v 3) (.cons (.slA (.v 8) (.k (.int 2))) .nil)) .nil))))) .nil) (.cons (.ite (.and (.cmp .«in» (.ix (.v 8) (.k (.int 0))) (.v 1)) (.cmp .nin (.ix (.v 8) (.k (.int 2))) (.v 1))) (.cons (.app 7 (.op .add (.tup (.cons (.v 2) (.cons (.mt .index (.v 4) (.cons (.slB (.v 8) (.k (.int 2))) .nil)) .nil))) (.slA (.v 8) (.k (.int 2))))) .nil) (.cons (.ite (.cmp .nin (.ix (.v 8) (.k (.int 0))) (.v 1)) (.cons (.app 7 (.v 8)) .nil) .nil) .nil)) .nil)) .nil)) (.cons (.set 9 (.lc false (.v 10) (.nm 10) .seq (.cons (.ix (.v 0) (.k (.int 0))) .nil) (.cons (.cmp .nin (.ix (.v 10) (.k (.int 0))) (.v 1)) .nil) [10])) (.cons (.ret (.tup (.cons (.op .add (.bi .tup (.cons (.v 9) .nil)) (.tup (.cons (.tup (.cons (.v 2) (.cons (.k (.str "group")) (.cons (.tup (.cons (.bi .tup (.cons (.v 3) .nil)) (.cons (.bi .tup (.cons (.v 4) .nil)) (.cons (.v 6) .nil)))) .nil)))) .nil))) (.cons (.bi .tup (.cons (.bi .sorted (.cons (.v 7) .nil)) .nil)) .nil)))) .nil)))))))))⟩
def F_law_mixed : Fn := ⟨2, 5, [], (.cons (.set 2 (.call 71 (.cons (.v 0) (.cons (.v 1) .nil)))) (.cons (.for false (.nm 3) .rng1 (.cons (.call 40 (.cons (.v 0) (.cons (.k (.int 9901)) (.cons (.k (.int 3)) .nil)))) .nil) (.cons (.set 4 (.call 23 (.cons (.op .add (.v 0) (.op .mul (.k (.int 17)) (.v 3))) (.cons (.v 2) .nil)))) (.cons (.ite (.v 4) (.cons (.set 2 (.call 22 (.cons (.v 2) (.cons (.v 4) .nil)))) .nil) .nil) .nil))) (.cons (.ret (.v 2)) .nil)))⟩
def F_is_whole : Fn := ⟨3, 3, [], (.cons (.ret (.and (.bi (.isi [.int]) (.cons (.v 0) .nil)) (.and (.not (.bi (.isi [.bool]) (.cons (.v 0) .nil))) (.chn .le .le (.v 1) (.v 0) (.v 2))))) .nil)⟩
def F_is_setting : Fn := ⟨2, 3, [], (.cons (.ite (.cmp .«in» (.v 0) (.tup (.cons (.k (.str "const")) (.cons (.k (.str "late")) .nil)))) (.cons (.ret (.call 122 (.cons (.v 1) (.cons (.k (.int 0)) (.cons (.k (.int 999)) .nil))))) .nil) .nil) (.cons (.ite (.cmp .eq (.v 0) (.k (.str "words"))) (.cons (.ret (.and (.bi (.isi [.str]) (.cons (.v 1) .nil)) (.and (.cmp .le (.bi .len (.cons (.v 1) .nil)) (.k (.int 8))) (.bi .all (.cons (.lc false (.cmp .«in» (.v 2) (.g 2)) (.nm 2) .str (.cons (.v 1) .nil) .nil [2]) .nil))))) .nil) .nil) (.cons (.ret (.cmp .is (.v 1) (.k .non))) .nil)))⟩
def F_new_id : Fn := ⟨1, 2, [], (.cons (.ret (.op .add (.bi .max0 (.cons (.lc false (.ix (.v 1) (.k (.int 0))) (.nm 1) .seq (.cons (.ix (.v 0) (.k (.int 0))) .nil) .nil [1]) .nil)) (.k (.int 1)))) .nil)⟩
def F_with_groups_port : Fn := ⟨3, 3, [], (.cons (.ite (.cmp .eq (.ix (.v 0) (.k (.int 0))) (.v 1)) (.cons (.ret (.ix (.v 2) (.ix (.v 0) (.k (.int 1))))) .nil) .nil) (.cons (.ret (.v 0)) .nil))⟩
def F_open_group : Fn := ⟨2, 18, [10], (.cons (.tp [2, 3, 4] (.ix (.call 100 (.cons (.v 0) (.cons (.v 1) .nil))) (.k (.int 2)))) (.cons (.set 5 (.call 130 (.cons (.v 0) .nil))) (.cons (.set 6 (.bi .dict (.cons (.lc false (.tup (.cons (.ix (.v 17) (.k (.int 0))) (.cons (.op .add (.v 5) (.v 16)) .nil))) (.tp [16, 17]) .enu (.cons (.ix (.v 4) (.k (.int 0))) .nil) .nil [16, 17]) .nil))) (.cons (.set 7 (.lc false (.tup (.cons (.ix (.v 6) (.v 12)) (.cons (.v 13) .nil))) (.tp [12, 13]) .seq (.cons (.v 2) .nil) .nil [12, 13])) (.cons (.set 8 (.lc false (.tup (.cons (.ix (.v 6) (.v 12)) (.cons (.v 13) .nil))) (.tp [12, 13]) .seq (.cons (.v 3) .nil) .nil [12, 13])) (.cons (.set 9 (.op .add (.lc false (.v 17) (.nm 17) .seq (.cons (.ix (.v 0) (.k (.int 0))) .nil) (.cons (.cmp .ne (.ix (.v 17) (.k (.int 0))) (.v 1)) .nil) [17]) (.lc false (.op .add (.tup (.cons (.ix (.v 6) (.ix (.v 17) (.k (.int 0)))) .nil)) (.slA (.v 17) (.k (.int 1)))) (.nm 17) .seq (.cons (.ix (.v 4) (.k (.int 0))) .nil) .nil [17]))) (.cons (.setM 10 (.lc false (.tup (.cons (.ix (.v 6) (.v 12)) (.cons (.v 14) (.cons (.ix (.v 6) (.v 15)) (.cons (.v 13) .nil))))) (.tp [12, 14, 15, 13]) .seq (.cons (.ix (.v 4) (.k (.int 1))) .nil) .nil [12, 14, 15, 13])) (.cons (.for false (.nm 11) .seq (.cons (.ix (.v 0) (.k (.int 1))) .nil) (.cons (.app 10 (.op .add (.call 157 (.cons (.slB (.v 11) (.k (.int 2))) (.cons (.v 1) (.cons (.v 8) .nil)))) (.call 157 (.cons (.slA (.v 11) (.k (.int 2))) (.cons (.v 1) (.cons (.v 7) .nil)))))) .nil)) (.cons (.ret (.tup (.cons (.bi .tup (.cons (.v 9) .nil)) (.cons (.bi .tup (.cons (.bi .sorted (.cons (.v 10) .nil)) .nil)) .nil)))) .nil)))))))))⟩
def F_all_opened : Fn := ⟨1, 3, [], (.cons (.set 1 (.lc false (.ix (.v 2) (.k (.int 0))) (.nm 2) .seq (.cons (.ix (.v 0) (.k (.int 0))) .nil) (.cons (.cmp .eq (.ix (.v 2) (.k (.int 1))) (.k (.str "group"))) .nil) [2])) (.cons (.while (.v 1) (.cons (.set 0 (.call 134 (.cons (.v 0) (.cons (.ix (.v 1) (.k (.int 0))) .nil)))) (.cons (.set 1 (.lc false (.ix (.v 2) (.k (.int 0))) (.nm 2) .seq (.cons (.ix (.v 0) (.k (.int 0))) .nil) (.cons (.cmp .eq (.ix (.v 2) (.k (.int 1))) (.k (.str "group"))) .nil) [2])) .nil))) (.cons (.ret (.v 0)) .nil)))⟩
-- F_at_once: changed in its place: found[other]
def F_order_of : Fn := ⟨1, 6, [2], (.cons (.set 1 (.call 98 (.cons (.v 0) .nil))) (.cons (.setM 2 (.lst .nil)) (.cons (.set 3 (.lc false (.v 4) (.nm 4) .keys (.cons (.v 1) .nil) (.cons (.not (.ix (.v 1) (.v 4))) .nil) [4])) (.cons (.while (.v 3) (.cons (.app 2 (.bi .min (.cons (.v 3) .nil))) (.cons (.set 3 (.lc false (.v 4) (.nm 4) .keys (.cons (.v 1) .nil) (.cons (.and (.cmp .nin (.v 4) (.v 2)) (.bi .all (.cons (.lc false (.cmp .«in» (.v 5) (.v 2)) (.nm 5) .seq (.cons (.ix (.v 1) (.v 4)) .nil) .nil [5]) .nil))) .nil) [4])) .nil))) (.cons (.ret (.v 2)) .nil)))))⟩
def F_has_ring : Fn := ⟨1, 2, [], (.cons (.set 1 (.call 96 (.cons (.v 0) .nil))) (.cons (.ret (.cmp .lt (.bi .len (.cons (.call 138 (.cons (.v 1) .nil)) .nil)) (.bi .len (.cons (.ix (.v 1) (.k (.int 0))) .nil)))) .nil))⟩
def F_is_pair : Fn := ⟨1, 1, [], (.cons (.ret (.and (.bi (.isi [.tuple]) (.cons (.v 0) .nil)) (.and (.cmp .eq (.bi .len (.cons (.v 0) .nil)) (.k (.int 2))) (.and (.call 122 (.cons (.ix (.v 0) (.k (.int 0))) (.cons (.k (.int 1)) (.cons (.k (.int 999)) .nil)))) (.call 122 (.cons (.ix (.v 0) (.k (.int 1))) (.cons (.k (.int 0)) (.cons (.k (.int 999)) .nil)))))))) .nil)⟩
def F_has_port : Fn := ⟨3, 4, [], (.cons (.set 3 (.call 100 (.cons (.v 0) (.cons (.ix (.v 1) (.k (.int 0))) .nil)))) (.cons (.ret (.and (.cmp .isnot (.v 3) (.k .non)) (.cmp .lt (.ix (.v 1) (.k (.int 1))) (.bi .len (.cons (.ix (.call 141 (.cons (.v 3) .nil)) (.v 2)) .nil))))) .nil))⟩
def F_are_ports : Fn := ⟨3, 4, [], (.cons (.ite (.or (.not (.bi (.isi [.tuple]) (.cons (.v 0) .nil))) (.not (.bi .all (.cons (.lc false (.call 118 (.cons (.v 3) .nil)) (.nm 3) .seq (.cons (.v 0) .nil) .nil [3]) .nil)))) (.cons (.ret (.k (.bl false))) .nil) .nil) (.cons (.ret (.and (.cmp .eq (.bi .lset (.cons (.v 0) .nil)) (.bi .len (.cons (.v 0) .nil))) (.bi .all (.cons (.lc false (.call 113 (.cons (.v 1) (.cons (.v 3) (.cons (.v 2) .nil)))) (.nm 3) .seq (.cons (.v 0) .nil) .nil [3]) .nil)))) .nil))⟩
def F_is_group : Fn := ⟨2, 6, [], (.cons (.ite (.or (.not (.bi (.isi [.tuple]) (.cons (.v 0) .nil))) (.or (.cmp .ne (.bi .len (.cons (.v 0) .nil)) (.k (.int 3))) (.not (.call 121 (.cons (.ix (.v 0) (.k (.int 2))) (.cons (.op .sub (.v 1) (.k (.int 1))) .nil)))))) (.cons (.ret (.k (.bl false))) .nil) .nil) (.cons (.tp [2, 3, 4] (.v 0)) (.cons (.ite (.or (.not (.call 97 (.cons (.v 2) (.cons (.v 4) (.cons (.k (.int 0)) .nil))))) (.not (.call 97 (.cons (.v 3) (.cons (.v 4) (.cons (.k (.int 1)) .nil)))))) (.cons (.ret (.k (.bl false))) .nil) .nil) (.cons (.ret (.not (.bi .any (.cons (.lc false (.cmp .«in» (.slA (.v 5) (.k (.int 2))) (.v 2)) (.nm 5) .seq (.cons (.ix (.v 4) (.k (.int 1))) .nil) .nil [5]) .nil)))) .nil))))⟩
def F_is_box : Fn := ⟨2, 2, [], (.cons (.ite (.or (.not (.bi (.isi [.tuple]) (.cons (.v 0) .nil))) (.or (.cmp .ne (.bi .len (.cons (.v 0) .nil)) (.k (.int 3))) (.not (.call 122 (.cons (.ix (.v 0) (.k (.int 0))) (.cons (.k (.int 1)) (.cons (.k (.int 999)) .nil))))))) (.cons (.ret (.k (.bl false))) .nil) .nil) (.cons (.ite (.not (.bi (.isi [.str]) (.cons (.ix (.v 0) (.k (.int 1))) .nil))) (.cons (.ret (.k (.bl false))) .nil) .nil) (.cons (.ite (.cmp .eq (.ix (.v 0) (.k (.int 1))) (.k (.str "group"))) (.cons (.ret (.and (.cmp .gt (.v 1) (.k (.int 0))) (.call 116 (.cons (.ix (.v 0) (.k (.int 2))) (.cons (.v 1) .nil))))) .nil) .nil) (.cons (.ret (.and (.gin 6 (.ix (.v 0) (.k (.int 1)))) (.call 119 (.cons (.ix (.v 0) (.k (.int 1))) (.cons (.ix (.v 0) (.k (.int 2))) .nil))))) .nil))))⟩
def F_is_wire : Fn := ⟨2, 3, [], (.cons (.ite (.or (.not (.bi (.isi [.tuple]) (.cons (.v 0) .nil))) (.or (.cmp .ne (.bi .len (.cons (.v 0) .nil)) (.k (.int 4))) (.or (.not (.call 118 (.cons (.slB (.v 0) (.k (.int 2))) .nil))) (.not (.call 118 (.cons (.slA (.v 0) (.k (.int 2))) .nil)))))) (.cons (.ret (.k (.bl false))) .nil) .nil) (.cons (.ite (.or (.not (.call 113 (.cons (.v 1) (.cons (.slB (.v 0) (.k (.int 2))) (.cons (.k (.int 1)) .nil))))) (.not (.call 113 (.cons (.v 1) (.cons (.slA (.v 0) (.k (.int 2))) (.cons (.k (.int 0)) .nil)))))) (.cons (.ret (.k (.bl false))) .nil) .nil) (.cons (.set 2 (.ix (.ix (.call 141 (.cons (.call 100 (.cons (.v 1) (.cons (.ix (.v 0) (.k (.int 0))) .nil))) .nil)) (.k (.int 1))) (.ix (.v 0) (.k (.int 1))))) (.cons (.ret (.cmp .eq (.v 2) (.ix (.ix (.call 141 (.cons (.call 100 (.cons (.v 1) (.cons (.ix (.v 0) (.k (.int 2))) .nil))) .nil)) (.k (.int 0))) (.ix (.v 0) (.k (.int 3)))))) .nil))))⟩
def F_is_sheet_in : Fn := ⟨2, 7, [], (.cons (.ite (.or (.not (.bi (.isi [.tuple]) (.cons (.v 0) .nil))) (.or (.cmp .ne (.bi .len (.cons (.v 0) .nil)) (.k (.int 2))) (.not (.bi (.isi [.tuple]) (.cons (.ix (.v 0) (.k (.int 0))) .nil))))) (.cons (.ret (.k (.bl false))) .nil) .nil) (.cons (.tp [2, 3] (.v 0)) (.cons (.ite (.or (.not (.bi .all (.cons (.lc false (.call 115 (.cons (.v 5) (.cons (.v 1) .nil))) (.nm 5) .seq (.cons (.v 2) .nil) .nil [5]) .nil))) (.not (.bi (.isi [.tuple]) (.cons (.v 3) .nil)))) (.cons (.ret (.k (.bl false))) .nil) .nil) (.cons (.ite (.not (.bi .all (.cons (.lc false (.cmp .lt (.ix (.ix (.v 2) (.op .sub (.v 4) (.k (.int 1)))) (.k (.int 0))) (.ix (.ix (.v 2) (.v 4)) (.k (.int 0)))) (.nm 4) .rng2 (.cons (.k (.int 1)) (.cons (.bi .len (.cons (.v 2) .nil)) .nil)) .nil [4]) .nil))) (.cons (.ret (.k (.bl false))) .nil) .nil) (.cons (.ite (.or (.not (.bi .all (.cons (.lc false (.call 123 (.cons (.v 6) (.cons (.v 0) .nil))) (.nm 6) .seq (.cons (.v 3) .nil) .nil [6]) .nil))) (.cmp .ne (.bi .lst (.cons (.v 3) .nil)) (.bi .sset (.cons (.v 3) .nil)))) (.cons (.ret (.k (.bl false))) .nil) .nil) (.cons (.ret (.cmp .eq (.bi .lset (.cons (.lc false (.slA (.v 6) (.k (.int 2))) (.nm 6) .seq (.cons (.v 3) .nil) .nil [6]) .nil)) (.bi .len (.cons (.v 3) .nil)))) .nil))))))⟩
def F_size_of : Fn := ⟨1, 2, [], (.cons (.ret (.op .add (.bi .len (.cons (.ix (.v 0) (.k (.int 0))) .nil)) (.bi .sum (.cons (.lc false (.call 149 (.cons (.ix (.ix (.v 1) (.k (.int 2))) (.k (.int 2))) .nil)) (.nm 1) .seq (.cons (.ix (.v 0) (.k (.int 0))) .nil) (.cons (.cmp .eq (.ix (.v 1) (.k (.int 1))) (.k (.str "group"))) .nil) [1]) .nil)))) .nil)⟩
def F_is_sheet : Fn := ⟨1, 1, [], (.cons (.ret (.and (.call 121 (.cons (.v 0) (.cons (.g 0) .nil))) (.and (.cmp .le (.call 149 (.cons (.v 0) .nil)) (.g 3)) (.not (.call 114 (.cons (.v 0) .nil)))))) .nil)⟩
def F_law_mix_2 : Fn := ⟨3, 4, [], (.cons (.set 3 (.op .mod (.op .mul (.v 0) (.k (.int 48271))) (.v 1))) (.cons (.ret (.op .mod (.op .mod (.op .mul (.v 3) (.op .add (.v 3) (.k (.int 7)))) (.v 1)) (.v 2))) .nil))⟩
def F_law_bad_boxes : Fn := ⟨0, 2, [], (.cons (.set 0 (.lst (.cons (.k .non) (.cons (.tup .nil) (.cons (.tup (.cons (.k (.int 900)) .nil)) (.cons (.tup (.cons (.k (.int 900)) (.cons (.k (.str "add")) .nil))) .nil)))))) (.cons (.set 0 (.op .add (.v 0) (.lst (.cons (.tup (.cons (.k (.int 900)) (.cons (.k (.str "add")) (.cons (.k .non) (.cons (.k (.int 0)) .nil))))) (.cons (.lst (.cons (.k (.int 900)) (.cons (.k (.str "add")) (.cons (.k .non) .nil)))) .nil))))) (.cons (.set 0 (.op .add (.v 0) (.lst (.cons (.tup (.cons (.k (.int 0)) (.cons (.k (.str "add")) (.cons (.k .non) .nil)))) (.cons (.tup (.cons (.k (.int 1000)) (.cons (.k (.str "add")) (.cons (.k .non) .nil)))) .nil))))) (.cons (.set 0 (.op .add (.v 0) (.lst (.cons (.tup (.cons (.k (.bl true)) (.cons (.k (.str "add")) (.cons (.k .non) .nil)))) (.cons (.tup (.cons (.k (.str "900")) (.cons (.k (.str "add")) (.cons (.k .non) .nil)))) (.cons (.tup (.cons (.k (.int 900)) (.cons (.k (.str "no")) (.cons (.k .non) .nil)))) .nil)))))) (.cons (.set 0 (.op .add (.v 0) (.lst (.cons (.tup (.cons (.k (.int 900)) (.cons (.k (.int 5)) (.cons (.k .non) .nil)))) (.cons (.tup (.cons (.k (.int 900)) (.cons (.k (.str "add")) (.cons (.k (.int 0)) .nil)))) (.cons (.tup (.cons (.k (.int 900)) (.cons (.k (.str "const")) (.cons (.k .non) .nil)))) .nil)))))) (.cons (.set 0 (.op .add (.v 0) (.lst (.cons (.tup (.cons (.k (.int 900)) (.cons (.k (.str "const")) (.cons (.neg (.k (.int 1))) .nil)))) (.cons (.tup (.cons (.k (.int 900)) (.cons (.k (.str "const")) (.cons (.k (.int 1000)) .nil)))) (.cons (.tup (.cons (.k (.int 900)) (.cons (.k (.str "const")) (.cons (.k (.bl true)) .nil)))) .nil)))))) (.cons (.set 0 (.op .add (.v 0) (.lst (.cons (.tup (.cons (.k (.int 900)) (.cons (.k (.str "late")) (.cons (.k (.str "1")) .nil)))) (.cons (.tup (.cons (.k (.int 900)) (.cons (.k (.str "words")) (.cons (.k .non) .nil)))) .nil))))) (.cons (.set 0 (.op .add (.v 0) (.lst (.cons (.tup (.cons (.k (.int 900)) (.cons (.k (.str "words")) (.cons (.k (.str "A")) .nil)))) (.cons (.tup (.cons (.k (.int 900)) (.cons (.k (.str "words")) (.cons (.k (.str "abcdefghi")) .nil)))) .nil))))) (.cons (.set 0 (.op .add (.v 0) (.lst (.cons (.tup (.cons (.k (.int 900)) (.cons (.k (.str "words")) (.cons (.k (.str "a b")) .nil)))) (.cons (.tup (.cons (.k (.int 900)) (.cons (.k (.str "pick")) (.cons (.tup .nil) .nil)))) .nil))))) (.cons (.set 1 (.tup (.cons (.tup (.cons (.tup (.cons (.k (.int 1)) (.cons (.k (.str "add")) (.cons (.k .non) .nil)))) (.cons (.tup (.cons (.k (.int 2)) (.cons (.k (.str "const")) (.cons (.k (.int 5)) .nil)))) .nil))) (.cons (.tup (.cons (.tup (.cons (.k (.int 2)) (.cons (.k (.int 0)) (.cons (.k (.int 1)) (.cons (.k (.int 0)) .nil))))) .nil)) .nil)))) (.cons (.set 0 (.op .add (.v 0) (.lst (.cons (.tup (.cons (.k (.int 900)) (.cons (.k (.str "group")) (.cons (.k .non) .nil)))) (.cons (.tup (.cons (.k (.int 900)) (.cons (.k (.str "group")) (.cons (.tup (.cons (.tup .nil) (.cons (.tup .nil) .nil))) .nil)))) .nil))))) (.cons (.set 0 (.op .add (.v 0) (.lst (.cons (.tup (.cons (.k (.int 900)) (.cons (.k (.str "group")) (.cons (.tup (.cons (.tup .nil) (.cons (.tup .nil) (.cons (.k .non) .nil)))) .nil)))) (.cons (.tup (.cons (.k (.int 900)) (.cons (.k (.str "group")) (.cons (.tup (.cons (.tup (.cons (.tup (.cons (.k (.int 1)) (.cons (.k (.int 2)) .nil))) .nil)) (.cons (.tup .nil) (.cons (.v 1) .nil)))) .nil)))) .nil))))) (.cons (.set 0 (.op .add (.v 0) (.lst (.cons (.tup (.cons (.k (.int 900)) (.cons (.k (.str "group")) (.cons (.tup (.cons (.tup (.cons (.tup (.cons (.k (.int 1)) (.cons (.k (.int 0)) .nil))) .nil)) (.cons (.tup .nil) (.cons (.v 1) .nil)))) .nil)))) .nil)))) (.cons (.set 0 (.op .add (.v 0) (.lst (.cons (.tup (.cons (.k (.int 900)) (.cons (.k (.str "group")) (.cons (.tup (.cons (.tup (.cons (.tup (.cons (.k (.int 1)) (.cons (.k (.int 1)) .nil))) (.cons (.tup (.cons (.k (.int 1)) (.cons (.k (.int 1)) .nil))) .nil))) (.cons (.tup .nil) (.cons (.v 1) .nil)))) .nil)))) .nil)))) (.cons (.set 0 (.op .add (.v 0) (.lst (.cons (.tup (.cons (.k (.int 900)) (.cons (.k (.str "group")) (.cons (.tup (.cons (.tup .nil) (.cons (.tup (.cons (.tup (.cons (.k (.int 3)) (.cons (.k (.int 0)) .nil))) .nil)) (.cons (.v 1) .nil)))) .nil)))) .nil)))) (.cons (.set 0 (.op .add (.v 0) (.lst (.cons (.tup (.cons (.k (.int 900)) (.cons (.k (.str "group")) (.cons (.tup (.cons (.tup .nil) (.cons (.lst (.cons (.tup (.cons (.k (.int 1)) (.cons (.k (.int 0)) .nil))) .nil)) (.cons (.v 1) .nil)))) .nil)))) .nil)))) (.cons (.set 0 (.op .add (.v 0) (.lst (.cons (.tup (.cons (.k (.int 900)) (.cons (.k (.str "group")) (.cons (.tup (.cons (.tup .nil) (.cons (.tup (.cons (.tup (.cons (.k (.int 2)) (.cons (.k (.int 1)) .nil))) .nil)) (.cons (.v 1) .nil)))) .nil)))) .nil)))) (.cons (.ret (.v 0)) .nil))))))))))))))))))⟩
def F_law_bad_wires : Fn := ⟨0, 1, [], (.cons (.set 0 (.lst (.cons (.k .non) (.cons (.tup .nil) (.cons (.tup (.cons (.k (.int 800)) (.cons (.k (.int 0)) (.cons (.k (.int 801)) .nil)))) (.cons (.lst (.cons (.k (.int 800)) (.cons (.k (.int 0)) (.cons (.k (.int 801)) (.cons (.k (.int 0)) .nil))))) .nil)))))) (.cons (.set 0 (.op .add (.v 0) (.lst (.cons (.tup (.cons (.k (.int 800)) (.cons (.k (.int 0)) (.cons (.k (.int 801)) (.cons (.k (.int 0)) (.cons (.k (.int 0)) .nil)))))) (.cons (.tup (.cons (.k (.int 800)) (.cons (.k (.int 1)) (.cons (.k (.int 801)) (.cons (.k (.int 0)) .nil))))) (.cons (.tup (.cons (.k (.int 800)) (.cons (.k (.int 0)) (.cons (.k (.int 801)) (.cons (.k (.int 2)) .nil))))) (.cons (.tup (.cons (.k (.int 800)) (.cons (.neg (.k (.int 1))) (.cons (.k (.int 801)) (.cons (.k (.int 0)) .nil))))) .nil))))))) (.cons (.set 0 (.op .add (.v 0) (.lst (.cons (.tup (.cons (.k (.int 800)) (.cons (.k (.int 0)) (.cons (.k (.int 800)) (.cons (.k (.int 0)) .nil))))) (.cons (.tup (.cons (.k (.int 801)) (.cons (.k (.int 0)) (.cons (.k (.int 802)) (.cons (.k (.int 0)) .nil))))) (.cons (.tup (.cons (.k (.int 802)) (.cons (.k (.int 1)) (.cons (.k (.int 801)) (.cons (.k (.int 1)) .nil))))) .nil)))))) (.cons (.set 0 (.op .add (.v 0) (.lst (.cons (.tup (.cons (.k (.int 800)) (.cons (.k (.bl true)) (.cons (.k (.int 801)) (.cons (.k (.int 0)) .nil))))) (.cons (.tup (.cons (.k (.str "800")) (.cons (.k (.int 0)) (.cons (.k (.int 801)) (.cons (.k (.int 0)) .nil))))) (.cons (.tup (.cons (.k (.int 800)) (.cons (.k (.int 0)) (.cons (.k (.int 899)) (.cons (.k (.int 0)) .nil))))) .nil)))))) (.cons (.ret (.op .add (.v 0) (.lst (.cons (.tup (.cons (.k (.int 899)) (.cons (.k (.int 0)) (.cons (.k (.int 801)) (.cons (.k (.int 0)) .nil))))) .nil)))) .nil)))))⟩
def F_law_odd : Fn := ⟨2, 4, [], (.cons (.ite (.and (.bi (.isi [.tuple]) (.cons (.v 0) .nil)) (.and (.cmp .ne (.v 0) (.tup .nil)) (.cmp .gt (.call 41 (.cons (.v 1) (.cons (.k (.int 9781)) (.cons (.k (.int 5)) .nil)))) (.k (.int 0))))) (.cons (.set 2 (.call 41 (.cons (.v 1) (.cons (.k (.int 9769)) (.cons (.bi .len (.cons (.v 0) .nil)) .nil))))) (.cons (.ret (.op .add (.op .add (.slB (.v 0) (.v 2)) (.tup (.cons (.call 48 (.cons (.ix (.v 0) (.v 2)) (.cons (.op .add (.op .add (.v 1) (.op .mul (.k (.int 31)) (.v 2))) (.k (.int 7))) .nil))) .nil))) (.slA (.v 0) (.op .add (.v 2) (.k (.int 1)))))) .nil)) .nil) (.cons (.set 3 (.lst (.cons (.k .non) (.cons (.k (.bl true)) (.cons (.k (.bl false)) (.cons (.k (.int 0)) (.cons (.k (.int 1)) (.cons (.neg (.k (.int 1))) (.cons (.k (.int 2)) (.cons (.k (.int 7)) (.cons (.k (.int 10)) (.cons (.k (.int 1000)) (.cons (.k (.str "")) (.cons (.k (.str "a")) (.cons (.k (.str "A")) (.cons (.tup .nil) (.cons (.tup (.cons (.k (.str "a")) .nil)) (.cons (.lst (.cons (.k (.int 1)) .nil)) .nil)))))))))))))))))) (.cons (.ite (.bi (.isi [.tuple]) (.cons (.v 0) .nil)) (.cons (.set 3 (.op .add (.v 3) (.op .mul (.lst (.cons (.bi .lst (.cons (.v 0) .nil)) (.cons (.op .add (.v 0) (.slA (.v 0) (.neg (.k (.int 1))))) (.cons (.slB (.v 0) (.neg (.k (.int 1)))) (.cons (.rev (.v 0)) (.cons (.slA (.v 0) (.k (.int 1))) (.cons (.tup (.cons (.v 0) .nil)) .nil))))))) (.k (.int 2))))) .nil) (.cons (.ite (.bi (.isi [.str]) (.cons (.v 0) .nil)) (.cons (.set 3 (.op .add (.v 3) (.op .mul (.lst (.cons (.op .add (.v 0) (.k (.str "a"))) (.cons (.slB (.v 0) (.neg (.k (.int 1)))) (.cons (.mt .upper (.v 0) .nil) (.cons (.op .add (.v 0) (.k (.str " "))) (.cons (.op .mul (.v 0) (.k (.int 2))) (.cons (.lst (.cons (.v 0) .nil)) (.cons (.op .add (.v 0) (.slB (.v 0) (.k (.int 1)))) .nil)))))))) (.k (.int 2))))) .nil) (.cons (.ite (.bi (.isi [.int]) (.cons (.v 0) .nil)) (.cons (.set 3 (.op .add (.v 3) (.op .mul (.lst (.cons (.op .add (.v 0) (.k (.int 1))) (.cons (.op .sub (.v 0) (.k (.int 1))) (.cons (.op .sub (.k (.int 0)) (.v 0)) (.cons (.tup (.cons (.v 0) .nil)) (.cons (.op .add (.v 0) (.k (.int 2))) (.cons (.op .mul (.v 0) (.k (.int 2))) .nil))))))) (.k (.int 2))))) .nil) .nil) .nil)) .nil)) (.cons (.ret (.ix (.v 3) (.call 41 (.cons (.v 1) (.cons (.k (.int 9749)) (.cons (.bi .len (.cons (.v 3) .nil)) .nil)))))) .nil))))⟩
def F_law_whole : Fn := ⟨3, 3, [], (.cons (.ret (.and (.bi (.isi [.int]) (.cons (.v 0) .nil)) (.and (.not (.bi (.isi [.bool]) (.cons (.v 0) .nil))) (.chn .le .le (.v 1) (.v 0) (.v 2))))) .nil)⟩
def F_law_are_ports : Fn := ⟨3, 9, [], (.cons (.ite (.or (.not (.bi (.isi [.tuple]) (.cons (.v 0) .nil))) (.cmp .ne (.lc false (.v 7) (.nm 7) .seq (.cons (.v 0) .nil) (.cons (.or (.not (.bi (.isi [.tuple]) (.cons (.v 7) .nil))) (.cmp .ne (.bi .len (.cons (.v 7) .nil)) (.k (.int 2)))) .nil) [7]) (.lst .nil))) (.cons (.ret (.k (.bl false))) .nil) .nil) (.cons (.set 3 (.bi .dict (.cons (.lc false (.tup (.cons (.ix (.v 7) (.k (.int 0))) (.cons (.v 7) .nil))) (.nm 7) .seq (.cons (.ix (.v 1) (.k (.int 0))) .nil) .nil [7]) .nil))) (.cons (.for false (.tp [4, 5]) .seq (.cons (.v 0) .nil) (.cons (.ite (.or (.not (.call 86 (.cons (.v 4) (.cons (.k (.int 1)) (.cons (.k (.int 999)) .nil))))) (.cmp .nin (.v 4) (.v 3))) (.cons (.ret (.k (.bl false))) .nil) .nil) (.cons (.ite (.not (.call 86 (.cons (.v 5) (.cons (.k (.int 0)) (.cons (.op .sub (.bi .len (.cons (.ix (.call 30 (.cons (.ix (.v 3) (.v 4)) .nil)) (.v 2)) .nil)) (.k (.int 1))) .nil))))) (.cons (.ret (.k (.bl false))) .nil) .nil) .nil))) (.cons (.set 6 (.ite (.cmp .eq (.v 2) (.k (.int 0))) (.lc false (.slA (.v 8) (.k (.int 2))) (.nm 8) .seq (.cons (.ix (.v 1) (.k (.int 1))) .nil) .nil [8]) (.lst .nil))) (.cons (.ret (.and (.cmp .eq (.bi .lset (.cons (.v 0) .nil)) (.bi .len (.cons (.v 0) .nil))) (.cmp .eq (.lc false (.v 7) (.nm 7) .seq (.cons (.v 0) .nil) (.cons (.cmp .«in» (.v 7) (.v 6)) .nil) [7]) (.lst .nil)))) .nil)))))⟩
def F_law_is_box : Fn := ⟨2, 5, [], (.cons (.ite (.or (.not (.bi (.isi [.tuple]) (.cons (.v 0) .nil))) (.or (.cmp .ne (.bi .len (.cons (.v 0) .nil)) (.k (.int 3))) (.not (.call 86 (.cons (.ix (.v 0) (.k (.int 0))) (.cons (.k (.int 1)) (.cons (.k (.int 999)) .nil))))))) (.cons (.ret (.k (.bl false))) .nil) .nil) (.cons (.ite (.not (.bi (.isi [.str]) (.cons (.ix (.v 0) (.k (.int 1))) .nil))) (.cons (.ret (.k (.bl false))) .nil) .nil) (.cons (.tp [2, 3] (.slA (.v 0) (.k (.int 1)))) (.cons (.ite (.cmp .«in» (.v 2) (.tup (.cons (.k (.str "const")) (.cons (.k (.str "late")) .nil)))) (.cons (.ret (.call 86 (.cons (.v 3) (.cons (.k (.int 0)) (.cons (.k (.int 999)) .nil))))) .nil) .nil) (.cons (.ite (.cmp .eq (.v 2) (.k (.str "words"))) (.cons (.ite (.or (.not (.bi (.isi [.str]) (.cons (.v 3) .nil))) (.cmp .gt (.bi .len (.cons (.v 3) .nil)) (.k (.int 8)))) (.cons (.ret (.k (.bl false))) .nil) .nil) (.cons (.ret (.cmp .eq (.lc false (.v 4) (.nm 4) .seq (.cons (.v 3) .nil) (.cons (.not (.chn .le .le (.k (.str "a")) (.v 4) (.k (.str "z")))) .nil) [4]) (.lst .nil))) .nil)) .nil) (.cons (.ite (.cmp .ne (.v 2) (.k (.str "group"))) (.cons (.ret (.and (.cmp .«in» (.v 2) (.tup (.cons (.k (.str "add")) (.cons (.k (.str "less")) (.cons (.k (.str "pick")) (.cons (.k (.str "text")) (.cons (.k (.str "glue")) (.cons (.k (.str "size")) .nil)))))))) (.cmp .is (.v 3) (.k .non)))) .nil) .nil) (.cons (.ite (.or (.not (.bi (.isi [.tuple]) (.cons (.v 3) .nil))) (.or (.cmp .ne (.bi .len (.cons (.v 3) .nil)) (.k (.int 3))) (.or (.cmp .eq (.v 1) (.k (.int 0))) (.not (.call 26 (.cons (.ix (.v 3) (.k (.int 2))) (.cons (.op .sub (.v 1) (.k (.int 1))) .nil))))))) (.cons (.ret (.k (.bl false))) .nil) .nil) (.cons (.ret (.and (.call 4 (.cons (.ix (.v 3) (.k (.int 0))) (.cons (.ix (.v 3) (.k (.int 2))) (.cons (.k (.int 0)) .nil)))) (.call 4 (.cons (.ix (.v 3) (.k (.int 1))) (.cons (.ix (.v 3) (.k (.int 2))) (.cons (.k (.int 1)) .nil)))))) .nil))))))))⟩
def F_law_is_laid : Fn := ⟨2, 14, [], (.cons (.ite (.or (.not (.bi (.isi [.tuple]) (.cons (.v 0) .nil))) (.cmp .ne (.bi .len (.cons (.v 0) .nil)) (.k (.int 2)))) (.cons (.ret (.k (.bl false))) .nil) .nil) (.cons (.ite (.or (.not (.bi (.isi [.tuple]) (.cons (.ix (.v 0) (.k (.int 0))) .nil))) (.not (.bi (.isi [.tuple]) (.cons (.ix (.v 0) (.k (.int 1))) .nil)))) (.cons (.ret (.k (.bl false))) .nil) .nil) (.cons (.tp [2, 3] (.v 0)) (.cons (.ite (.cmp .ne (.lc false (.v 11) (.nm 11) .seq (.cons (.v 2) .nil) (.cons (.not (.call 25 (.cons (.v 11) (.cons (.v 1) .nil)))) .nil) [11]) (.lst .nil)) (.cons (.ret (.k (.bl false))) .nil) .nil) (.cons (.ite (.cmp .ne (.lc false (.v 12) (.nm 12) .rng2 (.cons (.k (.int 1)) (.cons (.bi .len (.cons (.v 2) .nil)) .nil)) (.cons (.cmp .ge (.ix (.ix (.v 2) (.op .sub (.v 12) (.k (.int 1)))) (.k (.int 0))) (.ix (.ix (.v 2) (.v 12)) (.k (.int 0)))) .nil) [12]) (.lst .nil)) (.cons (.ret (.k (.bl false))) .nil) .nil) (.cons (.set 4 (.bi .dict (.cons (.lc false (.tup (.cons (.ix (.v 11) (.k (.int 0))) (.cons (.call 30 (.cons (.v 11) .nil)) .nil))) (.nm 11) .seq (.cons (.v 2) .nil) .nil [11]) .nil))) (.cons (.for false (.nm 5) .seq (.cons (.v 3) .nil) (.cons (.ite (.or (.not (.bi (.isi [.tuple]) (.cons (.v 5) .nil))) (.cmp .ne (.bi .len (.cons (.v 5) .nil)) (.k (.int 4)))) (.cons (.ret (.k (.bl false))) .nil) .nil) (.cons (.ite (.cmp .ne (.lc false (.v 13) (.nm 13) .seq (.cons (.v 5) .nil) (.cons (.not (.call 86 (.cons (.v 13) (.cons (.k (.int 0)) (.cons (.k (.int 999)) .nil))))) .nil) [13]) (.lst .nil)) (.cons (.ret (.k (.bl false))) .nil) .nil) (.cons (.tp [6, 7, 8, 9] (.v 5)) (.cons (.ite (.or (.cmp .nin (.v 6) (.v 4)) (.or (.cmp .nin (.v 8) (.v 4)) (.or (.cmp .ge (.v 7) (.bi .len (.cons (.ix (.ix (.v 4) (.v 6)) (.k (.int 1))) .nil))) (.cmp .ge (.v 9) (.bi .len (.cons (.ix (.ix (.v 4) (.v 8)) (.k (.int 0))) .nil)))))) (.cons (.ret (.k (.bl false))) .nil) .nil) (.cons (.ite (.cmp .ne (.ix (.ix (.ix (.v 4) (.v 6)) (.k (.int 1))) (.v 7)) (.ix (.ix (.ix (.v 4) (.v 8)) (.k (.int 0))) (.v 9))) (.cons (.ret (.k (.bl false))) .nil) .nil) .nil)))))) (.cons (.set 10 (.lc false (.slA (.v 5) (.k (.int 2))) (.nm 5) .seq (.cons (.v 3) .nil) .nil [5])) (.cons (.ret (.and (.cmp .eq (.bi .lst (.cons (.v 3) .nil)) (.bi .sset (.cons (.v 3) .nil))) (.cmp .eq (.bi .lset (.cons (.v 10) .nil)) (.bi .len (.cons (.v 10) .nil))))) .nil)))))))))⟩
def F_law_many : Fn := ⟨1, 5, [], (.cons (.set 1 (.k (.int 0))) (.cons (.for false (.tp [2, 3, 4]) .seq (.cons (.ix (.v 0) (.k (.int 0))) .nil) (.cons (.set 1 (.op .add (.v 1) (.k (.int 1)))) (.cons (.ite (.cmp .eq (.v 3) (.k (.str "group"))) (.cons (.set 1 (.op .add (.v 1) (.call 37 (.cons (.ix (.v 4) (.k (.int 2))) .nil)))) .nil) .nil) .nil))) (.cons (.ret (.v 1)) .nil)))⟩
def F_law_end : Fn := ⟨5, 8, [], (.cons (.set 5 (.ix (.lc false (.v 5) (.nm 5) .seq (.cons (.ix (.v 0) (.k (.int 0))) .nil) (.cons (.cmp .eq (.ix (.v 5) (.k (.int 0))) (.v 2)) .nil) [5]) (.k (.int 0)))) (.cons (.ite (.cmp .ne (.ix (.v 5) (.k (.int 1))) (.k (.str "group"))) (.cons (.ret (.tup (.cons (.op .add (.v 1) (.tup (.cons (.v 2) .nil))) (.cons (.ix (.v 5) (.k (.int 1))) .nil)))) .nil) .nil) (.cons (.tp [6, 7] (.ix (.ix (.ix (.v 5) (.k (.int 2))) (.v 4)) (.v 3))) (.cons (.ret (.call 18 (.cons (.ix (.ix (.v 5) (.k (.int 2))) (.k (.int 2))) (.cons (.op .add (.v 1) (.tup (.cons (.v 2) .nil))) (.cons (.v 6) (.cons (.v 7) (.cons (.v 4) .nil))))))) .nil))))⟩
def F_law_edges : Fn := ⟨2, 10, [2], (.cons (.setM 2 (.lst .nil)) (.cons (.for false (.tp [3, 4, 5, 6]) .seq (.cons (.ix (.v 0) (.k (.int 1))) .nil) (.cons (.app 2 (.tup (.cons (.call 18 (.cons (.v 0) (.cons (.v 1) (.cons (.v 3) (.cons (.v 4) (.cons (.k (.int 1)) .nil)))))) (.cons (.call 18 (.cons (.v 0) (.cons (.v 1) (.cons (.v 5) (.cons (.v 6) (.cons (.k (.int 0)) .nil)))))) .nil)))) .nil)) (.cons (.for false (.tp [7, 8, 9]) .seq (.cons (.ix (.v 0) (.k (.int 0))) .nil) (.cons (.ite (.cmp .eq (.v 8) (.k (.str "group"))) (.cons (.ext 2 (.call 17 (.cons (.ix (.v 9) (.k (.int 2))) (.cons (.op .add (.v 1) (.tup (.cons (.v 7) .nil))) .nil)))) .nil) .nil) .nil)) (.cons (.ret (.v 2)) .nil))))⟩
def F_law_is_sheet : Fn := ⟨1, 5, [], (.cons (.ite (.or (.not (.call 26 (.cons (.v 0) (.cons (.k (.int 2)) .nil)))) (.cmp .gt (.call 37 (.cons (.v 0) .nil)) (.k (.int 12)))) (.cons (.ret (.k (.bl false))) .nil) .nil) (.cons (.set 1 (.lc false (.v 4) (.nm 4) .seq (.cons (.call 17 (.cons (.v 0) (.cons (.tup .nil) .nil))) .nil) (.cons (.and (.cmp .ne (.ix (.ix (.v 4) (.k (.int 0))) (.k (.int 1))) (.k (.str "late"))) (.cmp .ne (.ix (.ix (.v 4) (.k (.int 1))) (.k (.int 1))) (.k (.str "late")))) .nil) [4])) (.cons (.for false (.nm 2) .rng1 (.cons (.bi .len (.cons (.v 1) .nil)) .nil) (.cons (.set 3 (.lc false (.ix (.v 4) (.k (.int 1))) (.nm 4) .seq (.cons (.v 1) .nil) .nil [4])) (.cons (.set 1 (.lc false (.v 4) (.nm 4) .seq (.cons (.v 1) .nil) (.cons (.cmp .«in» (.ix (.v 4) (.k (.int 0))) (.v 3)) .nil) [4])) .nil))) (.cons (.ret (.cmp .eq (.v 1) (.lst .nil))) .nil))))⟩
def F_law_are_told : Fn := ⟨1, 4, [], (.cons (.for false (.nm 1) .rng1 (.cons (.k (.int 60)) .nil) (.cons (.set 2 (.call 42 (.cons (.op .add (.call 9 (.cons (.v 0) (.cons (.op .mod (.v 1) (.k (.int 8))) .nil))) (.op .mul (.k (.int 7)) (.v 1))) (.cons (.k (.int 4)) .nil)))) (.cons (.set 3 (.call 48 (.cons (.v 2) (.cons (.op .add (.call 9 (.cons (.v 0) (.cons (.op .add (.k (.int 8)) (.op .mod (.v 1) (.k (.int 2)))) .nil))) (.op .mul (.k (.int 17)) (.v 1))) .nil)))) (.cons (.ite (.or (.cmp .nin (.call 120 (.cons (.v 3) .nil)) (.tup (.cons (.k (.bl true)) (.cons (.k (.bl false)) .nil)))) (.cmp .ne (.call 120 (.cons (.v 3) .nil)) (.call 29 (.cons (.v 3) .nil)))) (.cons (.ret (.k (.bl false))) .nil) .nil) .nil)))) (.cons (.ret (.k (.bl true))) .nil))⟩
def F_law_opened : Fn := ⟨2, 16, [8], (.cons (.set 2 (.op .add (.bi .max (.cons (.lc false (.ix (.v 14) (.k (.int 0))) (.nm 14) .seq (.cons (.ix (.v 0) (.k (.int 0))) .nil) .nil [14]) .nil)) (.k (.int 1)))) (.cons (.tp [3, 4, 5] (.ix (.lc false (.ix (.v 14) (.k (.int 2))) (.nm 14) .seq (.cons (.ix (.v 0) (.k (.int 0))) .nil) (.cons (.cmp .eq (.ix (.v 14) (.k (.int 0))) (.v 1)) .nil) [14]) (.k (.int 0)))) (.cons (.set 6 (.bi .dict (.cons (.lc false (.tup (.cons (.ix (.v 14) (.k (.int 0))) (.cons (.op .add (.v 2) (.v 15)) .nil))) (.tp [15, 14]) .enu (.cons (.ix (.v 5) (.k (.int 0))) .nil) .nil [15, 14]) .nil))) (.cons (.set 7 (.op .add (.lc false (.v 14) (.nm 14) .seq (.cons (.ix (.v 0) (.k (.int 0))) .nil) (.cons (.cmp .ne (.ix (.v 14) (.k (.int 0))) (.v 1)) .nil) [14]) (.lc false (.op .add (.tup (.cons (.ix (.v 6) (.ix (.v 14) (.k (.int 0)))) .nil)) (.slA (.v 14) (.k (.int 1)))) (.nm 14) .seq (.cons (.ix (.v 5) (.k (.int 0))) .nil) .nil [14]))) (.cons (.setM 8 (.lc false (.tup (.cons (.ix (.v 6) (.ix (.v 13) (.k (.int 0)))) (.cons (.ix (.v 13) (.k (.int 1))) (.cons (.ix (.v 6) (.ix (.v 13) (.k (.int 2)))) (.cons (.ix (.v 13) (.k (.int 3))) .nil))))) (.nm 13) .seq (.cons (.ix (.v 5) (.k (.int 1))) .nil) .nil [13])) (.cons (.for false (.tp [9, 10, 11, 12]) .seq (.cons (.ix (.v 0) (.k (.int 1))) .nil) (.cons (.ite (.cmp .eq (.v 9) (.v 1)) (.cons (.tp [9, 10] (.tup (.cons (.ix (.v 6) (.ix (.ix (.v 4) (.v 10)) (.k (.int 0)))) (.cons (.ix (.ix (.v 4) (.v 10)) (.k (.int 1))) .nil)))) .nil) .nil) (.cons (.ite (.cmp .eq (.v 11) (.v 1)) (.cons (.tp [11, 12] (.tup (.cons (.ix (.v 6) (.ix (.ix (.v 3) (.v 12)) (.k (.int 0)))) (.cons (.ix (.ix (.v 3) (.v 12)) (.k (.int 1))) .nil)))) .nil) .nil) (.cons (.app 8 (.tup (.cons (.v 9) (.cons (.v 10) (.cons (.v 11) (.cons (.v 12) .nil)))))) .nil)))) (.cons (.ret (.tup (.cons (.bi .tup (.cons (.v 7) .nil)) (.cons (.bi .tup (.cons (.bi .sorted (.cons (.v 8) .nil)) .nil)) .nil)))) .nil)))))))⟩
def F_law_flat : Fn := ⟨1, 3, [], (.cons (.set 1 (.lc false (.ix (.v 2) (.k (.int 0))) (.nm 2) .seq (.cons (.ix (.v 0) (.k (.int 0))) .nil) (.cons (.cmp .eq (.ix (.v 2) (.k (.int 1))) (.k (.str "group"))) .nil) [2])) (.cons (.while (.v 1) (.cons (.set 0 (.call 49 (.cons (.v 0) (.cons (.ix (.v 1) (.k (.int 0))) .nil)))) (.cons (.set 1 (.lc false (.ix (.v 2) (.k (.int 0))) (.nm 2) .seq (.cons (.ix (.v 0) (.k (.int 0))) .nil) (.cons (.cmp .eq (.ix (.v 2) (.k (.int 1))) (.k (.str "group"))) .nil) [2])) .nil))) (.cons (.ret (.v 0)) .nil)))⟩
def F_law_rings : Fn := ⟨1, 9, [], (.cons (.set 1 (.call 19 (.cons (.v 0) .nil))) (.cons (.set 2 (.lc false (.ix (.v 6) (.k (.int 0))) (.nm 6) .seq (.cons (.ix (.v 1) (.k (.int 0))) .nil) (.cons (.cmp .eq (.ix (.v 6) (.k (.int 1))) (.k (.str "late"))) .nil) [6])) (.cons (.set 3 (.lc false (.ix (.v 6) (.k (.int 0))) (.nm 6) .seq (.cons (.ix (.v 1) (.k (.int 0))) .nil) .nil [6])) (.cons (.set 4 (.neg (.k (.int 1)))) (.cons (.while (.cmp .ne (.bi .len (.cons (.v 3) .nil)) (.v 4)) (.cons (.set 4 (.bi .len (.cons (.v 3) .nil))) (.cons (.set 5 (.lc false (.ix (.v 7) (.k (.int 2))) (.nm 7) .seq (.cons (.ix (.v 1) (.k (.int 1))) .nil) (.cons (.and (.cmp .«in» (.ix (.v 7) (.k (.int 0))) (.v 3)) (.cmp .nin (.ix (.v 7) (.k (.int 2))) (.v 2))) .nil) [7])) (.cons (.set 3 (.lc false (.v 8) (.nm 8) .seq (.cons (.v 3) .nil) (.cons (.cmp .«in» (.v 8) (.v 5)) .nil) [8])) .nil)))) (.cons (.ret (.cmp .ne (.v 3) (.lst .nil))) .nil))))))⟩
-- F_law_more: tuple of changed
def F_must_have : Fn := ⟨2, 3, [], (.cons (.ite (.not (.bi .all (.cons (.lc false (.cmp .isnot (.call 100 (.cons (.v 0) (.cons (.v 2) .nil))) (.k .non)) (.nm 2) .seq (.cons (.v 1) .nil) .nil [2]) .nil))) (.cons (.raise 0) .nil) .nil) .nil)⟩
def F_with_box : Fn := ⟨3, 3, [], (.cons (.ret (.tup (.cons (.op .add (.ix (.v 0) (.k (.int 0))) (.tup (.cons (.tup (.cons (.call 130 (.cons (.v 0) .nil)) (.cons (.v 1) (.cons (.v 2) .nil)))) .nil))) (.cons (.ix (.v 0) (.k (.int 1))) .nil)))) .nil)⟩
def F_without : Fn := ⟨2, 5, [], (.cons (.ex (.call 127 (.cons (.v 0) (.cons (.v 1) .nil)))) (.cons (.set 2 (.bi .tup (.cons (.lc false (.v 3) (.nm 3) .seq (.cons (.ix (.v 0) (.k (.int 0))) .nil) (.cons (.cmp .nin (.ix (.v 3) (.k (.int 0))) (.v 1)) .nil) [3]) .nil))) (.cons (.ret (.tup (.cons (.v 2) (.cons (.bi .tup (.cons (.lc false (.v 4) (.nm 4) .seq (.cons (.ix (.v 0) (.k (.int 1))) .nil) (.cons (.and (.cmp .nin (.ix (.v 4) (.k (.int 0))) (.v 1)) (.cmp .nin (.ix (.v 4) (.k (.int 2))) (.v 1))) .nil) [4]) .nil)) .nil)))) .nil)))⟩
def F_set_to : Fn := ⟨3, 5, [], (.cons (.ex (.call 127 (.cons (.v 0) (.cons (.tup (.cons (.v 1) .nil)) .nil)))) (.cons (.set 3 (.lc false (.ite (.cmp .eq (.ix (.v 4) (.k (.int 0))) (.v 1)) (.op .add (.slB (.v 4) (.k (.int 2))) (.tup (.cons (.v 2) .nil))) (.v 4)) (.nm 4) .seq (.cons (.ix (.v 0) (.k (.int 0))) .nil) .nil [4])) (.cons (.ret (.tup (.cons (.bi .tup (.cons (.v 3) .nil)) (.cons (.ix (.v 0) (.k (.int 1))) .nil)))) .nil)))⟩
def F_law_kinds_2 : Fn := ⟨1, 14, [], (.cons (.set 1 (.ix (.v 0) (.k (.int 1)))) (.cons (.ite (.cmp .eq (.v 1) (.k (.str "group"))) (.cons (.tp [2, 3, 4] (.ix (.v 0) (.k (.int 2)))) (.cons (.set 5 (.bi .dict (.cons (.lc false (.tup (.cons (.ix (.v 13) (.k (.int 0))) (.cons (.v 13) .nil))) (.nm 13) .seq (.cons (.ix (.v 4) (.k (.int 0))) .nil) .nil [13]) .nil))) (.cons (.set 6 (.lc false (.ix (.ix (.call 31 (.cons (.ix (.v 5) (.v 11)) .nil)) (.k (.int 0))) (.v 12)) (.tp [11, 12]) .seq (.cons (.v 2) .nil) .nil [11, 12])) (.cons (.ret (.tup (.cons (.bi .tup (.cons (.v 6) .nil)) (.cons (.bi .tup (.cons (.lc false (.ix (.ix (.call 31 (.cons (.ix (.v 5) (.v 11)) .nil)) (.k (.int 1))) (.v 12)) (.tp [11, 12]) .seq (.cons (.v 3) .nil) .nil [11, 12]) .nil)) .nil)))) .nil)))) .nil) (.cons (.tp [7, 8, 9] (.tup (.cons (.k (.str "number")) (.cons (.k (.str "text")) (.cons (.k (.str "truth")) .nil))))) (.cons (.set 6 (.dct ["add", "less", "pick", "text", "glue", "size", "late"] (.cons (.tup (.cons (.v 7) (.cons (.v 7) .nil))) (.cons (.tup (.cons (.v 7) (.cons (.v 7) .nil))) (.cons (.tup (.cons (.v 9) (.cons (.v 7) (.cons (.v 7) .nil)))) (.cons (.tup (.cons (.v 7) .nil)) (.cons (.tup (.cons (.v 8) (.cons (.v 8) .nil))) (.cons (.tup (.cons (.v 8) .nil)) (.cons (.tup (.cons (.v 7) .nil)) .nil))))))))) (.cons (.set 10 (.dct ["words", "less", "text", "glue"] (.cons (.tup (.cons (.v 8) .nil)) (.cons (.tup (.cons (.v 9) .nil)) (.cons (.tup (.cons (.v 8) .nil)) (.cons (.tup (.cons (.v 8) .nil)) .nil)))))) (.cons (.ret (.tup (.cons (.mt .get (.v 6) (.cons (.v 1) (.cons (.tup .nil) .nil))) (.cons (.mt .get (.v 10) (.cons (.v 1) (.cons (.tup (.cons (.v 7) .nil)) .nil))) .nil)))) .nil))))))⟩
def F_law_setting_2 : Fn := ⟨2, 2, [], (.cons (.ite (.cmp .«in» (.v 1) (.tup (.cons (.k (.str "const")) (.cons (.k (.str "late")) .nil)))) (.cons (.ret (.ix (.tup (.cons (.k (.int 0)) (.cons (.k (.int 1)) (.cons (.k (.int 2)) (.cons (.k (.int 999)) (.cons (.k (.int 500)) .nil)))))) (.call 40 (.cons (.v 0) (.cons (.k (.int 9973)) (.cons (.k (.int 5)) .nil)))))) .nil) .nil) (.cons (.ite (.cmp .eq (.v 1) (.k (.str "words"))) (.cons (.ret (.ix (.tup (.cons (.k (.str "")) (.cons (.k (.str "a")) (.cons (.k (.str "abc")) (.cons (.k (.str "zzzzzzzz")) .nil))))) (.call 40 (.cons (.v 0) (.cons (.k (.int 9967)) (.cons (.k (.int 4)) .nil)))))) .nil) .nil) (.cons (.ret (.k .non)) .nil)))⟩
def F_law_sheet_2 : Fn := ⟨2, 16, [3, 7], (.cons (.set 2 (.tup (.cons (.k (.str "const")) (.cons (.k (.str "words")) (.cons (.k (.str "add")) (.cons (.k (.str "less")) (.cons (.k (.str "pick")) (.cons (.k (.str "text")) (.cons (.k (.str "glue")) (.cons (.k (.str "size")) (.cons (.k (.str "late")) .nil))))))))))) (.cons (.set 2 (.op .add (.v 2) (.tup (.cons (.k (.str "late")) (.cons (.k (.str "add")) (.cons (.k (.str "const")) .nil)))))) (.cons (.setM 3 (.lst .nil)) (.cons (.set 4 (.k (.int 0))) (.cons (.for false (.nm 5) .rng1 (.cons (.call 40 (.cons (.v 0) (.cons (.k (.int 9949)) (.cons (.op .add (.v 1) (.k (.int 1))) .nil)))) .nil) (.cons (.set 4 (.op .add (.op .add (.v 4) (.k (.int 1))) (.call 40 (.cons (.op .add (.v 0) (.op .mul (.k (.int 3)) (.v 5))) (.cons (.k (.int 9941)) (.cons (.k (.int 2)) .nil)))))) (.cons (.set 6 (.ix (.v 2) (.call 40 (.cons (.op .add (.v 0) (.op .mul (.k (.int 7)) (.v 5))) (.cons (.k (.int 9931)) (.cons (.k (.int 12)) .nil)))))) (.cons (.app 3 (.tup (.cons (.v 4) (.cons (.v 6) (.cons (.call 70 (.cons (.op .add (.v 0) (.op .mul (.k (.int 11)) (.v 5))) (.cons (.v 6) .nil))) .nil))))) .nil)))) (.cons (.setM 7 (.lst .nil)) (.cons (.for true (.nm 8) .seq (.cons (.v 3) .nil) (.cons (.for false (.tp [9, 10]) .enu (.cons (.ix (.call 31 (.cons (.v 8) .nil)) (.k (.int 0))) .nil) (.cons (.set 11 (.op .add (.op .add (.v 0) (.op .mul (.k (.int 13)) (.ix (.v 8) (.k (.int 0))))) (.op .mul (.k (.int 5)) (.v 9)))) (.cons (.set 12 (.lc true (.ix (.v 15) (.k (.int 0))) (.nm 15) .seq (.cons (.v 3) .nil) (.cons (.cmp .eq (.ix (.call 31 (.cons (.v 15) .nil)) (.k (.int 1))) (.tup (.cons (.v 10) .nil))) .nil) [15])) (.cons (.set 13 (.cmp .eq (.op .mod (.v 0) (.k (.int 3))) (.k (.int 0)))) (.cons (.set 14 (.lc false (.v 15) (.nm 15) .seq (.cons (.v 12) .nil) (.cons (.or (.and (.cmp .ne (.cmp .lt (.v 15) (.ix (.v 8) (.k (.int 0)))) (.v 13)) (.cmp .ne (.v 15) (.ix (.v 8) (.k (.int 0))))) (.cmp .eq (.ix (.v 8) (.k (.int 1))) (.k (.str "late")))) .nil) [15])) (.cons (.ite (.and (.v 14) (.cmp .gt (.call 40 (.cons (.v 11) (.cons (.k (.int 9929)) (.cons (.k (.int 4)) .nil)))) (.k (.int 0)))) (.cons (.app 7 (.tup (.cons (.ix (.v 14) (.call 40 (.cons (.v 11) (.cons (.k (.int 9923)) (.cons (.bi .len (.cons (.v 14) .nil)) .nil))))) (.cons (.k (.int 0)) (.cons (.ix (.v 8) (.k (.int 0))) (.cons (.v 9) .nil)))))) .nil) .nil) .nil)))))) .nil)) (.cons (.ret (.tup (.cons (.bi .tup (.cons (.v 3) .nil)) (.cons (.bi .tup (.cons (.bi .sorted (.cons (.v 7) .nil)) .nil)) .nil)))) .nil))))))))⟩
def F_law_word : Fn := ⟨1, 3, [], (.cons (.set 1 (.lst (.cons (.bi (.isi [(.cls 0)]) (.cons (.v 0) .nil)) (.cons (.bi (.isi [(.cls 2)]) (.cons (.v 0) .nil)) .nil)))) (.cons (.set 1 (.op .add (.v 1) (.lst (.cons (.bi (.isi [(.cls 6)]) (.cons (.v 0) .nil)) (.cons (.bi (.isi [(.cls 7)]) (.cons (.v 0) .nil)) .nil))))) (.cons (.set 1 (.op .add (.v 1) (.lst (.cons (.bi (.isi [(.cls 5)]) (.cons (.v 0) .nil)) (.cons (.bi (.isi [(.cls 1)]) (.cons (.v 0) .nil)) .nil))))) (.cons (.set 1 (.op .add (.v 1) (.lst (.cons (.bi (.isi [(.cls 4)]) (.cons (.v 0) .nil)) (.cons (.bi (.isi [(.cls 3)]) (.cons (.v 0) .nil)) .nil))))) (.cons (.set 2 (.tup (.cons (.k (.str "no box")) (.cons (.k (.str "no port")) (.cons (.k (.str "other kind")) (.cons (.k (.str "ring")) (.cons (.k (.str "no wire")) (.cons (.k (.str "no group")) (.cons (.k (.str "no text")) (.cons (.k (.str "no step")) .nil)))))))))) (.cons (.ite (.or (.cmp .ne (.mt .count (.v 1) (.cons (.k (.bl true)) .nil)) (.k (.int 1))) (.not (.bi (.isi [(.cls 99)]) (.cons (.v 0) .nil)))) (.cons (.ret (.k (.str "wrong"))) .nil) .nil) (.cons (.ret (.ix (.v 2) (.mt .index (.v 1) (.cons (.k (.bl true)) .nil)))) .nil)))))))⟩
-- F_law_told: statement Try
def F_must_port : Fn := ⟨4, 4, [], (.cons (.ite (.not (.chn .le .lt (.k (.int 0)) (.v 2) (.bi .len (.cons (.ix (.call 141 (.cons (.call 100 (.cons (.v 0) (.cons (.v 1) .nil))) .nil)) (.v 3)) .nil)))) (.cons (.raise 2) .nil) .nil) .nil)⟩
def F_with_wire : Fn := ⟨2, 4, [], (.cons (.set 2 (.lc false (.v 3) (.nm 3) .seq (.cons (.ix (.v 0) (.k (.int 1))) .nil) (.cons (.cmp .ne (.slA (.v 3) (.k (.int 2))) (.slA (.v 1) (.k (.int 2)))) .nil) [3])) (.cons (.ret (.tup (.cons (.ix (.v 0) (.k (.int 0))) (.cons (.bi .tup (.cons (.bi .sorted (.cons (.op .add (.v 2) (.lst (.cons (.v 1) .nil))) .nil)) .nil)) .nil)))) .nil))⟩
def F_wired : Fn := ⟨2, 7, [], (.cons (.tp [2, 3, 4, 5] (.v 1)) (.cons (.ex (.call 127 (.cons (.v 0) (.cons (.tup (.cons (.v 2) (.cons (.v 4) .nil))) .nil)))) (.cons (.ex (.call 128 (.cons (.v 0) (.cons (.v 2) (.cons (.v 3) (.cons (.k (.int 1)) .nil)))))) (.cons (.ex (.call 128 (.cons (.v 0) (.cons (.v 4) (.cons (.v 5) (.cons (.k (.int 0)) .nil)))))) (.cons (.ite (.cmp .ne (.ix (.ix (.call 141 (.cons (.call 100 (.cons (.v 0) (.cons (.v 2) .nil))) .nil)) (.k (.int 1))) (.v 3)) (.ix (.ix (.call 141 (.cons (.call 100 (.cons (.v 0) (.cons (.v 4) .nil))) .nil)) (.k (.int 0))) (.v 5))) (.cons (.raise 6) .nil) .nil) (.cons (.set 6 (.call 158 (.cons (.v 0) (.cons (.v 1) .nil)))) (.cons (.ite (.call 114 (.cons (.v 6) .nil)) (.cons (.raise 7) .nil) .nil) (.cons (.ret (.v 6)) .nil))))))))⟩
def F_unwired : Fn := ⟨2, 3, [], (.cons (.ite (.cmp .nin (.v 1) (.ix (.v 0) (.k (.int 1)))) (.cons (.raise 5) .nil) .nil) (.cons (.ret (.tup (.cons (.ix (.v 0) (.k (.int 0))) (.cons (.bi .tup (.cons (.lc false (.v 2) (.nm 2) .seq (.cons (.ix (.v 0) (.k (.int 1))) .nil) (.cons (.cmp .ne (.v 2) (.v 1)) .nil) [2]) .nil)) .nil)))) .nil))⟩
def F_law_same_2 : Fn := ⟨2, 4, [], (.cons (.ite (.bi (.isi [.tuple]) (.cons (.v 1) .nil)) (.cons (.ite (.or (.not (.bi (.isi [.tuple]) (.cons (.v 0) .nil))) (.cmp .ne (.bi .len (.cons (.v 0) .nil)) (.bi .len (.cons (.v 1) .nil)))) (.cons (.ret (.k (.bl false))) .nil) .nil) (.cons (.ret (.bi .all (.cons (.lc false (.call 67 (.cons (.v 2) (.cons (.v 3) .nil))) (.tp [2, 3]) .zip (.cons (.v 0) (.cons (.v 1) .nil)) .nil [2, 3]) .nil))) .nil)) .nil) (.cons (.ite (.cmp .is (.v 1) (.k .non)) (.cons (.ret (.cmp .is (.v 0) (.k .non))) .nil) .nil) (.cons (.ite (.or (.bi (.isi [.bool]) (.cons (.v 1) .nil)) (.bi (.isi [.bool]) (.cons (.v 0) .nil))) (.cons (.ret (.and (.bi (.isi [.bool]) (.cons (.v 1) .nil)) (.and (.bi (.isi [.bool]) (.cons (.v 0) .nil)) (.cmp .eq (.v 0) (.v 1))))) .nil) .nil) (.cons (.ret (.and (.bi (.isi [.int, .str]) (.cons (.v 0) .nil)) (.cmp .eq (.v 0) (.v 1)))) .nil))))⟩
-- F_law_told_2: statement Try
def F_law_due : Fn := ⟨2, 10, [], (.cons (.set 2 (.bi .dict (.cons (.lc false (.tup (.cons (.ix (.v 8) (.k (.int 0))) (.cons (.call 31 (.cons (.v 8) .nil)) .nil))) (.nm 8) .seq (.cons (.ix (.v 0) (.k (.int 0))) .nil) .nil [8]) .nil))) (.cons (.tp [3, 4, 5, 6] (.v 1)) (.cons (.ite (.or (.cmp .nin (.v 3) (.v 2)) (.cmp .nin (.v 5) (.v 2))) (.cons (.ret (.k (.str "no box"))) .nil) .nil) (.cons (.ite (.or (.not (.chn .le .lt (.k (.int 0)) (.v 4) (.bi .len (.cons (.ix (.ix (.v 2) (.v 3)) (.k (.int 1))) .nil)))) (.not (.chn .le .lt (.k (.int 0)) (.v 6) (.bi .len (.cons (.ix (.ix (.v 2) (.v 5)) (.k (.int 0))) .nil))))) (.cons (.ret (.k (.str "no port"))) .nil) .nil) (.cons (.ite (.cmp .ne (.ix (.ix (.ix (.v 2) (.v 3)) (.k (.int 1))) (.v 4)) (.ix (.ix (.ix (.v 2) (.v 5)) (.k (.int 0))) (.v 6))) (.cons (.ret (.k (.str "other kind"))) .nil) .nil) (.cons (.set 7 (.tup (.cons (.ix (.v 0) (.k (.int 0))) (.cons (.bi .tup (.cons (.bi .sorted (.cons (.op .add (.lc false (.v 9) (.nm 9) .seq (.cons (.ix (.v 0) (.k (.int 1))) .nil) (.cons (.cmp .ne (.slA (.v 9) (.k (.int 2))) (.tup (.cons (.v 5) (.cons (.v 6) .nil)))) .nil) [9]) (.lst (.cons (.v 1) .nil))) .nil)) .nil)) .nil)))) (.cons (.ret (.ite (.call 63 (.cons (.v 7) .nil)) (.k (.str "ring")) (.v 7))) .nil)))))))⟩
def F_goals : Fn := ⟨3, 8, [4], (.cons (.ex (.call 127 (.cons (.v 0) (.cons (.tup (.cons (.v 1) .nil)) .nil)))) (.cons (.ex (.call 128 (.cons (.v 0) (.cons (.v 1) (.cons (.v 2) (.cons (.k (.int 1)) .nil)))))) (.cons (.set 3 (.ix (.ix (.call 141 (.cons (.call 100 (.cons (.v 0) (.cons (.v 1) .nil))) .nil)) (.k (.int 1))) (.v 2))) (.cons (.setM 4 (.lst .nil)) (.cons (.for false (.nm 5) .seq (.cons (.ix (.v 0) (.k (.int 0))) .nil) (.cons (.for false (.tp [6, 7]) .enu (.cons (.ix (.call 141 (.cons (.v 5) .nil)) (.k (.int 0))) .nil) (.cons (.ite (.and (.cmp .eq (.v 7) (.v 3)) (.not (.call 114 (.cons (.call 158 (.cons (.v 0) (.cons (.tup (.cons (.v 1) (.cons (.v 2) (.cons (.ix (.v 5) (.k (.int 0))) (.cons (.v 6) .nil))))) .nil))) .nil)))) (.cons (.app 4 (.tup (.cons (.ix (.v 5) (.k (.int 0))) (.cons (.v 6) .nil)))) .nil) .nil) .nil)) .nil)) (.cons (.ret (.bi .tup (.cons (.v 4) .nil))) .nil))))))⟩
-- F_law_told_3: statement Try
def F_order : Fn := ⟨1, 1, [], (.cons (.ret (.bi .tup (.cons (.call 138 (.cons (.v 0) .nil)) .nil))) .nil)⟩
def F_all_along : Fn := ⟨2, 7, [2, 3], (.cons (.setM 2 (.dct [] .nil)) (.cons (.setM 3 (.lst (.cons (.v 1) .nil))) (.cons (.while (.v 3) (.cons (.pop 4 3) (.cons (.ite (.cmp .nin (.v 4) (.v 2)) (.cons (.put 2 (.v 4) (.k (.bl true))) (.cons (.ext 3 (.lc false (.v 6) (.tp [5, 6]) .seq (.cons (.v 0) .nil) (.cons (.cmp .eq (.v 5) (.v 4)) .nil) [5, 6])) .nil)) .nil) .nil))) (.cons (.ret (.bi .tup (.cons (.bi .sorted (.cons (.v 2) .nil)) .nil))) .nil))))⟩
def F_needs : Fn := ⟨2, 3, [], (.cons (.ex (.call 127 (.cons (.v 0) (.cons (.tup (.cons (.v 1) .nil)) .nil)))) (.cons (.ret (.call 95 (.cons (.lc false (.tup (.cons (.ix (.v 2) (.k (.int 2))) (.cons (.ix (.v 2) (.k (.int 0))) .nil))) (.nm 2) .seq (.cons (.ix (.v 0) (.k (.int 1))) .nil) .nil [2]) (.cons (.v 1) .nil)))) .nil))⟩
def F_stirs : Fn := ⟨2, 3, [], (.cons (.ex (.call 127 (.cons (.v 0) (.cons (.tup (.cons (.v 1) .nil)) .nil)))) (.cons (.ret (.call 95 (.cons (.lc false (.tup (.cons (.ix (.v 2) (.k (.int 0))) (.cons (.ix (.v 2) (.k (.int 2))) .nil))) (.nm 2) .seq (.cons (.ix (.v 0) (.k (.int 1))) .nil) .nil [2]) (.cons (.v 1) .nil)))) .nil))⟩
-- F_law_told_4: statement Try
def F_law_order : Fn := ⟨1, 6, [2], (.cons (.set 1 (.lc false (.ix (.v 3) (.k (.int 0))) (.nm 3) .seq (.cons (.ix (.v 0) (.k (.int 0))) .nil) (.cons (.cmp .eq (.ix (.v 3) (.k (.int 1))) (.k (.str "late"))) .nil) [3])) (.cons (.setM 2 (.lst .nil)) (.cons (.while (.cmp .lt (.bi .len (.cons (.v 2) .nil)) (.bi .len (.cons (.ix (.v 0) (.k (.int 0))) .nil))) (.cons (.for false (.nm 3) .seq (.cons (.ix (.v 0) (.k (.int 0))) .nil) (.cons (.set 4 (.lc false (.ix (.v 5) (.k (.int 0))) (.nm 5) .seq (.cons (.ix (.v 0) (.k (.int 1))) .nil) (.cons (.and (.cmp .eq (.ix (.v 5) (.k (.int 2))) (.ix (.v 3) (.k (.int 0)))) (.cmp .nin (.ix (.v 5) (.k (.int 0))) (.v 2))) .nil) [5])) (.cons (.ite (.and (.cmp .nin (.ix (.v 3) (.k (.int 0))) (.v 2)) (.or (.cmp .eq (.v 4) (.lst .nil)) (.cmp .«in» (.ix (.v 3) (.k (.int 0))) (.v 1)))) (.cons (.app 2 (.ix (.v 3) (.k (.int 0)))) (.cons .brk .nil)) .nil) .nil))) .nil)) (.cons (.ret (.bi .tup (.cons (.v 2) .nil))) .nil))))⟩
def F_law_along : Fn := ⟨4, 8, [], (.cons (.set 4 (.lst (.cons (.v 1) .nil))) (.cons (.set 5 (.k (.int 0))) (.cons (.while (.cmp .ne (.bi .len (.cons (.v 4) .nil)) (.v 5)) (.cons (.set 5 (.bi .len (.cons (.v 4) .nil))) (.cons (.set 6 (.lc false (.ix (.v 7) (.v 3)) (.nm 7) .seq (.cons (.ix (.v 0) (.k (.int 1))) .nil) (.cons (.and (.cmp .«in» (.ix (.v 7) (.v 2)) (.v 4)) (.cmp .nin (.ix (.v 7) (.v 3)) (.v 4))) .nil) [7])) (.cons (.set 4 (.op .add (.v 4) (.bi .sset (.cons (.v 6) .nil)))) .nil)))) (.cons (.ret (.bi .tup (.cons (.bi .sorted (.cons (.v 4) .nil)) .nil))) .nil))))⟩
def F_what_gives : Fn := ⟨3, 3, [], (.cons (.ite (.cmp .«in» (.v 0) (.tup (.cons (.k (.str "const")) (.cons (.k (.str "words")) .nil)))) (.cons (.ret (.v 1)) .nil) .nil) (.cons (.ite (.cmp .eq (.v 0) (.k (.str "add"))) (.cons (.ret (.op .mod (.op .add (.ix (.v 2) (.k (.int 0))) (.ix (.v 2) (.k (.int 1)))) (.k (.int 1000)))) .nil) .nil) (.cons (.ite (.cmp .eq (.v 0) (.k (.str "less"))) (.cons (.ret (.cmp .lt (.ix (.v 2) (.k (.int 0))) (.ix (.v 2) (.k (.int 1))))) .nil) .nil) (.cons (.ite (.cmp .eq (.v 0) (.k (.str "pick"))) (.cons (.ret (.ite (.ix (.v 2) (.k (.int 0))) (.ix (.v 2) (.k (.int 1))) (.ix (.v 2) (.k (.int 2))))) .nil) .nil) (.cons (.ite (.cmp .eq (.v 0) (.k (.str "text"))) (.cons (.ret (.bi .str (.cons (.ix (.v 2) (.k (.int 0))) .nil))) .nil) .nil) (.cons (.ite (.cmp .eq (.v 0) (.k (.str "glue"))) (.cons (.ret (.slB (.op .add (.ix (.v 2) (.k (.int 0))) (.ix (.v 2) (.k (.int 1)))) (.k (.int 20)))) .nil) .nil) (.cons (.ret (.bi .len (.cons (.ix (.v 2) (.k (.int 0))) .nil))) .nil)))))))⟩
def F_coming : Fn := ⟨3, 10, [4], (.cons (.set 3 (.call 100 (.cons (.v 0) (.cons (.v 1) .nil)))) (.cons (.setM 4 (.lc false (.gix 5 (.v 9)) (.nm 9) .seq (.cons (.ix (.call 141 (.cons (.v 3) .nil)) (.k (.int 0))) .nil) .nil [9])) (.cons (.for false (.tp [5, 6, 7, 8]) .seq (.cons (.ix (.v 0) (.k (.int 1))) .nil) (.cons (.ite (.cmp .eq (.v 7) (.v 1)) (.cons (.put 4 (.v 8) (.ix (.v 2) (.v 5))) .nil) .nil) .nil)) (.cons (.ret (.v 4)) .nil))))⟩
def F_one_tick : Fn := ⟨3, 7, [3], (.cons (.setM 3 (.mt .copy (.v 2) .nil)) (.cons (.for false (.nm 4) .seq (.cons (.v 1) .nil) (.cons (.ite (.cmp .nin (.v 4) (.v 2)) (.cons (.tp [5, 6] (.slA (.call 100 (.cons (.v 0) (.cons (.v 4) .nil))) (.k (.int 1)))) (.cons (.put 3 (.v 4) (.call 154 (.cons (.v 5) (.cons (.v 6) (.cons (.call 103 (.cons (.v 0) (.cons (.v 4) (.cons (.v 3) .nil)))) .nil))))) .nil)) .nil) .nil)) (.cons (.ret (.v 3)) .nil)))⟩
def F_firsts : Fn := ⟨1, 2, [], (.cons (.ret (.bi .dict (.cons (.lc false (.tup (.cons (.ix (.v 1) (.k (.int 0))) (.cons (.ix (.v 1) (.k (.int 2))) .nil))) (.nm 1) .seq (.cons (.ix (.v 0) (.k (.int 0))) .nil) (.cons (.cmp .eq (.ix (.v 1) (.k (.int 1))) (.k (.str "late"))) .nil) [1]) .nil))) .nil)⟩
def F_at_tick : Fn := ⟨2, 7, [], (.cons (.set 2 (.call 138 (.cons (.v 0) .nil))) (.cons (.set 3 (.call 106 (.cons (.v 0) .nil))) (.cons (.for false (.nm 4) .rng1 (.cons (.v 1) .nil) (.cons (.set 5 (.call 133 (.cons (.v 0) (.cons (.v 2) (.cons (.v 3) .nil))))) (.cons (.set 3 (.bi .dict (.cons (.lc false (.tup (.cons (.v 6) (.cons (.ix (.call 103 (.cons (.v 0) (.cons (.v 6) (.cons (.v 5) .nil)))) (.k (.int 0))) .nil))) (.nm 6) .keys (.cons (.v 3) .nil) .nil [6]) .nil))) .nil))) (.cons (.ret (.call 133 (.cons (.v 0) (.cons (.v 2) (.cons (.v 3) .nil))))) .nil))))⟩
def F_opened_ports : Fn := ⟨1, 16, [1], (.cons (.setM 1 (.lst .nil)) (.cons (.for false (.nm 2) .seq (.cons (.ix (.v 0) (.k (.int 0))) .nil) (.cons (.ext 1 (.lc false (.tup (.cons (.tup (.cons (.ix (.v 2) (.k (.int 0))) (.cons (.v 15) .nil))) (.cons (.tup (.cons (.ix (.v 2) (.k (.int 0))) (.cons (.v 15) .nil))) .nil))) (.nm 15) .rng1 (.cons (.bi .len (.cons (.ix (.call 141 (.cons (.v 2) .nil)) (.k (.int 1))) .nil)) .nil) .nil [15])) .nil)) (.cons (.set 3 (.v 0)) (.cons (.set 4 (.lc false (.v 2) (.nm 2) .seq (.cons (.ix (.v 3) (.k (.int 0))) .nil) (.cons (.cmp .eq (.ix (.v 2) (.k (.int 1))) (.k (.str "group"))) .nil) [2])) (.cons (.while (.v 4) (.cons (.tp [5, 6, 7] (.ix (.v 4) (.k (.int 0)))) (.cons (.set 8 (.op .add (.bi .max (.cons (.lc false (.ix (.v 2) (.k (.int 0))) (.nm 2) .seq (.cons (.ix (.v 3) (.k (.int 0))) .nil) .nil [2]) .nil)) (.k (.int 1)))) (.cons (.set 9 (.lc false (.ix (.v 2) (.k (.int 0))) (.nm 2) .seq (.cons (.ix (.ix (.v 7) (.k (.int 2))) (.k (.int 0))) .nil) .nil [2])) (.cons (.set 10 (.lc false (.tup (.cons (.op .add (.v 8) (.mt .index (.v 9) (.cons (.v 11) .nil))) (.cons (.v 12) .nil))) (.tp [11, 12]) .seq (.cons (.ix (.v 7) (.k (.int 1))) .nil) .nil [11, 12])) (.cons (.setM 1 (.lc true (.tup (.cons (.v 13) (.cons (.ite (.cmp .eq (.ix (.v 14) (.k (.int 0))) (.v 5)) (.ix (.v 10) (.ix (.v 14) (.k (.int 1)))) (.v 14)) .nil))) (.tp [13, 14]) .seq (.cons (.v 1) .nil) .nil [13, 14])) (.cons (.set 3 (.call 134 (.cons (.v 3) (.cons (.v 5) .nil)))) (.cons (.set 4 (.lc false (.v 2) (.nm 2) .seq (.cons (.ix (.v 3) (.k (.int 0))) .nil) (.cons (.cmp .eq (.ix (.v 2) (.k (.int 1))) (.k (.str "group"))) .nil) [2])) .nil)))))))) (.cons (.ret (.v 1)) .nil))))))⟩
-- F_worths: sorted by key
def F_worth_of : Fn := ⟨4, 4, [], (.cons (.ex (.call 127 (.cons (.v 0) (.cons (.tup (.cons (.v 1) .nil)) .nil)))) (.cons (.ex (.call 128 (.cons (.v 0) (.cons (.v 1) (.cons (.v 2) (.cons (.k (.int 1)) .nil)))))) (.cons (.ret (.ix (.bi .dict (.cons (.call 161 (.cons (.v 0) (.cons (.v 3) .nil))) .nil)) (.tup (.cons (.v 1) (.cons (.v 2) .nil))))) .nil)))⟩
def F_law_coming : Fn := ⟨5, 11, [], (.cons (.set 5 (.ix (.ix (.v 0) (.neg (.k (.int 1)))) (.k (.int 1)))) (.cons (.for false (.tp [6, 7, 8, 9]) .seq (.cons (.ix (.v 5) (.k (.int 1))) .nil) (.cons (.ite (.cmp .eq (.tup (.cons (.v 8) (.cons (.v 9) .nil))) (.tup (.cons (.v 1) (.cons (.v 2) .nil)))) (.cons (.ret (.call 89 (.cons (.v 0) (.cons (.v 6) (.cons (.v 7) (.cons (.v 3) (.cons (.v 4) .nil))))))) .nil) .nil) .nil)) (.cons (.set 10 (.ix (.lc false (.v 6) (.nm 6) .seq (.cons (.ix (.v 5) (.k (.int 0))) .nil) (.cons (.cmp .eq (.ix (.v 6) (.k (.int 0))) (.v 1)) .nil) [6]) (.k (.int 0)))) (.cons (.ite (.and (.cmp .gt (.bi .len (.cons (.v 0) .nil)) (.k (.int 1))) (.cmp .«in» (.tup (.cons (.v 1) (.cons (.v 2) .nil))) (.ix (.ix (.v 0) (.neg (.k (.int 1)))) (.k (.int 2))))) (.cons (.ret (.call 12 (.cons (.slB (.v 0) (.neg (.k (.int 1)))) (.cons (.ix (.ix (.v 0) (.neg (.k (.int 1)))) (.k (.int 0))) (.cons (.mt .index (.ix (.ix (.v 0) (.neg (.k (.int 1)))) (.k (.int 2))) (.cons (.tup (.cons (.v 1) (.cons (.v 2) .nil))) .nil)) (.cons (.v 3) (.cons (.v 4) .nil))))))) .nil) .nil) (.cons (.ret (.ix (.dct ["number", "text", "truth"] (.cons (.k (.int 0)) (.cons (.k (.str "")) (.cons (.k (.bl false)) .nil)))) (.ix (.ix (.call 31 (.cons (.v 10) .nil)) (.k (.int 0))) (.v 2)))) .nil)))))⟩
-- F_law_worth: a parameter is changed: _law_known
def F_law_reckoned : Fn := ⟨5, 12, [], (.cons (.tp [1, 5, 6] (.ix (.lc false (.v 9) (.nm 9) .seq (.cons (.ix (.ix (.ix (.v 0) (.neg (.k (.int 1)))) (.k (.int 1))) (.k (.int 0))) .nil) (.cons (.cmp .eq (.ix (.v 9) (.k (.int 0))) (.v 1)) .nil) [9]) (.k (.int 0)))) (.cons (.ite (.cmp .eq (.v 5) (.k (.str "group"))) (.cons (.tp [7, 8] (.ix (.ix (.v 6) (.k (.int 1))) (.v 2))) (.cons (.ret (.call 89 (.cons (.op .add (.v 0) (.lst (.cons (.tup (.cons (.v 1) (.cons (.ix (.v 6) (.k (.int 2))) (.cons (.ix (.v 6) (.k (.int 0))) .nil)))) .nil))) (.cons (.v 7) (.cons (.v 8) (.cons (.v 3) (.cons (.v 4) .nil))))))) .nil)) .nil) (.cons (.ite (.or (.cmp .«in» (.v 5) (.tup (.cons (.k (.str "const")) (.cons (.k (.str "words")) .nil)))) (.and (.cmp .eq (.v 5) (.k (.str "late"))) (.cmp .eq (.v 3) (.k (.int 0))))) (.cons (.ret (.v 6)) .nil) .nil) (.cons (.ite (.cmp .eq (.v 5) (.k (.str "late"))) (.cons (.ret (.call 12 (.cons (.v 0) (.cons (.v 1) (.cons (.k (.int 0)) (.cons (.op .sub (.v 3) (.k (.int 1))) (.cons (.v 4) .nil))))))) .nil) .nil) (.cons (.set 9 (.tup (.cons (.v 1) (.cons (.v 5) (.cons (.v 6) .nil))))) (.cons (.set 10 (.lc false (.call 12 (.cons (.v 0) (.cons (.v 1) (.cons (.v 11) (.cons (.v 3) (.cons (.v 4) .nil)))))) (.nm 11) .rng1 (.cons (.bi .len (.cons (.ix (.call 31 (.cons (.v 9) .nil)) (.k (.int 0))) .nil)) .nil) .nil [11])) (.cons (.ite (.cmp .eq (.v 5) (.k (.str "add"))) (.cons (.ret (.op .mod (.op .add (.ix (.v 10) (.k (.int 0))) (.ix (.v 10) (.k (.int 1)))) (.k (.int 1000)))) .nil) .nil) (.cons (.ite (.cmp .eq (.v 5) (.k (.str "pick"))) (.cons (.ret (.ix (.v 10) (.op .add (.k (.int 1)) (.bi .int (.cons (.not (.ix (.v 10) (.k (.int 0)))) .nil))))) .nil) .nil) (.cons (.ite (.cmp .eq (.v 5) (.k (.str "less"))) (.cons (.ret (.cmp .lt (.ix (.v 10) (.k (.int 0))) (.ix (.v 10) (.k (.int 1))))) .nil) .nil) (.cons (.ite (.cmp .eq (.v 5) (.k (.str "glue"))) (.cons (.ret (.slB (.op .add (.ix (.v 10) (.k (.int 0))) (.ix (.v 10) (.k (.int 1)))) (.k (.int 20)))) .nil) .nil) (.cons (.ret (.ite (.cmp .eq (.v 5) (.k (.str "text"))) (.bi .str (.cons (.ix (.v 10) (.k (.int 0))) .nil)) (.bi .len (.cons (.ix (.v 10) (.k (.int 0))) .nil)))) .nil)))))))))))⟩
def F_law_worths : Fn := ⟨2, 6, [3], (.cons (.set 2 (.dct [] .nil)) (.cons (.setM 3 (.lst .nil)) (.cons (.for false (.nm 4) .seq (.cons (.ix (.v 0) (.k (.int 0))) .nil) (.cons (.for false (.nm 5) .rng1 (.cons (.bi .len (.cons (.ix (.call 31 (.cons (.v 4) .nil)) (.k (.int 1))) .nil)) .nil) (.cons (.app 3 (.tup (.cons (.tup (.cons (.ix (.v 4) (.k (.int 0))) (.cons (.v 5) .nil))) (.cons (.call 89 (.cons (.lst (.cons (.tup (.cons (.k (.int 0)) (.cons (.v 0) (.cons (.tup .nil) .nil)))) .nil)) (.cons (.ix (.v 4) (.k (.int 0))) (.cons (.v 5) (.cons (.v 1) (.cons (.v 2) .nil)))))) .nil)))) .nil)) .nil)) (.cons (.ret (.bi .tup (.cons (.v 3) .nil))) .nil))))⟩
-- F_law_told_5: statement Try
def F_law_reckoned_2 : Fn := ⟨5, 12, [], (.cons (.tp [1, 5, 6] (.ix (.lc false (.v 9) (.nm 9) .seq (.cons (.ix (.ix (.ix (.v 0) (.neg (.k (.int 1)))) (.k (.int 1))) (.k (.int 0))) .nil) (.cons (.cmp .eq (.ix (.v 9) (.k (.int 0))) (.v 1)) .nil) [9]) (.k (.int 0)))) (.cons (.ite (.cmp .eq (.v 5) (.k (.str "group"))) (.cons (.tp [7, 8] (.ix (.ix (.v 6) (.k (.int 1))) (.v 2))) (.cons (.ret (.call 89 (.cons (.op .add (.v 0) (.lst (.cons (.tup (.cons (.v 1) (.cons (.ix (.v 6) (.k (.int 2))) (.cons (.ix (.v 6) (.k (.int 0))) .nil)))) .nil))) (.cons (.v 7) (.cons (.v 8) (.cons (.v 3) (.cons (.v 4) .nil))))))) .nil)) .nil) (.cons (.ite (.or (.cmp .«in» (.v 5) (.tup (.cons (.k (.str "const")) (.cons (.k (.str "words")) .nil)))) (.and (.cmp .eq (.v 5) (.k (.str "late"))) (.cmp .eq (.v 3) (.k (.int 0))))) (.cons (.ret (.v 6)) .nil) .nil) (.cons (.ite (.cmp .eq (.v 5) (.k (.str "late"))) (.cons (.ret (.call 12 (.cons (.v 0) (.cons (.v 1) (.cons (.k (.int 0)) (.cons (.op .sub (.v 3) (.k (.int 1))) (.cons (.v 4) .nil))))))) .nil) .nil) (.cons (.set 9 (.tup (.cons (.v 1) (.cons (.v 5) (.cons (.v 6) .nil))))) (.cons (.set 10 (.lc false (.call 12 (.cons (.v 0) (.cons (.v 1) (.cons (.v 11) (.cons (.v 3) (.cons (.v 4) .nil)))))) (.nm 11) .rng1 (.cons (.bi .len (.cons (.ix (.call 30 (.cons (.v 9) .nil)) (.k (.int 0))) .nil)) .nil) .nil [11])) (.cons (.ite (.cmp .eq (.v 5) (.k (.str "add"))) (.cons (.ret (.op .mod (.op .add (.ix (.v 10) (.k (.int 0))) (.ix (.v 10) (.k (.int 1)))) (.k (.int 1000)))) .nil) .nil) (.cons (.ite (.cmp .eq (.v 5) (.k (.str "pick"))) (.cons (.ret (.ix (.v 10) (.op .add (.k (.int 1)) (.bi .int (.cons (.not (.ix (.v 10) (.k (.int 0)))) .nil))))) .nil) .nil) (.cons (.ite (.cmp .eq (.v 5) (.k (.str "less"))) (.cons (.ret (.cmp .lt (.ix (.v 10) (.k (.int 0))) (.ix (.v 10) (.k (.int 1))))) .nil) .nil) (.cons (.ite (.cmp .eq (.v 5) (.k (.str "glue"))) (.cons (.ret (.slB (.op .add (.ix (.v 10) (.k (.int 0))) (.ix (.v 10) (.k (.int 1)))) (.k (.int 20)))) .nil) .nil) (.cons (.ret (.ite (.cmp .eq (.v 5) (.k (.str "text"))) (.bi .str (.cons (.ix (.v 10) (.k (.int 0))) .nil)) (.bi .len (.cons (.ix (.v 10) (.k (.int 0))) .nil)))) .nil)))))))))))⟩
def F_steady : Fn := ⟨2, 9, [], (.cons (.set 2 (.call 96 (.cons (.v 0) .nil))) (.cons (.set 3 (.call 138 (.cons (.v 2) .nil))) (.cons (.set 4 (.call 106 (.cons (.v 2) .nil))) (.cons (.for false (.nm 5) .rng1 (.cons (.op .add (.v 1) (.k (.int 1))) .nil) (.cons (.set 6 (.call 133 (.cons (.v 2) (.cons (.v 3) (.cons (.v 4) .nil))))) (.cons (.set 7 (.bi .dict (.cons (.lc false (.tup (.cons (.v 8) (.cons (.ix (.call 103 (.cons (.v 2) (.cons (.v 8) (.cons (.v 6) .nil)))) (.k (.int 0))) .nil))) (.nm 8) .keys (.cons (.v 4) .nil) .nil [8]) .nil))) (.cons (.ite (.cmp .eq (.v 7) (.v 4)) (.cons (.ret (.v 5)) .nil) .nil) (.cons (.set 4 (.v 7)) .nil))))) (.cons (.ret (.k .non)) .nil)))))⟩
def F_law_others : Fn := ⟨2, 7, [], (.cons (.set 2 (.lst .nil)) (.cons (.for false (.nm 3) .rng1 (.cons (.k (.int 4)) .nil) (.cons (.tp [4, 5] (.tup (.cons (.bi .dict (.cons (.call 161 (.cons (.v 0) (.cons (.v 3) .nil))) .nil)) (.cons (.bi .dict (.cons (.call 161 (.cons (.v 1) (.cons (.v 3) .nil))) .nil)) .nil)))) (.cons (.set 2 (.op .add (.v 2) (.lc false (.ix (.v 6) (.k (.int 0))) (.nm 6) .keys (.cons (.v 4) .nil) (.cons (.cmp .ne (.ix (.v 4) (.v 6)) (.ix (.v 5) (.v 6))) .nil) [6]))) .nil))) (.cons (.ret (.v 2)) .nil)))⟩
def F_clip : Fn := ⟨2, 5, [], (.cons (.ex (.call 127 (.cons (.v 0) (.cons (.v 1) .nil)))) (.cons (.set 2 (.bi .tup (.cons (.lc false (.v 3) (.nm 3) .seq (.cons (.ix (.v 0) (.k (.int 0))) .nil) (.cons (.cmp .«in» (.ix (.v 3) (.k (.int 0))) (.v 1)) .nil) [3]) .nil))) (.cons (.ret (.tup (.cons (.v 2) (.cons (.bi .tup (.cons (.lc false (.v 4) (.nm 4) .seq (.cons (.ix (.v 0) (.k (.int 1))) .nil) (.cons (.and (.cmp .«in» (.ix (.v 4) (.k (.int 0))) (.v 1)) (.cmp .«in» (.ix (.v 4) (.k (.int 2))) (.v 1))) .nil) [4]) .nil)) .nil)))) .nil)))⟩
def F_new_names : Fn := ⟨2, 5, [], (.cons (.set 2 (.call 130 (.cons (.v 0) .nil))) (.cons (.ret (.bi .dict (.cons (.lc false (.tup (.cons (.ix (.v 4) (.k (.int 0))) (.cons (.op .add (.v 2) (.v 3)) .nil))) (.tp [3, 4]) .enu (.cons (.ix (.v 1) (.k (.int 0))) .nil) .nil [3, 4]) .nil))) .nil))⟩
def F_pasted : Fn := ⟨2, 10, [], (.cons (.set 2 (.call 131 (.cons (.v 0) (.cons (.v 1) .nil)))) (.cons (.set 3 (.bi .tup (.cons (.lc false (.op .add (.tup (.cons (.ix (.v 2) (.ix (.v 9) (.k (.int 0)))) .nil)) (.slA (.v 9) (.k (.int 1)))) (.nm 9) .seq (.cons (.ix (.v 1) (.k (.int 0))) .nil) .nil [9]) .nil))) (.cons (.set 4 (.lc false (.tup (.cons (.ix (.v 2) (.v 5)) (.cons (.v 6) (.cons (.ix (.v 2) (.v 7)) (.cons (.v 8) .nil))))) (.tp [5, 6, 7, 8]) .seq (.cons (.ix (.v 1) (.k (.int 1))) .nil) .nil [5, 6, 7, 8])) (.cons (.ret (.tup (.cons (.op .add (.ix (.v 0) (.k (.int 0))) (.v 3)) (.cons (.bi .tup (.cons (.bi .sorted (.cons (.op .add (.bi .lst (.cons (.ix (.v 0) (.k (.int 1))) .nil)) (.v 4)) .nil)) .nil)) .nil)))) .nil))))⟩
def F_doubled : Fn := ⟨2, 8, [], (.cons (.set 2 (.call 102 (.cons (.v 0) (.cons (.v 1) .nil)))) (.cons (.set 3 (.call 131 (.cons (.v 0) (.cons (.v 2) .nil)))) (.cons (.set 4 (.call 139 (.cons (.v 0) (.cons (.v 2) .nil)))) (.cons (.set 5 (.lc false (.v 7) (.nm 7) .seq (.cons (.ix (.v 0) (.k (.int 1))) .nil) (.cons (.and (.cmp .«in» (.ix (.v 7) (.k (.int 2))) (.v 3)) (.cmp .nin (.ix (.v 7) (.k (.int 0))) (.v 3))) .nil) [7])) (.cons (.set 6 (.lc false (.op .add (.slB (.v 7) (.k (.int 2))) (.tup (.cons (.ix (.v 3) (.ix (.v 7) (.k (.int 2)))) (.cons (.ix (.v 7) (.k (.int 3))) .nil)))) (.nm 7) .seq (.cons (.v 5) .nil) .nil [7])) (.cons (.ret (.tup (.cons (.ix (.v 4) (.k (.int 0))) (.cons (.bi .tup (.cons (.bi .sorted (.cons (.op .add (.bi .lst (.cons (.ix (.v 4) (.k (.int 1))) .nil)) (.v 6)) .nil)) .nil)) .nil)))) .nil))))))⟩
-- F_law_told_6: statement Try
def F_law_pasted : Fn := ⟨3, 10, [], (.cons (.set 3 (.op .add (.bi .max (.cons (.op .add (.lst (.cons (.k (.int 0)) .nil)) (.lc false (.ix (.v 7) (.k (.int 0))) (.nm 7) .seq (.cons (.ix (.v 0) (.k (.int 0))) .nil) .nil [7])) .nil)) (.k (.int 1)))) (.cons (.set 4 (.bi .dict (.cons (.lc false (.tup (.cons (.ix (.v 7) (.k (.int 0))) (.cons (.op .add (.v 3) (.v 9)) .nil))) (.tp [9, 7]) .enu (.cons (.ix (.v 1) (.k (.int 0))) .nil) .nil [9, 7]) .nil))) (.cons (.set 5 (.lc false (.op .add (.tup (.cons (.ix (.v 4) (.ix (.v 7) (.k (.int 0)))) .nil)) (.slA (.v 7) (.k (.int 1)))) (.nm 7) .seq (.cons (.ix (.v 1) (.k (.int 0))) .nil) .nil [7])) (.cons (.set 6 (.lc false (.tup (.cons (.ix (.v 4) (.ix (.v 8) (.k (.int 0)))) (.cons (.ix (.v 8) (.k (.int 1))) (.cons (.ix (.v 4) (.ix (.v 8) (.k (.int 2)))) (.cons (.ix (.v 8) (.k (.int 3))) .nil))))) (.nm 8) .seq (.cons (.ix (.v 1) (.k (.int 1))) .nil) .nil [8])) (.cons (.set 6 (.op .add (.v 6) (.lc false (.op .add (.slB (.v 8) (.k (.int 2))) (.tup (.cons (.ix (.v 4) (.ix (.v 8) (.k (.int 2)))) (.cons (.ix (.v 8) (.k (.int 3))) .nil)))) (.nm 8) .seq (.cons (.v 2) .nil) .nil [8]))) (.cons (.ret (.tup (.cons (.op .add (.ix (.v 0) (.k (.int 0))) (.bi .tup (.cons (.v 5) .nil))) (.cons (.bi .tup (.cons (.bi .sorted (.cons (.op .add (.v 6) (.bi .lst (.cons (.ix (.v 0) (.k (.int 1))) .nil))) .nil)) .nil)) .nil)))) .nil))))))⟩
def F_law_moved : Fn := ⟨3, 8, [], (.cons (.set 3 (.bi .dict (.cons (.lc false (.tup (.cons (.ix (.v 7) (.k (.int 0))) (.cons (.op .add (.v 1) (.v 6)) .nil))) (.tp [6, 7]) .enu (.cons (.ix (.v 2) (.k (.int 0))) .nil) .nil [6, 7]) .nil))) (.cons (.ret (.lc false (.tup (.cons (.tup (.cons (.ix (.v 3) (.ix (.v 4) (.k (.int 0)))) (.cons (.ix (.v 4) (.k (.int 1))) .nil))) (.cons (.v 5) .nil))) (.tp [4, 5]) .seq (.cons (.v 0) .nil) .nil [4, 5])) .nil))⟩
def F_grouped : Fn := ⟨2, 10, [8], (.cons (.ex (.call 127 (.cons (.v 0) (.cons (.v 1) .nil)))) (.cons (.ite (.not (.v 1)) (.cons (.raise 1) .nil) .nil) (.cons (.set 2 (.call 130 (.cons (.v 0) .nil))) (.cons (.set 3 (.bi .sorted (.cons (.lc false (.slA (.v 9) (.k (.int 2))) (.nm 9) .seq (.cons (.ix (.v 0) (.k (.int 1))) .nil) (.cons (.and (.cmp .«in» (.ix (.v 9) (.k (.int 2))) (.v 1)) (.cmp .nin (.ix (.v 9) (.k (.int 0))) (.v 1))) .nil) [9]) .nil))) (.cons (.set 4 (.bi .sset (.cons (.lc false (.slB (.v 9) (.k (.int 2))) (.nm 9) .seq (.cons (.ix (.v 0) (.k (.int 1))) .nil) (.cons (.and (.cmp .«in» (.ix (.v 9) (.k (.int 0))) (.v 1)) (.cmp .nin (.ix (.v 9) (.k (.int 2))) (.v 1))) .nil) [9]) .nil))) (.cons (.set 5 (.tup (.cons (.v 2) (.cons (.k (.str "group")) (.cons (.tup (.cons (.bi .tup (.cons (.v 3) .nil)) (.cons (.bi .tup (.cons (.v 4) .nil)) (.cons (.call 102 (.cons (.v 0) (.cons (.v 1) .nil))) .nil)))) .nil))))) (.cons (.tp [6, 7] (.call 159 (.cons (.v 0) (.cons (.v 1) .nil)))) (.cons (.setM 8 (.bi .lst (.cons (.v 7) .nil))) (.cons (.for false (.nm 9) .seq (.cons (.ix (.v 0) (.k (.int 1))) .nil) (.cons (.ite (.cmp .«in» (.slA (.v 9) (.k (.int 2))) (.v 3)) (.cons (.app 8 (.op .add (.slB (.v 9) (.k (.int 2))) (.tup (.cons (.v 2) (.cons (.mt .index (.v 3) (.cons (.slA (.v 9) (.k (.int 2))) .nil)) .nil))))) .nil) (.cons (.ite (.and (.cmp .«in» (.slB (.v 9) (.k (.int 2))) (.v 4)) (.cmp .nin (.ix (.v 9) (.k (.int 2))) (.v 1))) (.cons (.app 8 (.op .add (.tup (.cons (.v 2) (.cons (.mt .index (.v 4) (.cons (.slB (.v 9) (.k (.int 2))) .nil)) .nil))) (.slA (.v 9) (.k (.int 2))))) .nil) .nil) .nil)) .nil)) (.cons (.ret (.tup (.cons (.op .add (.v 6) (.tup (.cons (.v 5) .nil))) (.cons (.bi .tup (.cons (.bi .sorted (.cons (.v 8) .nil)) .nil)) .nil)))) .nil))))))))))⟩
-- F_law_told_7: statement Try
def F_opened : Fn := ⟨2, 2, [], (.cons (.ex (.call 127 (.cons (.v 0) (.cons (.tup (.cons (.v 1) .nil)) .nil)))) (.cons (.ite (.cmp .ne (.ix (.call 100 (.cons (.v 0) (.cons (.v 1) .nil))) (.k (.int 1))) (.k (.str "group"))) (.cons (.raise 1) .nil) .nil) (.cons (.ret (.call 134 (.cons (.v 0) (.cons (.v 1) .nil)))) .nil)))⟩
def F_flat : Fn := ⟨1, 1, [], (.cons (.ret (.call 96 (.cons (.v 0) .nil))) .nil)⟩
-- F_law_told_8: statement Try
def F_law_are_kept : Fn := ⟨3, 15, [], (.cons (.set 3 (.call 112 (.cons (.v 0) (.cons (.v 1) .nil)))) (.cons (.set 4 (.ix (.ix (.ix (.v 3) (.k (.int 0))) (.neg (.k (.int 1)))) (.k (.int 0)))) (.cons (.set 5 (.bi .dict (.cons (.call 161 (.cons (.v 0) (.cons (.v 2) .nil))) .nil))) (.cons (.set 6 (.bi .dict (.cons (.call 161 (.cons (.v 3) (.cons (.v 2) .nil))) .nil))) (.cons (.set 7 (.ix (.ix (.ix (.ix (.v 3) (.k (.int 0))) (.neg (.k (.int 1)))) (.k (.int 2))) (.k (.int 1)))) (.cons (.for false (.nm 8) .keys (.cons (.v 6) .nil) (.cons (.set 9 (.ite (.cmp .eq (.ix (.v 8) (.k (.int 0))) (.v 4)) (.ix (.v 7) (.ix (.v 8) (.k (.int 1)))) (.v 8))) (.cons (.ite (.cmp .ne (.ix (.v 6) (.v 8)) (.ix (.v 5) (.v 9))) (.cons (.ret (.k (.bl false))) .nil) .nil) .nil))) (.cons (.set 10 (.bi .dict (.cons (.lc false (.tup (.cons (.v 14) (.cons (.op .add (.op .add (.v 4) (.k (.int 1))) (.v 13)) .nil))) (.tp [13, 14]) .enu (.cons (.bi .sorted (.cons (.v 1) .nil)) .nil) .nil [13, 14]) .nil))) (.cons (.set 11 (.call 135 (.cons (.v 3) (.cons (.v 4) .nil)))) (.cons (.set 12 (.bi .dict (.cons (.call 161 (.cons (.v 11) (.cons (.v 2) .nil))) .nil))) (.cons (.ite (.lc false (.v 8) (.nm 8) .keys (.cons (.v 5) .nil) (.cons (.cmp .ne (.ix (.v 12) (.tup (.cons (.mt .get (.v 10) (.cons (.ix (.v 8) (.k (.int 0))) (.cons (.ix (.v 8) (.k (.int 0))) .nil))) (.cons (.ix (.v 8) (.k (.int 1))) .nil)))) (.ix (.v 5) (.v 8))) .nil) [8]) (.cons (.ret (.k (.bl false))) .nil) .nil) (.cons (.ret (.and (.cmp .eq (.bi .len (.cons (.v 12) .nil)) (.bi .len (.cons (.v 5) .nil))) (.and (.cmp .eq (.bi .len (.cons (.ix (.v 11) (.k (.int 1))) .nil)) (.bi .len (.cons (.ix (.v 0) (.k (.int 1))) .nil))) (.cmp .eq (.bi .len (.cons (.ix (.v 11) (.k (.int 0))) .nil)) (.bi .len (.cons (.ix (.v 0) (.k (.int 0))) .nil)))))) .nil)))))))))))⟩
def F_ports_text : Fn := ⟨1, 3, [], (.cons (.ret (.mt .join (.k (.str "")) (.cons (.lc false (.op .add (.op .add (.op .add (.k (.str " ")) (.bi .str (.cons (.v 1) .nil))) (.k (.str "."))) (.bi .str (.cons (.v 2) .nil))) (.tp [1, 2]) .seq (.cons (.v 0) .nil) .nil [1, 2]) .nil))) .nil)⟩
def F_box_rows : Fn := ⟨1, 9, [], (.cons (.tp [1, 2, 3] (.v 0)) (.cons (.set 4 (.op .add (.op .add (.op .add (.k (.str "box ")) (.bi .str (.cons (.v 1) .nil))) (.k (.str " "))) (.v 2))) (.cons (.ite (.cmp .eq (.v 2) (.k (.str "group"))) (.cons (.tp [5, 6, 7] (.v 3)) (.cons (.set 4 (.op .add (.op .add (.op .add (.op .add (.op .add (.v 4) (.k (.str " in"))) (.call 143 (.cons (.v 5) .nil))) (.k (.str " out"))) (.call 143 (.cons (.v 6) .nil))) (.k (.str " {")))) (.cons (.ret (.op .add (.op .add (.lst (.cons (.v 4) .nil)) (.lc false (.op .add (.k (.str "  ")) (.v 8)) (.nm 8) .seq (.cons (.call 146 (.cons (.v 7) .nil)) .nil) .nil [8])) (.lst (.cons (.k (.str "}")) .nil)))) .nil))) .nil) (.cons (.ite (.cmp .eq (.v 2) (.k (.str "words"))) (.cons (.ret (.lst (.cons (.op .add (.op .add (.op .add (.v 4) (.k (.str " \""))) (.v 3)) (.k (.str "\""))) .nil))) .nil) .nil) (.cons (.ite (.cmp .isnot (.v 3) (.k .non)) (.cons (.ret (.lst (.cons (.op .add (.op .add (.v 4) (.k (.str " "))) (.bi .str (.cons (.v 3) .nil))) .nil))) .nil) .nil) (.cons (.ret (.lst (.cons (.v 4) .nil))) .nil))))))⟩
def F_rows_of : Fn := ⟨1, 4, [1], (.cons (.setM 1 (.lst .nil)) (.cons (.for false (.nm 2) .seq (.cons (.ix (.v 0) (.k (.int 0))) .nil) (.cons (.ext 1 (.call 101 (.cons (.v 2) .nil))) .nil)) (.cons (.ret (.op .add (.v 1) (.lc false (.op .add (.k (.str "wire")) (.call 143 (.cons (.tup (.cons (.slB (.v 3) (.k (.int 2))) (.cons (.slA (.v 3) (.k (.int 2))) .nil))) .nil))) (.nm 3) .seq (.cons (.ix (.v 0) (.k (.int 1))) .nil) .nil [3]))) .nil)))⟩
def F_written : Fn := ⟨1, 2, [], (.cons (.ret (.mt .join (.k (.str "")) (.cons (.lc false (.op .add (.v 1) (.k (.str "\n"))) (.nm 1) .seq (.cons (.call 146 (.cons (.v 0) .nil)) .nil) .nil [1]) .nil))) .nil)⟩
def F_must : Fn := ⟨1, 1, [], (.cons (.ite (.not (.v 0)) (.cons (.raise 4) .nil) .nil) .nil)⟩
def F_number_in : Fn := ⟨1, 2, [], (.cons (.ex (.call 126 (.cons (.and (.chn .le .le (.k (.int 1)) (.bi .len (.cons (.v 0) .nil)) (.k (.int 3))) (.bi .all (.cons (.lc false (.cmp .«in» (.v 1) (.g 1)) (.nm 1) .str (.cons (.v 0) .nil) .nil [1]) .nil))) .nil))) (.cons (.ret (.bi .int (.cons (.v 0) .nil))) .nil))⟩
def F_port_in : Fn := ⟨1, 2, [], (.cons (.set 1 (.mt .split (.v 0) (.cons (.k (.str ".")) .nil))) (.cons (.ex (.call 126 (.cons (.cmp .eq (.bi .len (.cons (.v 1) .nil)) (.k (.int 2))) .nil))) (.cons (.ret (.tup (.cons (.call 132 (.cons (.ix (.v 1) (.k (.int 0))) .nil)) (.cons (.call 132 (.cons (.ix (.v 1) (.k (.int 1))) .nil)) .nil)))) .nil)))⟩
def F_ports_in : Fn := ⟨1, 2, [], (.cons (.ret (.bi .tup (.cons (.lc false (.call 140 (.cons (.v 1) .nil)) (.nm 1) .seq (.cons (.v 0) .nil) .nil [1]) .nil))) .nil)⟩
def F_setting_in : Fn := ⟨2, 2, [], (.cons (.ex (.call 126 (.cons (.cmp .lt (.bi .len (.cons (.v 1) .nil)) (.k (.int 2))) .nil))) (.cons (.ite (.not (.v 1)) (.cons (.ret (.k .non)) .nil) .nil) (.cons (.ite (.cmp .eq (.v 0) (.k (.str "words"))) (.cons (.ex (.call 126 (.cons (.and (.cmp .gt (.bi .len (.cons (.ix (.v 1) (.k (.int 0))) .nil)) (.k (.int 1))) (.and (.cmp .eq (.ix (.ix (.v 1) (.k (.int 0))) (.k (.int 0))) (.k (.str "\""))) (.cmp .eq (.ix (.ix (.v 1) (.k (.int 0))) (.neg (.k (.int 1)))) (.k (.str "\""))))) .nil))) (.cons (.ret (.slC (.ix (.v 1) (.k (.int 0))) (.k (.int 1)) (.neg (.k (.int 1))))) .nil)) .nil) (.cons (.ret (.call 132 (.cons (.ix (.v 1) (.k (.int 0))) .nil))) .nil))))⟩
-- F_read: expression Attribute
def F_law_rows : Fn := ⟨2, 15, [2], (.cons (.setM 2 (.lst .nil)) (.cons (.for false (.tp [3, 4, 5]) .seq (.cons (.ix (.v 0) (.k (.int 0))) .nil) (.cons (.set 6 (.op .add (.op .add (.op .add (.op .add (.op .mul (.k (.str "  ")) (.v 1)) (.k (.str "box "))) (.bi .str (.cons (.v 3) .nil))) (.k (.str " "))) (.v 4))) (.cons (.ite (.cmp .eq (.v 4) (.k (.str "group"))) (.cons (.tp [7, 8, 9] (.v 5)) (.cons (.set 6 (.op .add (.op .add (.v 6) (.k (.str " in"))) (.mt .join (.k (.str "")) (.cons (.lc false (.op .add (.op .add (.op .add (.k (.str " ")) (.bi .str (.cons (.v 10) .nil))) (.k (.str "."))) (.bi .str (.cons (.v 13) .nil))) (.tp [10, 13]) .seq (.cons (.v 7) .nil) .nil [10, 13]) .nil)))) (.cons (.set 6 (.op .add (.op .add (.v 6) (.k (.str " out"))) (.mt .join (.k (.str "")) (.cons (.lc false (.op .add (.op .add (.op .add (.k (.str " ")) (.bi .str (.cons (.v 10) .nil))) (.k (.str "."))) (.bi .str (.cons (.v 13) .nil))) (.tp [10, 13]) .seq (.cons (.v 8) .nil) .nil [10, 13]) .nil)))) (.cons (.setM 2 (.op .add (.op .add (.op .add (.v 2) (.lst (.cons (.op .add (.v 6) (.k (.str " {"))) .nil))) (.call 64 (.cons (.v 9) (.cons (.op .add (.v 1) (.k (.int 1))) .nil)))) (.lst (.cons (.op .add (.op .mul (.k (.str "  ")) (.v 1)) (.k (.str "}"))) .nil)))) .nil)))) (.cons (.ite (.cmp .eq (.v 4) (.k (.str "words"))) (.cons (.app 2 (.op .add (.op .add (.op .add (.v 6) (.k (.str " \""))) (.v 5)) (.k (.str "\"")))) .nil) (.cons (.ite (.cmp .«in» (.v 4) (.tup (.cons (.k (.str "const")) (.cons (.k (.str "late")) .nil)))) (.cons (.app 2 (.op .add (.op .add (.v 6) (.k (.str " "))) (.bi .str (.cons (.v 5) .nil)))) .nil) (.cons (.app 2 (.v 6)) .nil)) .nil)) .nil)) .nil))) (.cons (.for false (.tp [10, 11, 12, 13]) .seq (.cons (.ix (.v 0) (.k (.int 1))) .nil) (.cons (.set 14 (.lst (.cons (.op .add (.op .add (.bi .str (.cons (.v 10) .nil)) (.k (.str "."))) (.bi .str (.cons (.v 11) .nil))) (.cons (.op .add (.op .add (.bi .str (.cons (.v 12) .nil)) (.k (.str "."))) (.bi .str (.cons (.v 13) .nil))) .nil)))) (.cons (.app 2 (.op .add (.op .add (.op .mul (.k (.str "  ")) (.v 1)) (.k (.str "wire "))) (.mt .join (.k (.str " ")) (.cons (.v 14) .nil)))) .nil))) (.cons (.ret (.v 2)) .nil))))⟩
def F_law_written : Fn := ⟨1, 2, [], (.cons (.ret (.mt .join (.k (.str "")) (.cons (.lc false (.op .add (.v 1) (.k (.str "\n"))) (.nm 1) .seq (.cons (.call 64 (.cons (.v 0) (.cons (.k (.int 0)) .nil))) .nil) .nil [1]) .nil))) .nil)⟩
-- F_law_read: statement Try
def F_law_rows_2 : Fn := ⟨2, 15, [2], (.cons (.setM 2 (.lst .nil)) (.cons (.for false (.tp [3, 4, 5]) .seq (.cons (.ix (.v 0) (.k (.int 0))) .nil) (.cons (.set 6 (.op .add (.op .add (.op .add (.op .add (.op .mul (.k (.str "  ")) (.v 1)) (.k (.str "box "))) (.bi .str (.cons (.v 3) .nil))) (.k (.str " "))) (.v 4))) (.cons (.ite (.cmp .eq (.v 4) (.k (.str "group"))) (.cons (.tp [7, 8, 9] (.v 5)) (.cons (.set 6 (.op .add (.op .add (.v 6) (.k (.str " in"))) (.mt .join (.k (.str "")) (.cons (.lc false (.op .add (.op .add (.op .add (.k (.str " ")) (.bi .str (.cons (.v 10) .nil))) (.k (.str "."))) (.bi .str (.cons (.v 13) .nil))) (.tp [10, 13]) .seq (.cons (.v 7) .nil) .nil [10, 13]) .nil)))) (.cons (.set 6 (.op .add (.op .add (.v 6) (.k (.str " out"))) (.mt .join (.k (.str "")) (.cons (.lc false (.op .add (.op .add (.op .add (.k (.str " ")) (.bi .str (.cons (.v 10) .nil))) (.k (.str "."))) (.bi .str (.cons (.v 13) .nil))) (.tp [10, 13]) .seq (.cons (.v 8) .nil) .nil [10, 13]) .nil)))) (.cons (.setM 2 (.op .add (.op .add (.op .add (.v 2) (.lst (.cons (.op .add (.v 6) (.k (.str " {"))) .nil))) (.call 65 (.cons (.v 9) (.cons (.op .add (.v 1) (.k (.int 1))) .nil)))) (.lst (.cons (.op .add (.op .mul (.k (.str "  ")) (.v 1)) (.k (.str "}"))) .nil)))) .nil)))) (.cons (.ite (.cmp .eq (.v 4) (.k (.str "words"))) (.cons (.app 2 (.op .add (.op .add (.op .add (.v 6) (.k (.str " \""))) (.v 5)) (.k (.str "\"")))) .nil) (.cons (.ite (.cmp .«in» (.v 4) (.tup (.cons (.k (.str "const")) (.cons (.k (.str "late")) .nil)))) (.cons (.app 2 (.op .add (.op .add (.v 6) (.k (.str " "))) (.bi .str (.cons (.v 5) .nil)))) .nil) (.cons (.app 2 (.v 6)) .nil)) .nil)) .nil)) .nil))) (.cons (.for false (.tp [10, 11, 12, 13]) .seq (.cons (.ix (.v 0) (.k (.int 1))) .nil) (.cons (.set 14 (.lst (.cons (.op .add (.op .add (.bi .str (.cons (.v 10) .nil)) (.k (.str "."))) (.bi .str (.cons (.v 11) .nil))) (.cons (.op .add (.op .add (.bi .str (.cons (.v 12) .nil)) (.k (.str "."))) (.bi .str (.cons (.v 13) .nil))) .nil)))) (.cons (.app 2 (.op .add (.op .add (.op .mul (.k (.str "  ")) (.v 1)) (.k (.str "wire "))) (.mt .join (.k (.str " ")) (.cons (.v 14) .nil)))) .nil))) (.cons (.ret (.v 2)) .nil))))⟩
-- F_law_told_9: statement Try
def F_law_is_right : Fn := ⟨1, 2, [], (.cons (.set 1 (.call 82 (.cons (.v 0) .nil))) (.cons (.ite (.bi (.isi [.str]) (.cons (.v 1) .nil)) (.cons (.ret (.cmp .eq (.v 1) (.k (.str "no text")))) .nil) .nil) (.cons (.ret (.and (.cmp .is (.call 120 (.cons (.v 1) .nil)) (.k (.bl true))) (.cmp .eq (.call 92 (.cons (.v 1) .nil)) (.v 0)))) .nil)))⟩
def F_law_bad : Fn := ⟨0, 3, [], (.cons (.set 0 (.k (.str "box 1 const 5\nbox 2 add\n"))) (.cons (.set 1 (.lst (.cons (.k (.str "\n")) (.cons (.k (.str "box\n")) (.cons (.k (.str "box 1\n")) (.cons (.k (.str "box 1 add")) (.cons (.k (.str "box 1 add 5\n")) .nil))))))) (.cons (.set 1 (.op .add (.v 1) (.lst (.cons (.k (.str "box 0 add\n")) (.cons (.k (.str "box 1000 add\n")) (.cons (.k (.str "box 01 add\n")) (.cons (.k (.str "box 1 no\n")) (.cons (.k (.str " box 1 add\n")) .nil)))))))) (.cons (.set 1 (.op .add (.v 1) (.lst (.cons (.k (.str "box 1 add \n")) (.cons (.k (.str "box  1 add\n")) (.cons (.k (.str "box 1 const\n")) (.cons (.k (.str "box 1 const 1000\n")) .nil))))))) (.cons (.set 1 (.op .add (.v 1) (.lst (.cons (.k (.str "box 1 const -1\n")) (.cons (.k (.str "box 1 const 05\n")) (.cons (.k (.str "box 1 words a\n")) .nil)))))) (.cons (.set 1 (.op .add (.v 1) (.lst (.cons (.k (.str "box 1 words \"A\"\n")) (.cons (.k (.str "box 1 words \"abc\n")) (.cons (.k (.str "box 1 words \"\n")) .nil)))))) (.cons (.set 1 (.op .add (.v 1) (.lst (.cons (.k (.str "box 1 words \"a b\"\n")) (.cons (.k (.str "box 2 add\nbox 1 add\n")) (.cons (.op .add (.v 0) (.v 0)) .nil)))))) (.cons (.set 1 (.op .add (.v 1) (.lst (.cons (.op .add (.v 0) (.k (.str "wire 1.0 2.2\n"))) (.cons (.op .add (.v 0) (.k (.str "wire 1.1 2.0\n"))) (.cons (.op .add (.v 0) (.k (.str "wire 2.0 2.0\n"))) .nil)))))) (.cons (.set 1 (.op .add (.v 1) (.lst (.cons (.op .add (.v 0) (.op .mul (.k (.str "wire 1.0 2.0\n")) (.k (.int 2)))) (.cons (.op .add (.v 0) (.k (.str "wire 1.0\n"))) .nil))))) (.cons (.set 1 (.op .add (.v 1) (.lst (.cons (.op .add (.v 0) (.k (.str "wire 1.0 2.1\nwire 1.0 2.0\n"))) (.cons (.op .add (.k (.str "wire 1.0 2.0\n")) (.v 0)) .nil))))) (.cons (.set 1 (.op .add (.v 1) (.lst (.cons (.op .add (.v 0) (.k (.str "wire 1.0 2.0 \n"))) .nil)))) (.cons (.set 1 (.op .add (.v 1) (.lst (.cons (.op .add (.v 0) (.k (.str "wire 1.0  2.0\n"))) (.cons (.op .add (.v 0) (.k (.str "wire 1 2\n"))) .nil))))) (.cons (.set 1 (.op .add (.v 1) (.lst (.cons (.k (.str "box 1 group in out {\n")) (.cons (.k (.str "box 1 group in out\n}\n")) (.cons (.k (.str "box 1 group out in {\n}\n")) .nil)))))) (.cons (.set 1 (.op .add (.v 1) (.lst (.cons (.k (.str "box 1 group {\n}\n")) (.cons (.k (.str "box 1 group in out {\nbox 2 add\n}\n")) .nil))))) (.cons (.set 1 (.op .add (.v 1) (.lst (.cons (.k (.str "box 1 group in 2.0 out {\n}\n")) (.cons (.k (.str "box 1 group in out 2 {\n  box 2 add\n}\n")) .nil))))) (.cons (.set 1 (.op .add (.v 1) (.lst (.cons (.k (.str "box 1 group in out {\n  box 2 add\n }\n")) (.cons (.k (.str "}\n")) .nil))))) (.cons (.set 2 (.k (.str "box 1 group in out {\n  box 1 group in out {\n    box 1 group in out {\n    }\n  }\n}\n"))) (.cons (.set 1 (.op .add (.v 1) (.lst (.cons (.v 2) (.cons (.k (.str "box 1 group in out {\n  wire 1.0 2.0\n}\n")) .nil))))) (.cons (.set 1 (.op .add (.v 1) (.lst (.cons (.k (.str "box 1 group in out {\n}\n}\n")) .nil)))) (.cons (.ret (.op .add (.v 1) (.lst (.cons (.op .add (.v 0) (.k (.str "wire 1.0 2.0\nbox 3 add\n"))) .nil)))) .nil))))))))))))))))))))⟩
def F_law_changed : Fn := ⟨2, 8, [], (.cons (.set 2 (.call 40 (.cons (.v 1) (.cons (.k (.int 9817)) (.cons (.op .add (.bi .len (.cons (.v 0) .nil)) (.k (.int 1))) .nil))))) (.cons (.set 3 (.k (.str " \n.01259{}boxwireadglt\"-"))) (.cons (.set 4 (.ix (.v 3) (.call 40 (.cons (.v 1) (.cons (.k (.int 9811)) (.cons (.bi .len (.cons (.v 3) .nil)) .nil)))))) (.cons (.set 5 (.call 40 (.cons (.v 1) (.cons (.k (.int 9803)) (.cons (.k (.int 5)) .nil))))) (.cons (.set 6 (.mt .split (.v 0) (.cons (.k (.str "\n")) .nil))) (.cons (.set 7 (.call 40 (.cons (.v 1) (.cons (.k (.int 9791)) (.cons (.bi .len (.cons (.v 6) .nil)) .nil))))) (.cons (.ite (.cmp .eq (.v 5) (.k (.int 0))) (.cons (.ret (.op .add (.op .add (.slB (.v 0) (.v 2)) (.v 4)) (.slA (.v 0) (.v 2)))) .nil) .nil) (.cons (.ite (.cmp .eq (.v 5) (.k (.int 1))) (.cons (.ret (.op .add (.slB (.v 0) (.v 2)) (.slA (.v 0) (.op .add (.v 2) (.k (.int 1)))))) .nil) .nil) (.cons (.ite (.cmp .eq (.v 5) (.k (.int 2))) (.cons (.ret (.op .add (.op .add (.slB (.v 0) (.v 2)) (.v 4)) (.slA (.v 0) (.op .add (.v 2) (.k (.int 1)))))) .nil) .nil) (.cons (.ite (.cmp .eq (.v 5) (.k (.int 3))) (.cons (.ret (.mt .join (.k (.str "\n")) (.cons (.op .add (.slB (.v 6) (.v 7)) (.slA (.v 6) (.op .add (.v 7) (.k (.int 1))))) .nil))) .nil) .nil) (.cons (.ret (.mt .join (.k (.str "\n")) (.cons (.op .add (.op .add (.slB (.v 6) (.v 7)) (.slC (.v 6) (.v 7) (.op .add (.v 7) (.k (.int 1))))) (.slA (.v 6) (.v 7))) .nil))) .nil)))))))))))⟩
def F_done : Fn := ⟨2, 3, [], (.cons (.set 2 (.ix (.v 1) (.k (.int 0)))) (.cons (.ite (.cmp .eq (.v 2) (.k (.str "with_box"))) (.cons (.ret (.call 156 (.cons (.v 0) (.cons (.ix (.v 1) (.k (.int 1))) (.cons (.ix (.v 1) (.k (.int 2))) .nil))))) .nil) .nil) (.cons (.ite (.cmp .eq (.v 2) (.k (.str "without"))) (.cons (.ret (.call 159 (.cons (.v 0) (.cons (.ix (.v 1) (.k (.int 1))) .nil)))) .nil) .nil) (.cons (.ite (.cmp .eq (.v 2) (.k (.str "set_to"))) (.cons (.ret (.call 147 (.cons (.v 0) (.cons (.ix (.v 1) (.k (.int 1))) (.cons (.ix (.v 1) (.k (.int 2))) .nil))))) .nil) .nil) (.cons (.ite (.cmp .eq (.v 2) (.k (.str "wired"))) (.cons (.ret (.call 155 (.cons (.v 0) (.cons (.ix (.v 1) (.k (.int 1))) .nil)))) .nil) .nil) (.cons (.ite (.cmp .eq (.v 2) (.k (.str "unwired"))) (.cons (.ret (.call 153 (.cons (.v 0) (.cons (.ix (.v 1) (.k (.int 1))) .nil)))) .nil) .nil) (.cons (.ite (.cmp .eq (.v 2) (.k (.str "pasted"))) (.cons (.ret (.call 139 (.cons (.v 0) (.cons (.ix (.v 1) (.k (.int 1))) .nil)))) .nil) .nil) (.cons (.ite (.cmp .eq (.v 2) (.k (.str "doubled"))) (.cons (.ret (.call 105 (.cons (.v 0) (.cons (.ix (.v 1) (.k (.int 1))) .nil)))) .nil) .nil) (.cons (.ite (.cmp .eq (.v 2) (.k (.str "grouped"))) (.cons (.ret (.call 112 (.cons (.v 0) (.cons (.ix (.v 1) (.k (.int 1))) .nil)))) .nil) .nil) (.cons (.ret (.call 135 (.cons (.v 0) (.cons (.ix (.v 1) (.k (.int 1))) .nil)))) .nil))))))))))⟩
def F_law_plain : Fn := ⟨2, 4, [], (.cons (.tp [2, 3] (.tup (.cons (.ix (.v 1) (.k (.int 0))) (.cons (.slA (.v 1) (.k (.int 1))) .nil)))) (.cons (.ite (.cmp .eq (.v 2) (.k (.str "with_box"))) (.cons (.ret (.call 156 (.cons (.v 0) (.cons (.ix (.v 3) (.k (.int 0))) (.cons (.ix (.v 3) (.k (.int 1))) .nil))))) .nil) .nil) (.cons (.ite (.cmp .eq (.v 2) (.k (.str "set_to"))) (.cons (.ret (.call 147 (.cons (.v 0) (.cons (.ix (.v 3) (.k (.int 0))) (.cons (.ix (.v 3) (.k (.int 1))) .nil))))) .nil) .nil) (.cons (.ite (.cmp .eq (.v 2) (.k (.str "without"))) (.cons (.ret (.call 159 (.cons (.v 0) (.cons (.ix (.v 3) (.k (.int 0))) .nil)))) .nil) .nil) (.cons (.ite (.cmp .eq (.v 2) (.k (.str "wired"))) (.cons (.ret (.call 155 (.cons (.v 0) (.cons (.ix (.v 3) (.k (.int 0))) .nil)))) .nil) .nil) (.cons (.ite (.cmp .eq (.v 2) (.k (.str "unwired"))) (.cons (.ret (.call 153 (.cons (.v 0) (.cons (.ix (.v 3) (.k (.int 0))) .nil)))) .nil) .nil) (.cons (.ite (.cmp .eq (.v 2) (.k (.str "pasted"))) (.cons (.ret (.call 139 (.cons (.v 0) (.cons (.ix (.v 3) (.k (.int 0))) .nil)))) .nil) .nil) (.cons (.ite (.cmp .eq (.v 2) (.k (.str "doubled"))) (.cons (.ret (.call 105 (.cons (.v 0) (.cons (.ix (.v 3) (.k (.int 0))) .nil)))) .nil) .nil) (.cons (.ret (.ite (.cmp .eq (.v 2) (.k (.str "grouped"))) (.call 112 (.cons (.v 0) (.cons (.ix (.v 3) (.k (.int 0))) .nil))) (.call 135 (.cons (.v 0) (.cons (.ix (.v 3) (.k (.int 0))) .nil))))) .nil)))))))))⟩
-- F_law_told_10: statement Try
def F_law_deed : Fn := ⟨2, 9, [], (.cons (.set 2 (.op .add (.lc false (.ix (.v 8) (.k (.int 0))) (.nm 8) .seq (.cons (.ix (.v 1) (.k (.int 0))) .nil) .nil [8]) (.lst (.cons (.k (.int 900)) .nil)))) (.cons (.set 3 (.ix (.v 2) (.call 40 (.cons (.v 0) (.cons (.k (.int 9787)) (.cons (.bi .len (.cons (.v 2) .nil)) .nil)))))) (.cons (.set 4 (.call 40 (.cons (.v 0) (.cons (.k (.int 9781)) (.cons (.k (.int 11)) .nil))))) (.cons (.set 5 (.op .add (.call 23 (.cons (.op .add (.v 0) (.k (.int 1))) (.cons (.v 1) .nil))) (.op .mul (.tup (.cons (.k (.int 900)) .nil)) (.bi .int (.cons (.cmp .eq (.op .mod (.v 0) (.k (.int 9))) (.k (.int 0))) .nil))))) (.cons (.ite (.cmp .eq (.v 4) (.k (.int 0))) (.cons (.ret (.tup (.cons (.k (.str "with_box")) (.cons (.k (.str "const")) (.cons (.call 40 (.cons (.v 0) (.cons (.k (.int 9769)) (.cons (.k (.int 1000)) .nil)))) .nil))))) .nil) .nil) (.cons (.ite (.cmp .eq (.v 4) (.k (.int 1))) (.cons (.set 6 (.lc false (.v 8) (.nm 8) .seq (.cons (.ix (.v 1) (.k (.int 0))) .nil) (.cons (.cmp .«in» (.ix (.v 8) (.k (.int 1))) (.tup (.cons (.k (.str "const")) (.cons (.k (.str "late")) .nil)))) .nil) [8])) (.cons (.ret (.ite (.v 6) (.tup (.cons (.k (.str "set_to")) (.cons (.ix (.ix (.v 6) (.k (.int 0))) (.k (.int 0))) (.cons (.k (.int 7)) .nil)))) (.tup (.cons (.k (.str "set_to")) (.cons (.k (.int 900)) (.cons (.k (.int 7)) .nil)))))) .nil)) .nil) (.cons (.ite (.cmp .eq (.v 4) (.k (.int 2))) (.cons (.set 7 (.ix (.v 2) (.call 40 (.cons (.v 0) (.cons (.k (.int 9749)) (.cons (.bi .len (.cons (.v 2) .nil)) .nil)))))) (.cons (.ret (.tup (.cons (.k (.str "wired")) (.cons (.tup (.cons (.v 3) (.cons (.call 40 (.cons (.v 0) (.cons (.k (.int 9767)) (.cons (.k (.int 2)) .nil)))) (.cons (.v 7) (.cons (.call 40 (.cons (.v 0) (.cons (.k (.int 9743)) (.cons (.k (.int 3)) .nil)))) .nil))))) .nil)))) .nil)) .nil) (.cons (.ite (.cmp .eq (.v 4) (.k (.int 3))) (.cons (.ret (.tup (.cons (.k (.str "unwired")) (.cons (.ix (.op .add (.ix (.v 1) (.k (.int 1))) (.tup (.cons (.tup (.cons (.k (.int 900)) (.cons (.k (.int 0)) (.cons (.k (.int 1)) (.cons (.k (.int 0)) .nil))))) .nil))) (.call 40 (.cons (.v 0) (.cons (.k (.int 9739)) (.cons (.op .add (.bi .len (.cons (.ix (.v 1) (.k (.int 1))) .nil)) (.k (.int 1))) .nil))))) .nil)))) .nil) .nil) (.cons (.ite (.cmp .lt (.v 4) (.k (.int 7))) (.cons (.ret (.ix (.tup (.cons (.tup .nil) (.cons (.tup .nil) (.cons (.tup .nil) (.cons (.tup .nil) (.cons (.tup (.cons (.k (.str "without")) (.cons (.v 5) .nil))) (.cons (.tup (.cons (.k (.str "doubled")) (.cons (.v 5) .nil))) (.cons (.tup (.cons (.k (.str "grouped")) (.cons (.v 5) .nil))) .nil)))))))) (.v 4))) .nil) .nil) (.cons (.ite (.cmp .eq (.v 4) (.k (.int 7))) (.cons (.ret (.tup (.cons (.k (.str "pasted")) (.cons (.call 72 (.cons (.v 0) (.cons (.k (.int 2)) .nil))) .nil)))) .nil) .nil) (.cons (.ret (.ix (.tup (.cons (.tup (.cons (.k (.str "opened")) (.cons (.v 3) .nil))) (.cons (.tup (.cons (.k (.str "back")) .nil)) (.cons (.tup (.cons (.k (.str "forth")) .nil)) .nil)))) (.op .sub (.v 4) (.k (.int 8))))) .nil)))))))))))⟩
def F_law_next : Fn := ⟨2, 9, [], (.cons (.set 2 (.ix (.v 1) (.k (.int 0)))) (.cons (.set 3 (.call 40 (.cons (.v 0) (.cons (.k (.int 9733)) (.cons (.k (.int 4)) .nil))))) (.cons (.ite (.or (.cmp .eq (.v 3) (.k (.int 0))) (.or (.not (.v 2)) (.cmp .gt (.bi .len (.cons (.v 2) .nil)) (.k (.int 7))))) (.cons (.set 4 (.ix (.tup (.cons (.k (.str "add")) (.cons (.k (.str "late")) (.cons (.k (.str "const")) .nil)))) (.call 40 (.cons (.v 0) (.cons (.k (.int 9721)) (.cons (.k (.int 3)) .nil)))))) (.cons (.ret (.ite (.cmp .lt (.bi .len (.cons (.v 2) .nil)) (.k (.int 3))) (.tup (.cons (.k (.str "with_box")) (.cons (.v 4) (.cons (.k .non) .nil)))) (.tup (.cons (.k (.str "doubled")) (.cons (.tup .nil) .nil))))) .nil)) .nil) (.cons (.ite (.cmp .eq (.v 3) (.k (.int 1))) (.cons (.ret (.tup (.cons (.k (.str "grouped")) (.cons (.tup (.cons (.ix (.ix (.v 2) (.call 40 (.cons (.v 0) (.cons (.k (.int 9719)) (.cons (.bi .len (.cons (.v 2) .nil)) .nil))))) (.k (.int 0))) .nil)) .nil)))) .nil) .nil) (.cons (.set 5 (.lc false (.v 8) (.nm 8) .seq (.cons (.v 2) .nil) (.cons (.ix (.call 30 (.cons (.v 8) .nil)) (.k (.int 1))) .nil) [8])) (.cons (.ite (.v 5) (.cons (.set 6 (.ix (.ix (.v 5) (.call 40 (.cons (.v 0) (.cons (.k (.int 9697)) (.cons (.bi .len (.cons (.v 5) .nil)) .nil))))) (.k (.int 0)))) (.cons (.set 7 (.call 111 (.cons (.v 1) (.cons (.v 6) (.cons (.k (.int 0)) .nil))))) (.cons (.ite (.v 7) (.cons (.ret (.tup (.cons (.k (.str "wired")) (.cons (.op .add (.tup (.cons (.v 6) (.cons (.k (.int 0)) .nil))) (.ix (.v 7) (.call 40 (.cons (.v 0) (.cons (.k (.int 9689)) (.cons (.bi .len (.cons (.v 7) .nil)) .nil)))))) .nil)))) .nil) .nil) .nil))) .nil) (.cons (.ret (.tup (.cons (.k (.str "without")) (.cons (.tup .nil) .nil)))) .nil)))))))⟩
def F_law_others_2 : Fn := ⟨3, 6, [], (.cons (.tp [3, 4] (.tup (.cons (.bi .dict (.cons (.call 161 (.cons (.v 0) (.cons (.v 2) .nil))) .nil)) (.cons (.bi .dict (.cons (.call 161 (.cons (.v 1) (.cons (.v 2) .nil))) .nil)) .nil)))) (.cons (.ret (.lc false (.ix (.v 5) (.k (.int 0))) (.nm 5) .keys (.cons (.v 3) .nil) (.cons (.cmp .ne (.ix (.v 3) (.v 5)) (.ix (.v 4) (.v 5))) .nil) [5])) .nil))⟩
-- F_law_lives: method steps
-- F_law_wired: statement Try
def F_law_is_right_2 : Fn := ⟨4, 7, [], (.cons (.set 4 (.call 87 (.cons (.v 0) (.cons (.v 1) .nil)))) (.cons (.ite (.cmp .nin (.slA (.v 1) (.k (.int 2))) (.v 2)) (.cons (.ret (.cmp .eq (.v 4) (.ite (.v 3) (.k (.str "ring")) (.k (.str "kind"))))) .nil) .nil) (.cons (.ite (.or (.not (.v 3)) (.or (.bi (.isi [.str]) (.cons (.v 4) .nil)) (.or (.cmp .isnot (.call 120 (.cons (.v 4) .nil)) (.k (.bl true))) (.cmp .ne (.ix (.v 4) (.k (.int 0))) (.ix (.v 0) (.k (.int 0))))))) (.cons (.ret (.k (.bl false))) .nil) .nil) (.cons (.set 5 (.lc false (.v 6) (.nm 6) .seq (.cons (.ix (.v 0) (.k (.int 1))) .nil) (.cons (.cmp .ne (.slA (.v 6) (.k (.int 2))) (.slA (.v 1) (.k (.int 2)))) .nil) [6])) (.cons (.ret (.and (.cmp .eq (.bi .lst (.cons (.ix (.v 4) (.k (.int 1))) .nil)) (.bi .sorted (.cons (.op .add (.v 5) (.lst (.cons (.v 1) .nil))) .nil))) (.cmp .eq (.bi .lst (.cons (.ix (.call 153 (.cons (.v 4) (.cons (.v 1) .nil))) (.k (.int 1))) .nil)) (.v 5)))) .nil)))))⟩
def F_law_kinds_3 : Fn := ⟨1, 14, [], (.cons (.set 1 (.ix (.v 0) (.k (.int 1)))) (.cons (.ite (.cmp .eq (.v 1) (.k (.str "group"))) (.cons (.tp [2, 3, 4] (.ix (.v 0) (.k (.int 2)))) (.cons (.set 5 (.bi .dict (.cons (.lc false (.tup (.cons (.ix (.v 13) (.k (.int 0))) (.cons (.v 13) .nil))) (.nm 13) .seq (.cons (.ix (.v 4) (.k (.int 0))) .nil) .nil [13]) .nil))) (.cons (.set 6 (.lc false (.ix (.ix (.call 32 (.cons (.ix (.v 5) (.v 11)) .nil)) (.k (.int 0))) (.v 12)) (.tp [11, 12]) .seq (.cons (.v 2) .nil) .nil [11, 12])) (.cons (.ret (.tup (.cons (.bi .tup (.cons (.v 6) .nil)) (.cons (.bi .tup (.cons (.lc false (.ix (.ix (.call 32 (.cons (.ix (.v 5) (.v 11)) .nil)) (.k (.int 1))) (.v 12)) (.tp [11, 12]) .seq (.cons (.v 3) .nil) .nil [11, 12]) .nil)) .nil)))) .nil)))) .nil) (.cons (.tp [7, 8, 9] (.tup (.cons (.k (.str "number")) (.cons (.k (.str "text")) (.cons (.k (.str "truth")) .nil))))) (.cons (.set 6 (.dct ["add", "less", "pick", "text", "glue", "size", "late"] (.cons (.tup (.cons (.v 7) (.cons (.v 7) .nil))) (.cons (.tup (.cons (.v 7) (.cons (.v 7) .nil))) (.cons (.tup (.cons (.v 9) (.cons (.v 7) (.cons (.v 7) .nil)))) (.cons (.tup (.cons (.v 7) .nil)) (.cons (.tup (.cons (.v 8) (.cons (.v 8) .nil))) (.cons (.tup (.cons (.v 8) .nil)) (.cons (.tup (.cons (.v 7) .nil)) .nil))))))))) (.cons (.set 10 (.dct ["words", "less", "text", "glue"] (.cons (.tup (.cons (.v 8) .nil)) (.cons (.tup (.cons (.v 9) .nil)) (.cons (.tup (.cons (.v 8) .nil)) (.cons (.tup (.cons (.v 8) .nil)) .nil)))))) (.cons (.ret (.tup (.cons (.mt .get (.v 6) (.cons (.v 1) (.cons (.tup .nil) .nil))) (.cons (.mt .get (.v 10) (.cons (.v 1) (.cons (.tup (.cons (.v 7) .nil)) .nil))) .nil)))) .nil))))))⟩
def F_law_come : Fn := ⟨3, 10, [4], (.cons (.set 3 (.dct ["number", "text", "truth"] (.cons (.k (.int 0)) (.cons (.k (.str "")) (.cons (.k (.bl false)) .nil))))) (.cons (.setM 4 (.lc false (.ix (.v 3) (.v 9)) (.nm 9) .seq (.cons (.ix (.call 32 (.cons (.v 1) .nil)) (.k (.int 0))) .nil) .nil [9])) (.cons (.for false (.tp [5, 6, 7, 8]) .seq (.cons (.ix (.v 0) (.k (.int 1))) .nil) (.cons (.ite (.cmp .eq (.v 7) (.ix (.v 1) (.k (.int 0)))) (.cons (.put 4 (.v 8) (.ix (.v 2) (.tup (.cons (.v 5) (.cons (.v 6) .nil))))) .nil) .nil) .nil)) (.cons (.ret (.v 4)) .nil))))⟩
def F_law_gives : Fn := ⟨2, 4, [], (.cons (.tp [2, 3] (.slA (.v 0) (.k (.int 1)))) (.cons (.ite (.cmp .«in» (.v 2) (.tup (.cons (.k (.str "const")) (.cons (.k (.str "words")) .nil)))) (.cons (.ret (.v 3)) .nil) .nil) (.cons (.ite (.cmp .eq (.v 2) (.k (.str "add"))) (.cons (.ret (.op .mod (.op .add (.ix (.v 1) (.k (.int 0))) (.ix (.v 1) (.k (.int 1)))) (.k (.int 1000)))) .nil) .nil) (.cons (.ite (.cmp .eq (.v 2) (.k (.str "less"))) (.cons (.ret (.cmp .lt (.ix (.v 1) (.k (.int 0))) (.ix (.v 1) (.k (.int 1))))) .nil) .nil) (.cons (.ite (.cmp .eq (.v 2) (.k (.str "pick"))) (.cons (.ret (.ite (.ix (.v 1) (.k (.int 0))) (.ix (.v 1) (.k (.int 1))) (.ix (.v 1) (.k (.int 2))))) .nil) .nil) (.cons (.ite (.cmp .eq (.v 2) (.k (.str "glue"))) (.cons (.ret (.slB (.op .add (.ix (.v 1) (.k (.int 0))) (.ix (.v 1) (.k (.int 1)))) (.k (.int 20)))) .nil) .nil) (.cons (.ret (.ite (.cmp .eq (.v 2) (.k (.str "text"))) (.bi .str (.cons (.ix (.v 1) (.k (.int 0))) .nil)) (.bi .len (.cons (.ix (.v 1) (.k (.int 0))) .nil)))) .nil)))))))⟩
def F_law_are_kept_2 : Fn := ⟨4, 8, [], (.cons (.tp [4, 5] (.tup (.cons (.bi .dict (.cons (.call 161 (.cons (.v 0) (.cons (.v 3) .nil))) .nil)) (.cons (.bi .dict (.cons (.call 161 (.cons (.v 1) (.cons (.v 3) .nil))) .nil)) .nil)))) (.cons (.set 6 (.lc false (.v 7) (.nm 7) .keys (.cons (.v 4) .nil) (.cons (.cmp .nin (.ix (.v 7) (.k (.int 0))) (.v 2)) .nil) [7])) (.cons (.ret (.cmp .eq (.lc false (.v 7) (.nm 7) .seq (.cons (.v 6) .nil) (.cons (.cmp .ne (.ix (.v 5) (.v 7)) (.ix (.v 4) (.v 7))) .nil) [7]) (.lst .nil))) .nil)))⟩
def F_law_plain_2 : Fn := ⟨2, 4, [], (.cons (.tp [2, 3] (.tup (.cons (.ix (.v 1) (.k (.int 0))) (.cons (.slA (.v 1) (.k (.int 1))) .nil)))) (.cons (.ite (.cmp .eq (.v 2) (.k (.str "with_box"))) (.cons (.ret (.call 156 (.cons (.v 0) (.cons (.ix (.v 3) (.k (.int 0))) (.cons (.ix (.v 3) (.k (.int 1))) .nil))))) .nil) .nil) (.cons (.ite (.cmp .eq (.v 2) (.k (.str "set_to"))) (.cons (.ret (.call 147 (.cons (.v 0) (.cons (.ix (.v 3) (.k (.int 0))) (.cons (.ix (.v 3) (.k (.int 1))) .nil))))) .nil) .nil) (.cons (.ite (.cmp .eq (.v 2) (.k (.str "without"))) (.cons (.ret (.call 159 (.cons (.v 0) (.cons (.ix (.v 3) (.k (.int 0))) .nil)))) .nil) .nil) (.cons (.ite (.cmp .eq (.v 2) (.k (.str "wired"))) (.cons (.ret (.call 155 (.cons (.v 0) (.cons (.ix (.v 3) (.k (.int 0))) .nil)))) .nil) .nil) (.cons (.ite (.cmp .eq (.v 2) (.k (.str "unwired"))) (.cons (.ret (.call 153 (.cons (.v 0) (.cons (.ix (.v 3) (.k (.int 0))) .nil)))) .nil) .nil) (.cons (.ite (.cmp .eq (.v 2) (.k (.str "pasted"))) (.cons (.ret (.call 139 (.cons (.v 0) (.cons (.ix (.v 3) (.k (.int 0))) .nil)))) .nil) .nil) (.cons (.ite (.cmp .eq (.v 2) (.k (.str "doubled"))) (.cons (.ret (.call 105 (.cons (.v 0) (.cons (.ix (.v 3) (.k (.int 0))) .nil)))) .nil) .nil) (.cons (.ret (.ite (.cmp .eq (.v 2) (.k (.str "grouped"))) (.call 112 (.cons (.v 0) (.cons (.ix (.v 3) (.k (.int 0))) .nil))) (.call 135 (.cons (.v 0) (.cons (.ix (.v 3) (.k (.int 0))) .nil))))) .nil)))))))))⟩
-- F_law_done: statement Try
-- F_law_due_2: statement Try
def F_is_late : Fn := ⟨2, 2, [], (.cons (.ret (.cmp .eq (.ix (.call 100 (.cons (.v 0) (.cons (.v 1) .nil))) (.k (.int 1))) (.k (.str "late")))) .nil)⟩
def F_fixed : Fn := ⟨1, 5, [], (.cons (.set 1 (.lc false (.ix (.v 2) (.k (.int 0))) (.nm 2) .seq (.cons (.ix (.v 0) (.k (.int 0))) .nil) .nil [2])) (.cons (.ret (.bi .tup (.cons (.lc false (.v 3) (.nm 3) .seq (.cons (.v 1) .nil) (.cons (.not (.bi .any (.cons (.lc false (.call 117 (.cons (.v 0) (.cons (.v 4) .nil))) (.nm 4) .seq (.cons (.call 129 (.cons (.v 0) (.cons (.v 3) .nil))) .nil) .nil [4]) .nil))) .nil) [3]) .nil))) .nil))⟩
def F_folded_box : Fn := ⟨2, 4, [], (.cons (.ite (.not (.ix (.call 141 (.cons (.v 1) .nil)) (.k (.int 0)))) (.cons (.ret (.v 1)) .nil) .nil) (.cons (.set 2 (.call 160 (.cons (.v 0) (.cons (.ix (.v 1) (.k (.int 0))) (.cons (.k (.int 0)) (.cons (.k (.int 0)) .nil)))))) (.cons (.set 3 (.ix (.ix (.call 141 (.cons (.v 1) .nil)) (.k (.int 1))) (.k (.int 0)))) (.cons (.ite (.cmp .eq (.v 3) (.k (.str "number"))) (.cons (.ret (.tup (.cons (.ix (.v 1) (.k (.int 0))) (.cons (.k (.str "const")) (.cons (.v 2) .nil))))) .nil) .nil) (.cons (.ite (.and (.cmp .eq (.v 3) (.k (.str "text"))) (.call 119 (.cons (.k (.str "words")) (.cons (.v 2) .nil)))) (.cons (.ret (.tup (.cons (.ix (.v 1) (.k (.int 0))) (.cons (.k (.str "words")) (.cons (.v 2) .nil))))) .nil) .nil) (.cons (.ret (.v 1)) .nil))))))⟩
def F_folded : Fn := ⟨1, 6, [], (.cons (.set 1 (.call 107 (.cons (.v 0) .nil))) (.cons (.set 2 (.lc false (.ite (.cmp .«in» (.ix (.v 4) (.k (.int 0))) (.v 1)) (.call 110 (.cons (.v 0) (.cons (.v 4) .nil))) (.v 4)) (.nm 4) .seq (.cons (.ix (.v 0) (.k (.int 0))) .nil) .nil [4])) (.cons (.set 3 (.lc false (.ix (.v 4) (.k (.int 0))) (.nm 4) .seq (.cons (.v 2) .nil) (.cons (.cmp .nin (.v 4) (.ix (.v 0) (.k (.int 0)))) .nil) [4])) (.cons (.ret (.tup (.cons (.bi .tup (.cons (.v 2) .nil)) (.cons (.bi .tup (.cons (.lc false (.v 5) (.nm 5) .seq (.cons (.ix (.v 0) (.k (.int 1))) .nil) (.cons (.cmp .nin (.ix (.v 5) (.k (.int 2))) (.v 3)) .nil) [5]) .nil)) .nil)))) .nil))))⟩
def F_law_late : Fn := ⟨1, 2, [], (.cons (.ret (.lc false (.ix (.v 1) (.k (.int 0))) (.nm 1) .seq (.cons (.ix (.v 0) (.k (.int 0))) .nil) (.cons (.cmp .eq (.ix (.v 1) (.k (.int 1))) (.k (.str "late"))) .nil) [1])) .nil)⟩
-- F_law_wanted: par of changed: _law_found, _law_left = ([], list(_law_ids))
def F_law_to : Fn := ⟨2, 3, [], (.cons (.ret (.lc false (.v 2) (.nm 2) .seq (.cons (.ix (.v 0) (.k (.int 1))) .nil) (.cons (.cmp .eq (.ix (.v 2) (.k (.int 2))) (.v 1)) .nil) [2])) .nil)⟩
def F_law_may_fold : Fn := ⟨2, 5, [], (.cons (.tp [2, 3] (.call 30 (.cons (.v 0) .nil))) (.cons (.ite (.or (.cmp .eq (.v 2) (.tup .nil)) (.cmp .eq (.ix (.v 3) (.k (.int 0))) (.k (.str "truth")))) (.cons (.ret (.k (.bl false))) .nil) .nil) (.cons (.ret (.or (.cmp .eq (.ix (.v 3) (.k (.int 0))) (.k (.str "number"))) (.and (.cmp .le (.bi .len (.cons (.v 1) .nil)) (.k (.int 8))) (.cmp .eq (.lc false (.v 4) (.nm 4) .seq (.cons (.v 1) .nil) (.cons (.not (.chn .le .le (.k (.str "a")) (.v 4) (.k (.str "z")))) .nil) [4]) (.lst .nil))))) .nil)))⟩
def F_pruned : Fn := ⟨2, 5, [2], (.cons (.ex (.call 127 (.cons (.v 0) (.cons (.v 1) .nil)))) (.cons (.setM 2 (.dct [] .nil)) (.cons (.for false (.nm 3) .seq (.cons (.v 1) .nil) (.cons (.for false (.nm 4) .seq (.cons (.call 129 (.cons (.v 0) (.cons (.v 3) .nil))) .nil) (.cons (.put 2 (.v 4) (.k (.bl true))) .nil)) .nil)) (.cons (.ret (.call 102 (.cons (.v 0) (.cons (.bi .tup (.cons (.bi .sorted (.cons (.v 2) .nil)) .nil)) .nil)))) .nil))))⟩
-- F_law_wanted_2: par of changed: _law_found, _law_left = ([], list(_law_ids_here))
-- F_law_refused: statement Try
def F_sources : Fn := ⟨2, 6, [], (.cons (.ret (.bi .sorted (.cons (.lc false (.tup (.cons (.v 5) (.cons (.v 2) (.cons (.v 3) .nil)))) (.tp [2, 3, 4, 5]) .seq (.cons (.ix (.v 0) (.k (.int 1))) .nil) (.cons (.cmp .eq (.v 4) (.v 1)) .nil) [2, 3, 4, 5]) .nil))) .nil)⟩
def F_alike_pair : Fn := ⟨1, 4, [], (.cons (.for false (.tp [1, 2]) .enu (.cons (.ix (.v 0) (.k (.int 0))) .nil) (.cons (.for false (.nm 3) .seq (.cons (.slA (.ix (.v 0) (.k (.int 0))) (.op .add (.v 1) (.k (.int 1)))) .nil) (.cons (.ite (.and (.cmp .eq (.slA (.v 2) (.k (.int 1))) (.slA (.v 3) (.k (.int 1)))) (.cmp .eq (.call 150 (.cons (.v 0) (.cons (.ix (.v 2) (.k (.int 0))) .nil))) (.call 150 (.cons (.v 0) (.cons (.ix (.v 3) (.k (.int 0))) .nil))))) (.cons (.ret (.tup (.cons (.ix (.v 2) (.k (.int 0))) (.cons (.ix (.v 3) (.k (.int 0))) .nil)))) .nil) .nil) .nil)) .nil)) (.cons (.ret (.k .non)) .nil))⟩
def F_merged : Fn := ⟨1, 6, [], (.cons (.set 1 (.call 94 (.cons (.v 0) .nil))) (.cons (.while (.cmp .isnot (.v 1) (.k .non)) (.cons (.tp [2, 3] (.v 1)) (.cons (.set 4 (.lc false (.ite (.cmp .eq (.ix (.v 5) (.k (.int 0))) (.v 3)) (.op .add (.tup (.cons (.v 2) .nil)) (.slA (.v 5) (.k (.int 1)))) (.v 5)) (.nm 5) .seq (.cons (.ix (.v 0) (.k (.int 1))) .nil) (.cons (.cmp .ne (.ix (.v 5) (.k (.int 2))) (.v 3)) .nil) [5])) (.cons (.set 0 (.tup (.cons (.ix (.call 159 (.cons (.v 0) (.cons (.tup (.cons (.v 3) .nil)) .nil))) (.k (.int 0))) (.cons (.bi .tup (.cons (.bi .sorted (.cons (.v 4) .nil)) .nil)) .nil)))) (.cons (.set 1 (.call 94 (.cons (.v 0) .nil))) .nil))))) (.cons (.ret (.v 0)) .nil)))⟩
def F_law_from : Fn := ⟨2, 6, [], (.cons (.ret (.bi .sorted (.cons (.lc false (.tup (.cons (.v 5) (.cons (.v 2) (.cons (.v 3) .nil)))) (.tp [2, 3, 4, 5]) .seq (.cons (.ix (.v 0) (.k (.int 1))) .nil) (.cons (.cmp .eq (.v 4) (.v 1)) .nil) [2, 3, 4, 5]) .nil))) .nil)⟩
def F_law_merged : Fn := ⟨1, 12, [], (.cons (.tp [1, 2] (.tup (.cons (.bi .lst (.cons (.ix (.v 0) (.k (.int 0))) .nil)) (.cons (.bi .lst (.cons (.ix (.v 0) (.k (.int 1))) .nil)) .nil)))) (.cons (.set 3 (.k (.bl true))) (.cons (.while (.v 3) (.cons (.set 3 (.k (.bl false))) (.cons (.for false (.tp [4, 5]) .enu (.cons (.v 1) .nil) (.cons (.for false (.nm 6) .seq (.cons (.slA (.v 1) (.op .add (.v 4) (.k (.int 1)))) .nil) (.cons (.set 7 (.tup (.cons (.bi .tup (.cons (.v 1) .nil)) (.cons (.bi .tup (.cons (.v 2) .nil)) .nil)))) (.cons (.ite (.and (.not (.v 3)) (.and (.cmp .eq (.slA (.v 5) (.k (.int 1))) (.slA (.v 6) (.k (.int 1)))) (.cmp .eq (.call 20 (.cons (.v 7) (.cons (.ix (.v 5) (.k (.int 0))) .nil))) (.call 20 (.cons (.v 7) (.cons (.ix (.v 6) (.k (.int 0))) .nil)))))) (.cons (.tp [3, 8] (.tup (.cons (.k (.bl true)) (.cons (.tup (.cons (.ix (.v 5) (.k (.int 0))) (.cons (.ix (.v 6) (.k (.int 0))) .nil))) .nil)))) .nil) .nil) .nil))) .nil)) (.cons (.ite (.v 3) (.cons (.set 1 (.lc false (.v 10) (.nm 10) .seq (.cons (.v 1) .nil) (.cons (.cmp .ne (.ix (.v 10) (.k (.int 0))) (.ix (.v 8) (.k (.int 1)))) .nil) [10])) (.cons (.set 9 (.lc false (.v 11) (.nm 11) .seq (.cons (.v 2) .nil) (.cons (.cmp .ne (.ix (.v 11) (.k (.int 2))) (.ix (.v 8) (.k (.int 1)))) .nil) [11])) (.cons (.set 2 (.bi .sorted (.cons (.lc false (.ite (.cmp .eq (.ix (.v 11) (.k (.int 0))) (.ix (.v 8) (.k (.int 1)))) (.op .add (.tup (.cons (.ix (.v 8) (.k (.int 0))) .nil)) (.slA (.v 11) (.k (.int 1)))) (.v 11)) (.nm 11) .seq (.cons (.v 9) .nil) .nil [11]) .nil))) .nil))) .nil) .nil)))) (.cons (.ret (.tup (.cons (.bi .tup (.cons (.v 1) .nil)) (.cons (.bi .tup (.cons (.v 2) .nil)) .nil)))) .nil))))⟩
def F_wall : Fn := ⟨1, 1, [], (.cons (.while (.k (.bl true)) (.cons .pass .nil)) .nil)⟩
-- F_law_worth_of: a parameter is changed: _law_known
def F_law_later : Fn := ⟨2, 6, [2], (.cons (.setM 2 (.dct [] .nil)) (.cons (.for false (.nm 3) .keys (.cons (.v 1) .nil) (.cons (.set 4 (.lc false (.ix (.v 5) (.k (.int 0))) (.nm 5) .seq (.cons (.ix (.v 0) (.k (.int 1))) .nil) (.cons (.cmp .eq (.ix (.v 5) (.k (.int 2))) (.v 3)) .nil) [5])) (.cons (.put 2 (.v 3) (.ite (.cmp .ne (.v 4) (.lst .nil)) (.call 90 (.cons (.v 0) (.cons (.ix (.v 4) (.k (.int 0))) (.cons (.v 1) (.cons (.dct [] .nil) .nil))))) (.k (.int 0)))) .nil))) (.cons (.ret (.v 2)) .nil)))⟩
def F_law_probe_deed : Fn := ⟨2, 5, [], (.cons (.set 2 (.op .add (.op .add (.lc false (.ix (.v 4) (.k (.int 0))) (.nm 4) .seq (.cons (.ix (.v 1) (.k (.int 0))) .nil) (.cons (.cmp .eq (.ix (.v 4) (.k (.int 1))) (.k (.str "late"))) .nil) [4]) (.slB (.lc false (.ix (.v 4) (.k (.int 0))) (.nm 4) .seq (.cons (.ix (.v 1) (.k (.int 0))) .nil) .nil [4]) (.k (.int 1)))) (.lst (.cons (.k (.int 900)) .nil)))) (.cons (.set 3 (.call 40 (.cons (.v 0) (.cons (.k (.int 9413)) (.cons (.k (.int 10)) .nil))))) (.cons (.ite (.cmp .lt (.v 3) (.k (.int 4))) (.cons (.ret (.tup (.cons (.k (.str "tick")) .nil))) .nil) .nil) (.cons (.ite (.cmp .lt (.v 3) (.k (.int 7))) (.cons (.ret (.tup (.cons (.k (.str "poke")) (.cons (.ix (.v 2) (.call 40 (.cons (.v 0) (.cons (.k (.int 9403)) (.cons (.bi .len (.cons (.v 2) .nil)) .nil))))) (.cons (.call 40 (.cons (.v 0) (.cons (.k (.int 9397)) (.cons (.k (.int 1000)) .nil)))) .nil))))) .nil) .nil) (.cons (.ret (.ix (.tup (.cons (.tup (.cons (.k (.str "back")) .nil)) (.cons (.tup (.cons (.k (.str "back")) .nil)) (.cons (.tup (.cons (.k (.str "forth")) .nil)) .nil)))) (.op .sub (.v 3) (.k (.int 7))))) .nil)))))⟩
-- F_law_probed: statement Try
-- F_law_refusal: statement Try
def F_law_next_2 : Fn := ⟨3, 5, [3], (.cons (.ite (.cmp .eq (.ix (.v 2) (.k (.int 0))) (.k (.str "tick"))) (.cons (.ret (.op .add (.v 1) (.lst (.cons (.call 34 (.cons (.v 0) (.cons (.ix (.v 1) (.neg (.k (.int 1)))) .nil))) .nil)))) .nil) .nil) (.cons (.ite (.cmp .nin (.ix (.v 2) (.k (.int 1))) (.ix (.v 1) (.neg (.k (.int 1))))) (.cons (.ret (.k .non)) .nil) .nil) (.cons (.setM 3 (.bi .dict (.cons (.lc false (.tup (.cons (.v 4) (.cons (.ix (.ix (.v 1) (.neg (.k (.int 1)))) (.v 4)) .nil))) (.nm 4) .seq (.cons (.ix (.v 1) (.neg (.k (.int 1)))) .nil) .nil [4]) .nil))) (.cons (.put 3 (.ix (.v 2) (.k (.int 1))) (.ix (.v 2) (.k (.int 2)))) (.cons (.ret (.op .add (.slB (.v 1) (.neg (.k (.int 1)))) (.lst (.cons (.v 3) .nil)))) .nil)))))⟩
-- F_law_is_as: method stands_at
-- F_law_now: method worth
-- F_law_seen: method seen
def F_law_led : Fn := ⟨4, 7, [4], (.cons (.setM 4 (.lst .nil)) (.cons (.for false (.nm 5) .rng1 (.cons (.v 3) .nil) (.cons (.set 6 (.call 56 (.cons (.op .add (.v 2) (.op .mul (.k (.int 59)) (.v 5))) (.cons (.v 1) .nil)))) (.cons (.app 4 (.tup (.cons (.call 57 (.cons (.v 0) (.cons (.v 6) .nil))) (.cons (.call 68 (.cons (.v 0) (.cons (.v 1) .nil))) .nil)))) .nil))) (.cons (.ret (.v 4)) .nil)))⟩
end B

set_option maxHeartbeats 1000000
/-! Th1: tools for what run tells. -/
namespace B
open PySem
theorem run_at {T : Nat → Option Fn} {G : List D} {F k i : Nat} {f : Fn} {ds : List D} (h : T i = some f) (hl : ds.length = f.np) : run T G F (k + 1) i ds = endR (evSs (run T G F k) G F f.body (startE f.nl ds)) := by
  simp only [run, h]
  rw [if_pos hl]
/-- it goes on, so -/
def O.to (P : Env → Prop) : O → Prop
  | .nx e => P e
  | _ => False
theorem O.to_ex {P : Env → Prop} {o : O} (h : o.to P) : ∃ e, o = .nx e ∧ P e := by
  cases o <;> first | exact ⟨_, rfl, h⟩ | exact h.elim
theorem to_nx {P : Env → Prop} {e : Env} (h : P e) : (O.nx e).to P := h
section
variable {α : Type} {t : Tg} {f : Env → O} {enc : α → D} {K : O → Prop}
/-- a loop that may return -/
theorem for_find (P : Env → Prop) (p : α → Bool) (r : α → D) : ∀ {l : List α}, (∀ a ∈ l, ∀ env, P env → ∃ env1, tgE t (enc a) env = some env1 ∧ (p a = true → f env1 = .rt (r a)) ∧ (p a = false → (f env1).to P)) → ∀ {env}, P env →
    (∀ a, l.find? p = some a → K (.rt (r a))) → (l.find? p = none → ∀ env', P env' → K (.nx env')) → K (forE t f (l.map enc) env)
  | [], _, env, h, _, h2 => h2 rfl env h
  | a :: l, hs, env, h, h1, h2 => by
    obtain ⟨env1, e1, q1, q2⟩ := hs a (List.mem_cons_self ..) env h
    simp only [List.map_cons, forE, e1]
    cases hp : p a with
    | true =>
      rw [q1 hp]
      exact h1 a (by rw [List.find?_cons, hp])
    | false =>
      obtain ⟨env2, q3, q4⟩ := O.to_ex (q2 hp)
      rw [q3]
      exact for_find P p r (fun b hb => hs b (List.mem_cons_of_mem _ hb)) q4 (fun b hb => h1 b (by rw [List.find?_cons, hp]; exact hb)) fun hn => h2 (by rw [List.find?_cons, hp]; exact hn)
/-- a loop that folds -/
theorem for_fold {σ : Type} (Q : σ → Env → Prop) (step : σ → α → σ) : ∀ {l : List α} {s : σ}, (∀ a ∈ l, ∀ s env, Q s env → ∃ env1, tgE t (enc a) env = some env1 ∧ (f env1).to (Q (step s a))) → ∀ {env}, Q s env → (∀ env', Q (l.foldl step s) env' → K (.nx env')) → K (forE t f (l.map enc) env)
  | [], s, _, env, h, k => k env h
  | a :: l, s, hs, env, h, k => by
    obtain ⟨env1, e1, q⟩ := hs a (List.mem_cons_self ..) s env h
    obtain ⟨env2, e2, e3⟩ := O.to_ex q
    simp only [List.map_cons, forE, e1, e2, O.turn_nx]
    exact for_fold Q step (fun b hb => hs b (List.mem_cons_of_mem _ hb)) e3 k
end
section
variable {α β : Type} {enc : α → D}
/-- a comprehension without a test -/
theorem lc_map {f : D → R (Option D)} {g : α → D} : ∀ {l : List α}, (∀ a ∈ l, f (enc a) = .ok (some (g a))) → lcE f (l.map enc) = .ok (l.map g)
  | [], _ => rfl
  | a :: l, h => by
    simp only [List.map_cons, lcE, h a (List.mem_cons_self ..), R.bind_ok, lc_map fun b hb => h b (List.mem_cons_of_mem _ hb)]
/-- .. with one -/
theorem lc_filter {f : D → R (Option D)} {p : α → Bool} {g : α → D} : ∀ {l : List α}, (∀ a ∈ l, f (enc a) = .ok (if p a then some (g a) else none)) → lcE f (l.map enc) = .ok ((l.filter p).map g)
  | [], _ => rfl
  | a :: l, h => by
    simp only [List.map_cons, lcE, h a (List.mem_cons_self ..), R.bind_ok, lc_filter fun b hb => h b (List.mem_cons_of_mem _ hb), List.filter_cons]
    cases p a <;> rfl
end
/-! ### small steps -/
theorem atI_nat {α : Type} (xs : List α) (i : Nat) : L2.atI xs (i : Int) = xs[i]? := by
  unfold L2.atI L2.ixN
  by_cases h : i < xs.length
  · rw [if_pos (by omega), if_pos (by omega)]
    rfl
  · rw [List.getElem?_eq_none (by omega)]
    rw [if_pos (by omega), if_neg (by omega)]
    rfl
@[simp] theorem atI_0 {α : Type} (xs : List α) : L2.atI xs 0 = xs[0]? := atI_nat xs 0
@[simp] theorem atI_1 {α : Type} (xs : List α) : L2.atI xs 1 = xs[1]? := atI_nat xs 1
@[simp] theorem atI_2 {α : Type} (xs : List α) : L2.atI xs 2 = xs[2]? := atI_nat xs 2
@[simp] theorem atI_3 {α : Type} (xs : List α) : L2.atI xs 3 = xs[3]? := atI_nat xs 3
/-! ### a sheet -/
structure Bx where
  n : Int
  w : Str
  s : D
structure Wr where
  a : Int
  o : Int
  b : Int
  p : Int
  deriving DecidableEq
structure Sh where
  bs : List Bx
  ws : List Wr
def Bx.d (b : Bx) : D := .tup [.int b.n, .str b.w, b.s]
def Wr.d (w : Wr) : D := .tup [.int w.a, .int w.o, .int w.b, .int w.p]
def Sh.d (s : Sh) : D := .tup [.tup (s.bs.map Bx.d), .tup (s.ws.map Wr.d)]
def prD (q : Int × Int) : D := .tup [.int q.1, .int q.2]
/-- the box of that number -/
def Sh.box (s : Sh) (n : Int) : Option Bx := s.bs.find? fun b => b.n == n
section
variable {T : Nat → Option Fn} {G : List D} {F k i : Nat}
theorem box_in_ok (h : T 100 = some F_box_in) (s : Sh) (n : Int) : run T G F (k + 1) 100 [s.d, .int n] = .ok (match s.box n with
    | some b => b.d
    | none => .non) := by
  rw [run_at h rfl]
  simp only [F_box_in, Sh.d, g0, gS, x_v, x_k, x_tup, x_lst, x_dct, x_op, x_cmp, x_chn, chn_t, chn_f, sel_t, sel_f, and_t, and_f, or_t, or_f, x_and, x_or, x_not, neg_int, x_neg, x_ite, x_ix, gD_int, gD_str, x_g, gin_str, gix_dct, gin_dct, x_gix, x_gin, slA_int, slB_int, slC_int, x_slA, x_slB, slCX_int, x_slC, rev_lst, x_rev, x_call, x_bi, x_mt, mtX_index, mtX_get, mt_index, mt_get, x_lc, lcB_f, lcG_at, lcC_s, lcR_f, lcR_t, lcR_m, z_nil, z_cons, c_nil, cnd_t, cnd_f, cnd_nil, c_cons, s_nil, s_cons, s_set, s_setI, s_setM, setM_nil, setM_dct, opt_s, tp_tup, s_tp, q_nil, q_cons, t_nm, t_tp, appX_l, s_app, extX_l, s_ext, popX_c, s_pop, s_put, s_ex, iteS_t, iteS_f, s_ite, for_f, s_for, wh_at, s_while, s_ret, s_retN, s_raise, s_brk, s_cont, s_pass, o_add, o_sub, o_addT, o_mul, sm_of, o_mod, o_div, th_bl, th_int, th_str, th_non, th_tup, th_lst, i_lst, i_tup, i_enL, i_enT, i_zL, i_zT, b_lenS, b_lenA, b_lenT, b_lenL, b_tupT, b_tupL, b_lstT, b_lstL, b_sorted, b_sset, b_dict, isi_s, b_isi, all_s, b_all, any_s, b_any, max_s, b_max, D.isTys, D.isTy, ixT, ixL, ixA, cm_int, cm_str, cm_bl, cm_nint, cm_nstr, cm_nbl, cm_lt, cm_le, cm_gt, cm_ge, cm_in, cm_nin, cm_isN, cm_isI, cm_isS, cm_isB, cm_isT, cm_isL, cm_snN, cm_snI, cm_snS, cm_snB, cm_snT, cm_snL, e_rt, e_nx, e_exc, w_nil, w_cons, List.map_cons, List.map_nil, List.length_cons, List.length_nil, List.cons_append, List.nil_append, List.append_nil, List.getElem?_cons_zero, List.getElem?_cons_succ, List.getElem?_nil, List.set_cons_zero, List.set_cons_succ, r_b, r_be, r_x, r_t, r_te, n_nx, n_rt, n_bk, n_ct, n_exc, u_nx, u_ct, u_bk, u_rt, u_exc, startE, List.replicate, Nat.reduceAdd, Nat.reduceSub, atI_0, atI_1, atI_2, atI_3, Bool.false_and, Bool.true_and, Bool.not_true, Bool.not_false, Bool.false_eq_true, if_false, if_true, reduceIte, Int.reduceLT, Int.reduceNeg, Nat.reduceLeDiff, Bool.or_true, Bool.true_or, SZ]
  refine for_find (K := fun o => endR (O.next o _) = _) (fun env => ∃ x, env = [some (.tup [.tup (s.bs.map Bx.d), .tup (s.ws.map Wr.d)]), some (.int n), x]) (fun b => b.n == n) Bx.d (fun b _ env ⟨x, e⟩ => ?_) ⟨none, rfl⟩ (fun a e => ?_) (fun e env' _ => ?_)
  · subst e
    refine ⟨_, rfl, fun q => ?_, fun q => ?_⟩
    · simp only [Bx.d, g0, gS, x_v, x_k, x_tup, x_lst, x_dct, x_op, x_cmp, x_chn, chn_t, chn_f, sel_t, sel_f, and_t, and_f, or_t, or_f, x_and, x_or, x_not, neg_int, x_neg, x_ite, x_ix, gD_int, gD_str, x_g, gin_str, gix_dct, gin_dct, x_gix, x_gin, slA_int, slB_int, slC_int, x_slA, x_slB, slCX_int, x_slC, rev_lst, x_rev, x_call, x_bi, x_mt, mtX_index, mtX_get, mt_index, mt_get, x_lc, lcB_f, lcG_at, lcC_s, lcR_f, lcR_t, lcR_m, z_nil, z_cons, c_nil, cnd_t, cnd_f, cnd_nil, c_cons, s_nil, s_cons, s_set, s_setI, s_setM, setM_nil, setM_dct, opt_s, tp_tup, s_tp, q_nil, q_cons, t_nm, t_tp, appX_l, s_app, extX_l, s_ext, popX_c, s_pop, s_put, s_ex, iteS_t, iteS_f, s_ite, for_f, s_for, wh_at, s_while, s_ret, s_retN, s_raise, s_brk, s_cont, s_pass, o_add, o_sub, o_addT, o_mul, sm_of, o_mod, o_div, th_bl, th_int, th_str, th_non, th_tup, th_lst, i_lst, i_tup, i_enL, i_enT, i_zL, i_zT, b_lenS, b_lenA, b_lenT, b_lenL, b_tupT, b_tupL, b_lstT, b_lstL, b_sorted, b_sset, b_dict, isi_s, b_isi, all_s, b_all, any_s, b_any, max_s, b_max, D.isTys, D.isTy, ixT, ixL, ixA, cm_int, cm_str, cm_bl, cm_nint, cm_nstr, cm_nbl, cm_lt, cm_le, cm_gt, cm_ge, cm_in, cm_nin, cm_isN, cm_isI, cm_isS, cm_isB, cm_isT, cm_isL, cm_snN, cm_snI, cm_snS, cm_snB, cm_snT, cm_snL, e_rt, e_nx, e_exc, w_nil, w_cons, List.map_cons, List.map_nil, List.length_cons, List.length_nil, List.cons_append, List.nil_append, List.append_nil, List.getElem?_cons_zero, List.getElem?_cons_succ, List.getElem?_nil, List.set_cons_zero, List.set_cons_succ, r_b, r_be, r_x, r_t, r_te, n_nx, n_rt, n_bk, n_ct, n_exc, u_nx, u_ct, u_bk, u_rt, u_exc, startE, List.replicate, Nat.reduceAdd, Nat.reduceSub, atI_0, atI_1, atI_2, atI_3, Bool.false_and, Bool.true_and, Bool.not_true, Bool.not_false, Bool.false_eq_true, if_false, if_true, reduceIte, Int.reduceLT, Int.reduceNeg, Nat.reduceLeDiff, Bool.or_true, Bool.true_or, SZ, q]
    · simp only [Bx.d, g0, gS, x_v, x_k, x_tup, x_lst, x_dct, x_op, x_cmp, x_chn, chn_t, chn_f, sel_t, sel_f, and_t, and_f, or_t, or_f, x_and, x_or, x_not, neg_int, x_neg, x_ite, x_ix, gD_int, gD_str, x_g, gin_str, gix_dct, gin_dct, x_gix, x_gin, slA_int, slB_int, slC_int, x_slA, x_slB, slCX_int, x_slC, rev_lst, x_rev, x_call, x_bi, x_mt, mtX_index, mtX_get, mt_index, mt_get, x_lc, lcB_f, lcG_at, lcC_s, lcR_f, lcR_t, lcR_m, z_nil, z_cons, c_nil, cnd_t, cnd_f, cnd_nil, c_cons, s_nil, s_cons, s_set, s_setI, s_setM, setM_nil, setM_dct, opt_s, tp_tup, s_tp, q_nil, q_cons, t_nm, t_tp, appX_l, s_app, extX_l, s_ext, popX_c, s_pop, s_put, s_ex, iteS_t, iteS_f, s_ite, for_f, s_for, wh_at, s_while, s_ret, s_retN, s_raise, s_brk, s_cont, s_pass, o_add, o_sub, o_addT, o_mul, sm_of, o_mod, o_div, th_bl, th_int, th_str, th_non, th_tup, th_lst, i_lst, i_tup, i_enL, i_enT, i_zL, i_zT, b_lenS, b_lenA, b_lenT, b_lenL, b_tupT, b_tupL, b_lstT, b_lstL, b_sorted, b_sset, b_dict, isi_s, b_isi, all_s, b_all, any_s, b_any, max_s, b_max, D.isTys, D.isTy, ixT, ixL, ixA, cm_int, cm_str, cm_bl, cm_nint, cm_nstr, cm_nbl, cm_lt, cm_le, cm_gt, cm_ge, cm_in, cm_nin, cm_isN, cm_isI, cm_isS, cm_isB, cm_isT, cm_isL, cm_snN, cm_snI, cm_snS, cm_snB, cm_snT, cm_snL, e_rt, e_nx, e_exc, w_nil, w_cons, List.map_cons, List.map_nil, List.length_cons, List.length_nil, List.cons_append, List.nil_append, List.append_nil, List.getElem?_cons_zero, List.getElem?_cons_succ, List.getElem?_nil, List.set_cons_zero, List.set_cons_succ, r_b, r_be, r_x, r_t, r_te, n_nx, n_rt, n_bk, n_ct, n_exc, u_nx, u_ct, u_bk, u_rt, u_exc, startE, List.replicate, Nat.reduceAdd, Nat.reduceSub, atI_0, atI_1, atI_2, atI_3, Bool.false_and, Bool.true_and, Bool.not_true, Bool.not_false, Bool.false_eq_true, if_false, if_true, reduceIte, Int.reduceLT, Int.reduceNeg, Nat.reduceLeDiff, Bool.or_true, Bool.true_or, SZ, q]
      exact to_nx ⟨_, rfl⟩
  · simp only [Sh.box, e, g0, gS, x_v, x_k, x_tup, x_lst, x_dct, x_op, x_cmp, x_chn, chn_t, chn_f, sel_t, sel_f, and_t, and_f, or_t, or_f, x_and, x_or, x_not, neg_int, x_neg, x_ite, x_ix, gD_int, gD_str, x_g, gin_str, gix_dct, gin_dct, x_gix, x_gin, slA_int, slB_int, slC_int, x_slA, x_slB, slCX_int, x_slC, rev_lst, x_rev, x_call, x_bi, x_mt, mtX_index, mtX_get, mt_index, mt_get, x_lc, lcB_f, lcG_at, lcC_s, lcR_f, lcR_t, lcR_m, z_nil, z_cons, c_nil, cnd_t, cnd_f, cnd_nil, c_cons, s_nil, s_cons, s_set, s_setI, s_setM, setM_nil, setM_dct, opt_s, tp_tup, s_tp, q_nil, q_cons, t_nm, t_tp, appX_l, s_app, extX_l, s_ext, popX_c, s_pop, s_put, s_ex, iteS_t, iteS_f, s_ite, for_f, s_for, wh_at, s_while, s_ret, s_retN, s_raise, s_brk, s_cont, s_pass, o_add, o_sub, o_addT, o_mul, sm_of, o_mod, o_div, th_bl, th_int, th_str, th_non, th_tup, th_lst, i_lst, i_tup, i_enL, i_enT, i_zL, i_zT, b_lenS, b_lenA, b_lenT, b_lenL, b_tupT, b_tupL, b_lstT, b_lstL, b_sorted, b_sset, b_dict, isi_s, b_isi, all_s, b_all, any_s, b_any, max_s, b_max, D.isTys, D.isTy, ixT, ixL, ixA, cm_int, cm_str, cm_bl, cm_nint, cm_nstr, cm_nbl, cm_lt, cm_le, cm_gt, cm_ge, cm_in, cm_nin, cm_isN, cm_isI, cm_isS, cm_isB, cm_isT, cm_isL, cm_snN, cm_snI, cm_snS, cm_snB, cm_snT, cm_snL, e_rt, e_nx, e_exc, w_nil, w_cons, List.map_cons, List.map_nil, List.length_cons, List.length_nil, List.cons_append, List.nil_append, List.append_nil, List.getElem?_cons_zero, List.getElem?_cons_succ, List.getElem?_nil, List.set_cons_zero, List.set_cons_succ, r_b, r_be, r_x, r_t, r_te, n_nx, n_rt, n_bk, n_ct, n_exc, u_nx, u_ct, u_bk, u_rt, u_exc, startE, List.replicate, Nat.reduceAdd, Nat.reduceSub, atI_0, atI_1, atI_2, atI_3, Bool.false_and, Bool.true_and, Bool.not_true, Bool.not_false, Bool.false_eq_true, if_false, if_true, reduceIte, Int.reduceLT, Int.reduceNeg, Nat.reduceLeDiff, Bool.or_true, Bool.true_or, SZ]
  · simp only [Sh.box, e, g0, gS, x_v, x_k, x_tup, x_lst, x_dct, x_op, x_cmp, x_chn, chn_t, chn_f, sel_t, sel_f, and_t, and_f, or_t, or_f, x_and, x_or, x_not, neg_int, x_neg, x_ite, x_ix, gD_int, gD_str, x_g, gin_str, gix_dct, gin_dct, x_gix, x_gin, slA_int, slB_int, slC_int, x_slA, x_slB, slCX_int, x_slC, rev_lst, x_rev, x_call, x_bi, x_mt, mtX_index, mtX_get, mt_index, mt_get, x_lc, lcB_f, lcG_at, lcC_s, lcR_f, lcR_t, lcR_m, z_nil, z_cons, c_nil, cnd_t, cnd_f, cnd_nil, c_cons, s_nil, s_cons, s_set, s_setI, s_setM, setM_nil, setM_dct, opt_s, tp_tup, s_tp, q_nil, q_cons, t_nm, t_tp, appX_l, s_app, extX_l, s_ext, popX_c, s_pop, s_put, s_ex, iteS_t, iteS_f, s_ite, for_f, s_for, wh_at, s_while, s_ret, s_retN, s_raise, s_brk, s_cont, s_pass, o_add, o_sub, o_addT, o_mul, sm_of, o_mod, o_div, th_bl, th_int, th_str, th_non, th_tup, th_lst, i_lst, i_tup, i_enL, i_enT, i_zL, i_zT, b_lenS, b_lenA, b_lenT, b_lenL, b_tupT, b_tupL, b_lstT, b_lstL, b_sorted, b_sset, b_dict, isi_s, b_isi, all_s, b_all, any_s, b_any, max_s, b_max, D.isTys, D.isTy, ixT, ixL, ixA, cm_int, cm_str, cm_bl, cm_nint, cm_nstr, cm_nbl, cm_lt, cm_le, cm_gt, cm_ge, cm_in, cm_nin, cm_isN, cm_isI, cm_isS, cm_isB, cm_isT, cm_isL, cm_snN, cm_snI, cm_snS, cm_snB, cm_snT, cm_snL, e_rt, e_nx, e_exc, w_nil, w_cons, List.map_cons, List.map_nil, List.length_cons, List.length_nil, List.cons_append, List.nil_append, List.append_nil, List.getElem?_cons_zero, List.getElem?_cons_succ, List.getElem?_nil, List.set_cons_zero, List.set_cons_succ, r_b, r_be, r_x, r_t, r_te, n_nx, n_rt, n_bk, n_ct, n_exc, u_nx, u_ct, u_bk, u_rt, u_exc, startE, List.replicate, Nat.reduceAdd, Nat.reduceSub, atI_0, atI_1, atI_2, atI_3, Bool.false_and, Bool.true_and, Bool.not_true, Bool.not_false, Bool.false_eq_true, if_false, if_true, reduceIte, Int.reduceLT, Int.reduceNeg, Nat.reduceLeDiff, Bool.or_true, Bool.true_or, SZ]
end
end B

set_option maxHeartbeats 1000000
/-! Th2: kinds of ports. -/
namespace B
open PySem
/-- a loop, by the index of its turns -/
theorem for_ix {α : Type} {t : Tg} {f : Env → O} {enc : α → D} {K : O → Prop} : ∀ {l : List α} (P : Nat → Env → Prop), (∀ i a, l[i]? = some a → ∀ env, P i env → ∃ env1, tgE t (enc a) env = some env1 ∧ (f env1).to (P (i + 1))) → ∀ {env}, P 0 env → (∀ env', P l.length env' → K (.nx env')) → K (forE t f (l.map enc) env)
  | [], P, _, env, h, k => k env h
  | a :: l, P, hs, env, h, k => by
    obtain ⟨env1, e1, q⟩ := hs 0 a rfl env h
    obtain ⟨env2, e2, e3⟩ := O.to_ex q
    simp only [List.map_cons, forE, e1, e2, O.turn_nx]
    exact for_ix (fun i => P (i + 1)) (fun i b hb => hs (i + 1) b (by simpa using hb)) e3 (by simpa using k)
/-! ### the table of words -/
abbrev Kn : Type := List Str × List Str
def rows : List (Str × Kn) := [("const", [], ["number"]), ("words", [], ["text"]), ("add", ["number", "number"], ["number"]), ("less", ["number", "number"], ["truth"]), ("pick", ["truth", "number", "number"], ["number"]), ("text", ["number"], ["text"]), ("glue", ["text", "text"], ["text"]), ("size", ["text"], ["number"]), ("late", ["number"], ["number"])]
def rowOf (w : Str) : Option Kn := (rows.find? fun r => r.1 == w).map (·.2)
def kdD (q : Kn) : D := .tup [.tup (q.1.map .str), .tup (q.2.map .str)]
def portsD : D := .dct (rows.map fun r => (.str r.1, kdD r.2))
theorem find_rows (w : Str) : ∀ l : List (Str × Kn), D.find (l.map fun r => (D.str r.1, kdD r.2)) (.str w) = ((l.find? fun r => r.1 == w).map (·.2)).map kdD
  | [] => rfl
  | r :: l => by
    rw [List.map_cons]
    unfold D.find
    rw [List.find?_cons, List.find?_cons]
    have e : D.eqv (D.str r.1) (D.str w) = (r.1 == w) := by simp only [D.eqv]
    rw [e]
    cases r.1 == w
    · exact find_rows w l
    · rfl
theorem row_group : rowOf "group" = none := by decide +kernel
theorem row_cases {w : Str} {q : Kn} (h : rowOf w = some q) : (w, q) ∈ rows := by
  unfold rowOf at h
  obtain ⟨r, h1, h2⟩ := Option.map_eq_some_iff.mp h
  have h3 := List.find?_some h1
  have h4 := List.mem_of_find?_eq_some h1
  have e : r.1 = w := by simpa using h3
  rw [← e, ← h2]
  exact h4
def grp (ins outs : List (Int × Int)) (s : Sh) : D := .tup [.tup (ins.map prD), .tup (outs.map prD), s.d]
/-- the port of that number -/
def pick (l : List Str) (p : Int) : Str := l.getD p.toNat Str.empty
/-- a box with kinds of ports, groups at most k deep -/
def WB : Nat → Bx → Kn → Prop
  | 0, b, q => rowOf b.w = some q
  | k + 1, b, q => rowOf b.w = some q ∨ (b.w = "group" ∧ ∃ (ins outs : List (Int × Int)) (s : Sh) (kd : Int → Kn), b.s = grp ins outs s ∧ (s.bs.map (·.n)).Nodup ∧ (∀ c ∈ s.bs, WB k c (kd c.n)) ∧
    (∀ x ∈ ins, (∃ c ∈ s.bs, c.n = x.1) ∧ 0 ≤ x.2 ∧ x.2 < (kd x.1).1.length) ∧ (∀ x ∈ outs, (∃ c ∈ s.bs, c.n = x.1) ∧ 0 ≤ x.2 ∧ x.2 < (kd x.1).2.length) ∧ q = (ins.map (fun x => pick (kd x.1).1 x.2), outs.map (fun x => pick (kd x.1).2 x.2)))
theorem WB.row {k : Nat} {b : Bx} {q : Kn} (h : rowOf b.w = some q) : WB k b q := by
  cases k with
  | zero => exact h
  | succ k => exact .inl h
theorem WB.mono : ∀ {k : Nat} {b : Bx} {q : Kn}, WB k b q → WB (k + 1) b q
  | 0, b, q, h => .inl h
  | k + 1, b, q, h => by
    rcases h with h | ⟨h1, ins, outs, s, kd, h2, h3, h4, h5, h6, h7⟩
    · exact .inl h
    · exact .inr ⟨h1, ins, outs, s, kd, h2, h3, fun c hc => (h4 c hc).mono, h5, h6, h7⟩
theorem box_of {s : Sh} {n : Int} (h : ∃ c ∈ s.bs, c.n = n) : ∃ c, s.box n = some c ∧ c ∈ s.bs ∧ c.n = n := by
  obtain ⟨c, hc, e⟩ := h
  cases q : s.box n with
  | none =>
    unfold Sh.box at q
    rw [List.find?_eq_none] at q
    have := q c hc
    rw [e] at this
    simp at this
  | some b =>
    unfold Sh.box at q
    exact ⟨b, rfl, List.mem_of_find?_eq_some q, by simpa using List.find?_some q⟩
theorem pick_at {l : List Str} {p : Int} (h0 : 0 ≤ p) (h1 : p < l.length) : L2.atI (l.map D.str) p = some (.str (pick l p)) := by
  obtain ⟨n, rfl⟩ := Int.eq_ofNat_of_zero_le h0
  rw [atI_nat, List.getElem?_map, List.getElem?_eq_getElem (by omega)]
  simp only [Option.map_some, pick, Int.toNat_natCast, List.getD_eq_getElem?_getD]
  rw [List.getElem?_eq_getElem (by omega)]
  rfl
section
variable {T : Nat → Option Fn} {G : List D} {F k : Nat}
/-- the ports' family of defs -/
structure TP (T : Nat → Option Fn) (G : List D) : Prop where
  box : T 100 = some F_box_in
  kin : T 124 = some F_kinds_in
  prt : T 141 = some F_ports
  tab : G[6]? = some portsD
theorem kinds_in_ok (h : TP T G) {s : Sh} {kd : Int → Kn} {ps : List (Int × Int)} {side : Int} {sel : Kn → List Str} (hs : side = 0 ∧ sel = Prod.fst ∨ side = 1 ∧ sel = Prod.snd) (hb : ∀ c ∈ s.bs, run T G F (k + 1) 141 [c.d] = .ok (kdD (kd c.n)))
    (hp : ∀ x ∈ ps, (∃ c ∈ s.bs, c.n = x.1) ∧ 0 ≤ x.2 ∧ x.2 < (sel (kd x.1)).length) : run T G F (k + 2) 124 [s.d, .tup (ps.map prD), .int side] = .ok (.tup ((ps.map fun x => pick (sel (kd x.1)) x.2).map .str)) := by
  rw [run_at h.kin rfl]
  simp only [F_kinds_in, g0, gS, x_v, x_k, x_tup, x_lst, x_dct, x_op, x_cmp, x_chn, chn_t, chn_f, sel_t, sel_f, and_t, and_f, or_t, or_f, x_and, x_or, x_not, neg_int, x_neg, x_ite, x_ix, gD_int, gD_str, x_g, gin_str, gix_dct, gin_dct, x_gix, x_gin, slA_int, slB_int, slC_int, x_slA, x_slB, slCX_int, x_slC, rev_lst, x_rev, x_call, x_bi, x_mt, mtX_index, mtX_get, mt_index, mt_get, x_lc, lcB_f, lcG_at, lcC_s, lcR_f, lcR_t, lcR_m, z_nil, z_cons, c_nil, cnd_t, cnd_f, cnd_nil, c_cons, s_nil, s_cons, s_set, s_setI, s_setM, setM_nil, setM_dct, opt_s, tp_tup, s_tp, q_nil, q_cons, t_nm, t_tp, appX_l, s_app, extX_l, s_ext, popX_c, s_pop, s_put, s_ex, iteS_t, iteS_f, s_ite, for_f, s_for, wh_at, s_while, s_ret, s_retN, s_raise, s_brk, s_cont, s_pass, o_add, o_sub, o_addT, o_mul, sm_of, o_mod, o_div, th_bl, th_int, th_str, th_non, th_tup, th_lst, i_lst, i_tup, i_enL, i_enT, i_zL, i_zT, b_lenS, b_lenA, b_lenT, b_lenL, b_tupT, b_tupL, b_lstT, b_lstL, b_sorted, b_sset, b_dict, isi_s, b_isi, all_s, b_all, any_s, b_any, max_s, b_max, D.isTys, D.isTy, ixT, ixL, ixA, cm_int, cm_str, cm_bl, cm_nint, cm_nstr, cm_nbl, cm_lt, cm_le, cm_gt, cm_ge, cm_in, cm_nin, cm_isN, cm_isI, cm_isS, cm_isB, cm_isT, cm_isL, cm_snN, cm_snI, cm_snS, cm_snB, cm_snT, cm_snL, e_rt, e_nx, e_exc, w_nil, w_cons, List.map_cons, List.map_nil, List.length_cons, List.length_nil, List.cons_append, List.nil_append, List.append_nil, List.getElem?_cons_zero, List.getElem?_cons_succ, List.getElem?_nil, List.set_cons_zero, List.set_cons_succ, r_b, r_be, r_x, r_t, r_te, n_nx, n_rt, n_bk, n_ct, n_exc, u_nx, u_ct, u_bk, u_rt, u_exc, startE, List.replicate, Nat.reduceAdd, Nat.reduceSub, atI_0, atI_1, atI_2, atI_3, Bool.false_and, Bool.true_and, Bool.not_true, Bool.not_false, Bool.false_eq_true, if_false, if_true, reduceIte, Int.reduceLT, Int.reduceNeg, Nat.reduceLeDiff, Bool.or_true, Bool.true_or, SZ]
  rw [lc_map (g := fun x => .str (pick (sel (kd x.1)) x.2))]
  · simp only [g0, gS, x_v, x_k, x_tup, x_lst, x_dct, x_op, x_cmp, x_chn, chn_t, chn_f, sel_t, sel_f, and_t, and_f, or_t, or_f, x_and, x_or, x_not, neg_int, x_neg, x_ite, x_ix, gD_int, gD_str, x_g, gin_str, gix_dct, gin_dct, x_gix, x_gin, slA_int, slB_int, slC_int, x_slA, x_slB, slCX_int, x_slC, rev_lst, x_rev, x_call, x_bi, x_mt, mtX_index, mtX_get, mt_index, mt_get, x_lc, lcB_f, lcG_at, lcC_s, lcR_f, lcR_t, lcR_m, z_nil, z_cons, c_nil, cnd_t, cnd_f, cnd_nil, c_cons, s_nil, s_cons, s_set, s_setI, s_setM, setM_nil, setM_dct, opt_s, tp_tup, s_tp, q_nil, q_cons, t_nm, t_tp, appX_l, s_app, extX_l, s_ext, popX_c, s_pop, s_put, s_ex, iteS_t, iteS_f, s_ite, for_f, s_for, wh_at, s_while, s_ret, s_retN, s_raise, s_brk, s_cont, s_pass, o_add, o_sub, o_addT, o_mul, sm_of, o_mod, o_div, th_bl, th_int, th_str, th_non, th_tup, th_lst, i_lst, i_tup, i_enL, i_enT, i_zL, i_zT, b_lenS, b_lenA, b_lenT, b_lenL, b_tupT, b_tupL, b_lstT, b_lstL, b_sorted, b_sset, b_dict, isi_s, b_isi, all_s, b_all, any_s, b_any, max_s, b_max, D.isTys, D.isTy, ixT, ixL, ixA, cm_int, cm_str, cm_bl, cm_nint, cm_nstr, cm_nbl, cm_lt, cm_le, cm_gt, cm_ge, cm_in, cm_nin, cm_isN, cm_isI, cm_isS, cm_isB, cm_isT, cm_isL, cm_snN, cm_snI, cm_snS, cm_snB, cm_snT, cm_snL, e_rt, e_nx, e_exc, w_nil, w_cons, List.map_cons, List.map_nil, List.length_cons, List.length_nil, List.cons_append, List.nil_append, List.append_nil, List.getElem?_cons_zero, List.getElem?_cons_succ, List.getElem?_nil, List.set_cons_zero, List.set_cons_succ, r_b, r_be, r_x, r_t, r_te, n_nx, n_rt, n_bk, n_ct, n_exc, u_nx, u_ct, u_bk, u_rt, u_exc, startE, List.replicate, Nat.reduceAdd, Nat.reduceSub, atI_0, atI_1, atI_2, atI_3, Bool.false_and, Bool.true_and, Bool.not_true, Bool.not_false, Bool.false_eq_true, if_false, if_true, reduceIte, Int.reduceLT, Int.reduceNeg, Nat.reduceLeDiff, Bool.or_true, Bool.true_or, SZ, List.map_map]
    rfl
  · intro x hx
    obtain ⟨h1, h2, h3⟩ := hp x hx
    obtain ⟨c, e1, e2, e3⟩ := box_of h1
    simp only [prD, g0, gS, x_v, x_k, x_tup, x_lst, x_dct, x_op, x_cmp, x_chn, chn_t, chn_f, sel_t, sel_f, and_t, and_f, or_t, or_f, x_and, x_or, x_not, neg_int, x_neg, x_ite, x_ix, gD_int, gD_str, x_g, gin_str, gix_dct, gin_dct, x_gix, x_gin, slA_int, slB_int, slC_int, x_slA, x_slB, slCX_int, x_slC, rev_lst, x_rev, x_call, x_bi, x_mt, mtX_index, mtX_get, mt_index, mt_get, x_lc, lcB_f, lcG_at, lcC_s, lcR_f, lcR_t, lcR_m, z_nil, z_cons, c_nil, cnd_t, cnd_f, cnd_nil, c_cons, s_nil, s_cons, s_set, s_setI, s_setM, setM_nil, setM_dct, opt_s, tp_tup, s_tp, q_nil, q_cons, t_nm, t_tp, appX_l, s_app, extX_l, s_ext, popX_c, s_pop, s_put, s_ex, iteS_t, iteS_f, s_ite, for_f, s_for, wh_at, s_while, s_ret, s_retN, s_raise, s_brk, s_cont, s_pass, o_add, o_sub, o_addT, o_mul, sm_of, o_mod, o_div, th_bl, th_int, th_str, th_non, th_tup, th_lst, i_lst, i_tup, i_enL, i_enT, i_zL, i_zT, b_lenS, b_lenA, b_lenT, b_lenL, b_tupT, b_tupL, b_lstT, b_lstL, b_sorted, b_sset, b_dict, isi_s, b_isi, all_s, b_all, any_s, b_any, max_s, b_max, D.isTys, D.isTy, ixT, ixL, ixA, cm_int, cm_str, cm_bl, cm_nint, cm_nstr, cm_nbl, cm_lt, cm_le, cm_gt, cm_ge, cm_in, cm_nin, cm_isN, cm_isI, cm_isS, cm_isB, cm_isT, cm_isL, cm_snN, cm_snI, cm_snS, cm_snB, cm_snT, cm_snL, e_rt, e_nx, e_exc, w_nil, w_cons, List.map_cons, List.map_nil, List.length_cons, List.length_nil, List.cons_append, List.nil_append, List.append_nil, List.getElem?_cons_zero, List.getElem?_cons_succ, List.getElem?_nil, List.set_cons_zero, List.set_cons_succ, r_b, r_be, r_x, r_t, r_te, n_nx, n_rt, n_bk, n_ct, n_exc, u_nx, u_ct, u_bk, u_rt, u_exc, startE, List.replicate, Nat.reduceAdd, Nat.reduceSub, atI_0, atI_1, atI_2, atI_3, Bool.false_and, Bool.true_and, Bool.not_true, Bool.not_false, Bool.false_eq_true, if_false, if_true, reduceIte, Int.reduceLT, Int.reduceNeg, Nat.reduceLeDiff, Bool.or_true, Bool.true_or, SZ, box_in_ok h.box, e1, hb c e2, kdD]
    rcases hs with ⟨rfl, rfl⟩ | ⟨rfl, rfl⟩
    · simp only [g0, gS, x_v, x_k, x_tup, x_lst, x_dct, x_op, x_cmp, x_chn, chn_t, chn_f, sel_t, sel_f, and_t, and_f, or_t, or_f, x_and, x_or, x_not, neg_int, x_neg, x_ite, x_ix, gD_int, gD_str, x_g, gin_str, gix_dct, gin_dct, x_gix, x_gin, slA_int, slB_int, slC_int, x_slA, x_slB, slCX_int, x_slC, rev_lst, x_rev, x_call, x_bi, x_mt, mtX_index, mtX_get, mt_index, mt_get, x_lc, lcB_f, lcG_at, lcC_s, lcR_f, lcR_t, lcR_m, z_nil, z_cons, c_nil, cnd_t, cnd_f, cnd_nil, c_cons, s_nil, s_cons, s_set, s_setI, s_setM, setM_nil, setM_dct, opt_s, tp_tup, s_tp, q_nil, q_cons, t_nm, t_tp, appX_l, s_app, extX_l, s_ext, popX_c, s_pop, s_put, s_ex, iteS_t, iteS_f, s_ite, for_f, s_for, wh_at, s_while, s_ret, s_retN, s_raise, s_brk, s_cont, s_pass, o_add, o_sub, o_addT, o_mul, sm_of, o_mod, o_div, th_bl, th_int, th_str, th_non, th_tup, th_lst, i_lst, i_tup, i_enL, i_enT, i_zL, i_zT, b_lenS, b_lenA, b_lenT, b_lenL, b_tupT, b_tupL, b_lstT, b_lstL, b_sorted, b_sset, b_dict, isi_s, b_isi, all_s, b_all, any_s, b_any, max_s, b_max, D.isTys, D.isTy, ixT, ixL, ixA, cm_int, cm_str, cm_bl, cm_nint, cm_nstr, cm_nbl, cm_lt, cm_le, cm_gt, cm_ge, cm_in, cm_nin, cm_isN, cm_isI, cm_isS, cm_isB, cm_isT, cm_isL, cm_snN, cm_snI, cm_snS, cm_snB, cm_snT, cm_snL, e_rt, e_nx, e_exc, w_nil, w_cons, List.map_cons, List.map_nil, List.length_cons, List.length_nil, List.cons_append, List.nil_append, List.append_nil, List.getElem?_cons_zero, List.getElem?_cons_succ, List.getElem?_nil, List.set_cons_zero, List.set_cons_succ, r_b, r_be, r_x, r_t, r_te, n_nx, n_rt, n_bk, n_ct, n_exc, u_nx, u_ct, u_bk, u_rt, u_exc, startE, List.replicate, Nat.reduceAdd, Nat.reduceSub, atI_0, atI_1, atI_2, atI_3, Bool.false_and, Bool.true_and, Bool.not_true, Bool.not_false, Bool.false_eq_true, if_false, if_true, reduceIte, Int.reduceLT, Int.reduceNeg, Nat.reduceLeDiff, Bool.or_true, Bool.true_or, SZ, e3, pick_at h2 h3]
    · simp only [g0, gS, x_v, x_k, x_tup, x_lst, x_dct, x_op, x_cmp, x_chn, chn_t, chn_f, sel_t, sel_f, and_t, and_f, or_t, or_f, x_and, x_or, x_not, neg_int, x_neg, x_ite, x_ix, gD_int, gD_str, x_g, gin_str, gix_dct, gin_dct, x_gix, x_gin, slA_int, slB_int, slC_int, x_slA, x_slB, slCX_int, x_slC, rev_lst, x_rev, x_call, x_bi, x_mt, mtX_index, mtX_get, mt_index, mt_get, x_lc, lcB_f, lcG_at, lcC_s, lcR_f, lcR_t, lcR_m, z_nil, z_cons, c_nil, cnd_t, cnd_f, cnd_nil, c_cons, s_nil, s_cons, s_set, s_setI, s_setM, setM_nil, setM_dct, opt_s, tp_tup, s_tp, q_nil, q_cons, t_nm, t_tp, appX_l, s_app, extX_l, s_ext, popX_c, s_pop, s_put, s_ex, iteS_t, iteS_f, s_ite, for_f, s_for, wh_at, s_while, s_ret, s_retN, s_raise, s_brk, s_cont, s_pass, o_add, o_sub, o_addT, o_mul, sm_of, o_mod, o_div, th_bl, th_int, th_str, th_non, th_tup, th_lst, i_lst, i_tup, i_enL, i_enT, i_zL, i_zT, b_lenS, b_lenA, b_lenT, b_lenL, b_tupT, b_tupL, b_lstT, b_lstL, b_sorted, b_sset, b_dict, isi_s, b_isi, all_s, b_all, any_s, b_any, max_s, b_max, D.isTys, D.isTy, ixT, ixL, ixA, cm_int, cm_str, cm_bl, cm_nint, cm_nstr, cm_nbl, cm_lt, cm_le, cm_gt, cm_ge, cm_in, cm_nin, cm_isN, cm_isI, cm_isS, cm_isB, cm_isT, cm_isL, cm_snN, cm_snI, cm_snS, cm_snB, cm_snT, cm_snL, e_rt, e_nx, e_exc, w_nil, w_cons, List.map_cons, List.map_nil, List.length_cons, List.length_nil, List.cons_append, List.nil_append, List.append_nil, List.getElem?_cons_zero, List.getElem?_cons_succ, List.getElem?_nil, List.set_cons_zero, List.set_cons_succ, r_b, r_be, r_x, r_t, r_te, n_nx, n_rt, n_bk, n_ct, n_exc, u_nx, u_ct, u_bk, u_rt, u_exc, startE, List.replicate, Nat.reduceAdd, Nat.reduceSub, atI_0, atI_1, atI_2, atI_3, Bool.false_and, Bool.true_and, Bool.not_true, Bool.not_false, Bool.false_eq_true, if_false, if_true, reduceIte, Int.reduceLT, Int.reduceNeg, Nat.reduceLeDiff, Bool.or_true, Bool.true_or, SZ, e3, pick_at h2 h3]
theorem ports_ok (h : TP T G) : ∀ {j k : Nat} {b : Bx} {q : Kn}, WB j b q → 2 * j ≤ k → run T G F (k + 1) 141 [b.d] = .ok (kdD q) := by
  have row : ∀ {k : Nat} {b : Bx} {q : Kn}, rowOf b.w = some q → run T G F (k + 1) 141 [b.d] = .ok (kdD q) := by
    intro k b q hr
    rw [run_at h.prt rfl]
    have hg : (b.w == ("group" : Str)) = false := by
      rw [beq_eq_false_iff_ne]
      intro e
      rw [e, row_group] at hr
      cases hr
    have hf : D.find (rows.map fun r => (D.str r.1, kdD r.2)) (.str b.w) = some (kdD q) := by
      rw [find_rows]
      unfold rowOf at hr
      rw [hr]
      rfl
    simp only [F_ports, Bx.d, g0, gS, x_v, x_k, x_tup, x_lst, x_dct, x_op, x_cmp, x_chn, chn_t, chn_f, sel_t, sel_f, and_t, and_f, or_t, or_f, x_and, x_or, x_not, neg_int, x_neg, x_ite, x_ix, gD_int, gD_str, x_g, gin_str, gix_dct, gin_dct, x_gix, x_gin, slA_int, slB_int, slC_int, x_slA, x_slB, slCX_int, x_slC, rev_lst, x_rev, x_call, x_bi, x_mt, mtX_index, mtX_get, mt_index, mt_get, x_lc, lcB_f, lcG_at, lcC_s, lcR_f, lcR_t, lcR_m, z_nil, z_cons, c_nil, cnd_t, cnd_f, cnd_nil, c_cons, s_nil, s_cons, s_set, s_setI, s_setM, setM_nil, setM_dct, opt_s, tp_tup, s_tp, q_nil, q_cons, t_nm, t_tp, appX_l, s_app, extX_l, s_ext, popX_c, s_pop, s_put, s_ex, iteS_t, iteS_f, s_ite, for_f, s_for, wh_at, s_while, s_ret, s_retN, s_raise, s_brk, s_cont, s_pass, o_add, o_sub, o_addT, o_mul, sm_of, o_mod, o_div, th_bl, th_int, th_str, th_non, th_tup, th_lst, i_lst, i_tup, i_enL, i_enT, i_zL, i_zT, b_lenS, b_lenA, b_lenT, b_lenL, b_tupT, b_tupL, b_lstT, b_lstL, b_sorted, b_sset, b_dict, isi_s, b_isi, all_s, b_all, any_s, b_any, max_s, b_max, D.isTys, D.isTy, ixT, ixL, ixA, cm_int, cm_str, cm_bl, cm_nint, cm_nstr, cm_nbl, cm_lt, cm_le, cm_gt, cm_ge, cm_in, cm_nin, cm_isN, cm_isI, cm_isS, cm_isB, cm_isT, cm_isL, cm_snN, cm_snI, cm_snS, cm_snB, cm_snT, cm_snL, e_rt, e_nx, e_exc, w_nil, w_cons, List.map_cons, List.map_nil, List.length_cons, List.length_nil, List.cons_append, List.nil_append, List.append_nil, List.getElem?_cons_zero, List.getElem?_cons_succ, List.getElem?_nil, List.set_cons_zero, List.set_cons_succ, r_b, r_be, r_x, r_t, r_te, n_nx, n_rt, n_bk, n_ct, n_exc, u_nx, u_ct, u_bk, u_rt, u_exc, startE, List.replicate, Nat.reduceAdd, Nat.reduceSub, atI_0, atI_1, atI_2, atI_3, Bool.false_and, Bool.true_and, Bool.not_true, Bool.not_false, Bool.false_eq_true, if_false, if_true, reduceIte, Int.reduceLT, Int.reduceNeg, Nat.reduceLeDiff, Bool.or_true, Bool.true_or, SZ, hg, h.tab, portsD, gixD, hf]
  intro j
  induction j with
  | zero => exact fun hb _ => row hb
  | succ j ih =>
    intro k b q hb hk
    rcases hb with hb | ⟨h1, ins, outs, s, kd, h2, h3, h4, h5, h6, h7⟩
    · exact row hb
    · obtain ⟨k, rfl⟩ : ∃ k', k = k' + 2 := ⟨k - 2, by omega⟩
      rw [run_at h.prt rfl]
      have hg : (b.w == ("group" : Str)) = true := by rw [h1]; rfl
      have e1 := kinds_in_ok (F := F) (k := k) h (side := 0) (sel := Prod.fst) (.inl ⟨rfl, rfl⟩) (fun c hc => ih (h4 c hc) (by omega)) h5
      have e2 := kinds_in_ok (F := F) (k := k) h (side := 1) (sel := Prod.snd) (.inr ⟨rfl, rfl⟩) (fun c hc => ih (h4 c hc) (by omega)) h6
      simp only [F_ports, Bx.d, h2, grp, g0, gS, x_v, x_k, x_tup, x_lst, x_dct, x_op, x_cmp, x_chn, chn_t, chn_f, sel_t, sel_f, and_t, and_f, or_t, or_f, x_and, x_or, x_not, neg_int, x_neg, x_ite, x_ix, gD_int, gD_str, x_g, gin_str, gix_dct, gin_dct, x_gix, x_gin, slA_int, slB_int, slC_int, x_slA, x_slB, slCX_int, x_slC, rev_lst, x_rev, x_call, x_bi, x_mt, mtX_index, mtX_get, mt_index, mt_get, x_lc, lcB_f, lcG_at, lcC_s, lcR_f, lcR_t, lcR_m, z_nil, z_cons, c_nil, cnd_t, cnd_f, cnd_nil, c_cons, s_nil, s_cons, s_set, s_setI, s_setM, setM_nil, setM_dct, opt_s, tp_tup, s_tp, q_nil, q_cons, t_nm, t_tp, appX_l, s_app, extX_l, s_ext, popX_c, s_pop, s_put, s_ex, iteS_t, iteS_f, s_ite, for_f, s_for, wh_at, s_while, s_ret, s_retN, s_raise, s_brk, s_cont, s_pass, o_add, o_sub, o_addT, o_mul, sm_of, o_mod, o_div, th_bl, th_int, th_str, th_non, th_tup, th_lst, i_lst, i_tup, i_enL, i_enT, i_zL, i_zT, b_lenS, b_lenA, b_lenT, b_lenL, b_tupT, b_tupL, b_lstT, b_lstL, b_sorted, b_sset, b_dict, isi_s, b_isi, all_s, b_all, any_s, b_any, max_s, b_max, D.isTys, D.isTy, ixT, ixL, ixA, cm_int, cm_str, cm_bl, cm_nint, cm_nstr, cm_nbl, cm_lt, cm_le, cm_gt, cm_ge, cm_in, cm_nin, cm_isN, cm_isI, cm_isS, cm_isB, cm_isT, cm_isL, cm_snN, cm_snI, cm_snS, cm_snB, cm_snT, cm_snL, e_rt, e_nx, e_exc, w_nil, w_cons, List.map_cons, List.map_nil, List.length_cons, List.length_nil, List.cons_append, List.nil_append, List.append_nil, List.getElem?_cons_zero, List.getElem?_cons_succ, List.getElem?_nil, List.set_cons_zero, List.set_cons_succ, r_b, r_be, r_x, r_t, r_te, n_nx, n_rt, n_bk, n_ct, n_exc, u_nx, u_ct, u_bk, u_rt, u_exc, startE, List.replicate, Nat.reduceAdd, Nat.reduceSub, atI_0, atI_1, atI_2, atI_3, Bool.false_and, Bool.true_and, Bool.not_true, Bool.not_false, Bool.false_eq_true, if_false, if_true, reduceIte, Int.reduceLT, Int.reduceNeg, Nat.reduceLeDiff, Bool.or_true, Bool.true_or, SZ, hg, e1, e2, h7, kdD]
end
end B

set_option maxHeartbeats 1000000
/-! Th3: the laws' own kinds, likeness, draws. -/
namespace B
open PySem
section
variable {T : Nat → Option Fn} {G : List D} {F k : Nat}
theorem putAll_new : ∀ {ms ds : List (D × D)}, (∀ p ∈ ms, ∀ q ∈ ds, D.eqv q.1 p.1 = false) → ms.Pairwise (fun p q => D.eqv p.1 q.1 = false) → D.putAll ds ms = ds ++ ms
  | [], ds, _, _ => by simp [D.putAll]
  | p :: r, ds, h1, h2 => by
    obtain ⟨h3, h4⟩ := List.pairwise_cons.mp h2
    have e : D.put ds p.1 p.2 = ds ++ [p] := by
      unfold D.put
      rw [if_neg]
      intro z
      obtain ⟨q, hq, e⟩ := List.any_eq_true.mp z
      rw [h1 p (List.mem_cons_self ..) q hq] at e
      cases e
    simp only [D.putAll]
    rw [e, putAll_new (fun q hq x hx => ?_) h4, List.append_assoc]
    · rfl
    · rcases List.mem_append.mp hx with hx | hx
      · exact h1 q (List.mem_cons_of_mem _ hq) x hx
      · rw [List.mem_singleton.mp hx]; exact h3 q hq
/-- dict([(box[0], box) ..]) -/
def boxD (s : Sh) : List (D × D) := s.bs.map fun b => (.int b.n, b.d)
theorem dict_boxes {s : Sh} (hn : (s.bs.map (·.n)).Nodup) : D.dictD (s.bs.map fun b => .tup [.int b.n, b.d]) = .ok (.dct (boxD s)) := by
  have e1 : ∀ l : List Bx, D.pairs (l.map fun b => .tup [.int b.n, b.d]) = some (l.map fun b => (.int b.n, b.d)) := by
    intro l
    induction l with
    | nil => rfl
    | cons b l ih => simp only [List.map_cons, D.pairs, ih, Option.map_some]
  have e2 : ∀ l : List Bx, D.keysTy false (l.map fun b => (D.int b.n, b.d)) = true := by
    intro l
    induction l with
    | nil => rfl
    | cons b l ih => simp only [List.map_cons, D.keysTy, D.keyTy, ih]; rfl
  unfold D.dictD
  rw [e1]
  dsimp only
  rw [if_pos (e2 _), putAll_new (fun _ _ _ h => by cases h)]
  · rfl
  · refine List.pairwise_map.mpr ?_
    refine List.Pairwise.imp ?_ (List.pairwise_map.mp hn)
    intro a b h
    simpa [D.eqv] using h
theorem find_boxes (n : Int) : ∀ l : List Bx, D.find (l.map fun b => (D.int b.n, b.d)) (.int n) = (l.find? fun b => b.n == n).map Bx.d
  | [] => rfl
  | b :: l => by
    unfold D.find
    rw [List.map_cons, List.find?_cons, List.find?_cons]
    have e : D.eqv (D.int b.n) (D.int n) = (b.n == n) := by simp only [D.eqv]
    rw [e]
    cases b.n == n
    · exact find_boxes n l
    · rfl
theorem ix_boxes {s : Sh} {n : Int} {c : Bx} (h : s.box n = some c) : D.ixD (.dct (boxD s)) (.int n) = .ok c.d := by
  have e2 : ∀ l : List Bx, D.keysTy false (l.map fun b => (D.int b.n, b.d)) = true := by
    intro l
    induction l with
    | nil => rfl
    | cons b l ih => simp only [List.map_cons, D.keysTy, D.keyTy, ih]; rfl
  have e3 : D.find (boxD s) (.int n) = some c.d := by
    unfold boxD
    rw [find_boxes]
    unfold Sh.box at h
    rw [h]
    rfl
  simp only [D.ixD, D.keyTy, boxD, e2, Bool.false_and, Bool.not_false, Bool.and_self, if_true]
  rw [show (s.bs.map fun b => (D.int b.n, b.d)) = boxD s from rfl, e3]
/-- the laws' kinds -/
theorem lkinds_ok (h : T 30 = some F_law_kinds) : ∀ {j k : Nat} {b : Bx} {q : Kn}, WB j b q → j ≤ k → run T G F (k + 1) 30 [b.d] = .ok (kdD q) := by
  have row : ∀ {k : Nat} {b : Bx} {q : Kn}, rowOf b.w = some q → run T G F (k + 1) 30 [b.d] = .ok (kdD q) := by
    intro k b q hr
    obtain ⟨n, w, s⟩ := b
    have hm := row_cases hr
    rw [run_at h rfl]
    dsimp only at hm
    simp only [rows, List.mem_cons, Prod.mk.injEq, List.not_mem_nil, or_false] at hm
    rcases hm with ⟨rfl, rfl⟩ | ⟨rfl, rfl⟩ | ⟨rfl, rfl⟩ | ⟨rfl, rfl⟩ | ⟨rfl, rfl⟩ | ⟨rfl, rfl⟩ | ⟨rfl, rfl⟩ | ⟨rfl, rfl⟩ | ⟨rfl, rfl⟩ <;> kernel_rfl
  intro j
  induction j with
  | zero => exact fun hb _ => row hb
  | succ j ih =>
    intro k b q hb hk
    rcases hb with hb | ⟨h1, ins, outs, s, kd, h2, h3, h4, h5, h6, h7⟩
    · exact row hb
    · obtain ⟨k, rfl⟩ : ∃ k', k = k' + 1 := ⟨k - 1, by omega⟩
      rw [run_at h rfl]
      have hg : (b.w == ("group" : Str)) = true := by rw [h1]; rfl
      have side : ∀ {ps : List (Int × Int)} {sel : Kn → List Str} {i : Int}, (i = 0 ∧ sel = Prod.fst ∨ i = 1 ∧ sel = Prod.snd) → (∀ x ∈ ps, (∃ c ∈ s.bs, c.n = x.1) ∧ 0 ≤ x.2 ∧ x.2 < (sel (kd x.1)).length) → ∀ x ∈ ps, ∃ c : Bx, D.ixD (.dct (boxD s)) (.int x.1) = .ok c.d ∧ run T G F (k + 1) 30 [c.d] = .ok (kdD (kd x.1)) ∧ D.ixD (kdD (kd x.1)) (.int i) = .ok (.tup ((sel (kd x.1)).map .str)) ∧ L2.atI ((sel (kd x.1)).map D.str) x.2 = some (.str (pick (sel (kd x.1)) x.2)) := by
        intro ps sel i hi hp x hx
        obtain ⟨g1, g2, g3⟩ := hp x hx
        obtain ⟨c, e1, e2, e3⟩ := box_of g1
        refine ⟨c, ix_boxes e1, ?_, ?_, pick_at g2 g3⟩
        · rw [← e3]; exact ih (h4 c e2) (by omega)
        · rcases hi with ⟨rfl, rfl⟩ | ⟨rfl, rfl⟩ <;> simp only [kdD, g0, gS, x_v, x_k, x_tup, x_lst, x_dct, x_op, x_cmp, x_chn, chn_t, chn_f, sel_t, sel_f, and_t, and_f, or_t, or_f, x_and, x_or, x_not, neg_int, x_neg, x_ite, x_ix, gD_int, gD_str, x_g, gin_str, gix_dct, gin_dct, x_gix, x_gin, slA_int, slB_int, slC_int, x_slA, x_slB, slCX_int, x_slC, rev_lst, x_rev, x_call, x_bi, x_mt, mtX_index, mtX_get, mt_index, mt_get, x_lc, lcB_f, lcG_at, lcC_s, lcR_f, lcR_t, lcR_m, z_nil, z_cons, c_nil, cnd_t, cnd_f, cnd_nil, c_cons, s_nil, s_cons, s_set, s_setI, s_setM, setM_nil, setM_dct, opt_s, tp_tup, s_tp, q_nil, q_cons, t_nm, t_tp, appX_l, s_app, extX_l, s_ext, popX_c, s_pop, s_put, s_ex, iteS_t, iteS_f, s_ite, for_f, s_for, wh_at, s_while, s_ret, s_retN, s_raise, s_brk, s_cont, s_pass, o_add, o_sub, o_addT, o_mul, sm_of, o_mod, o_div, th_bl, th_int, th_str, th_non, th_tup, th_lst, i_lst, i_tup, i_enL, i_enT, i_zL, i_zT, b_lenS, b_lenA, b_lenT, b_lenL, b_tupT, b_tupL, b_lstT, b_lstL, b_sorted, b_sset, b_dict, isi_s, b_isi, all_s, b_all, any_s, b_any, max_s, b_max, D.isTys, D.isTy, ixT, ixL, ixA, cm_int, cm_str, cm_bl, cm_nint, cm_nstr, cm_nbl, cm_lt, cm_le, cm_gt, cm_ge, cm_in, cm_nin, cm_isN, cm_isI, cm_isS, cm_isB, cm_isT, cm_isL, cm_snN, cm_snI, cm_snS, cm_snB, cm_snT, cm_snL, e_rt, e_nx, e_exc, w_nil, w_cons, List.map_cons, List.map_nil, List.length_cons, List.length_nil, List.cons_append, List.nil_append, List.append_nil, List.getElem?_cons_zero, List.getElem?_cons_succ, List.getElem?_nil, List.set_cons_zero, List.set_cons_succ, r_b, r_be, r_x, r_t, r_te, n_nx, n_rt, n_bk, n_ct, n_exc, u_nx, u_ct, u_bk, u_rt, u_exc, startE, List.replicate, Nat.reduceAdd, Nat.reduceSub, atI_0, atI_1, atI_2, atI_3, Bool.false_and, Bool.true_and, Bool.not_true, Bool.not_false, Bool.false_eq_true, if_false, if_true, reduceIte, Int.reduceLT, Int.reduceNeg, Nat.reduceLeDiff, Bool.or_true, Bool.true_or, SZ]
      have s1 := side (i := 0) (sel := Prod.fst) (.inl ⟨rfl, rfl⟩) h5
      have s2 := side (i := 1) (sel := Prod.snd) (.inr ⟨rfl, rfl⟩) h6
      simp only [F_law_kinds, Bx.d, h2, grp, Sh.d, g0, gS, x_v, x_k, x_tup, x_lst, x_dct, x_op, x_cmp, x_chn, chn_t, chn_f, sel_t, sel_f, and_t, and_f, or_t, or_f, x_and, x_or, x_not, neg_int, x_neg, x_ite, x_ix, gD_int, gD_str, x_g, gin_str, gix_dct, gin_dct, x_gix, x_gin, slA_int, slB_int, slC_int, x_slA, x_slB, slCX_int, x_slC, rev_lst, x_rev, x_call, x_bi, x_mt, mtX_index, mtX_get, mt_index, mt_get, x_lc, lcB_f, lcG_at, lcC_s, lcR_f, lcR_t, lcR_m, z_nil, z_cons, c_nil, cnd_t, cnd_f, cnd_nil, c_cons, s_nil, s_cons, s_set, s_setI, s_setM, setM_nil, setM_dct, opt_s, tp_tup, s_tp, q_nil, q_cons, t_nm, t_tp, appX_l, s_app, extX_l, s_ext, popX_c, s_pop, s_put, s_ex, iteS_t, iteS_f, s_ite, for_f, s_for, wh_at, s_while, s_ret, s_retN, s_raise, s_brk, s_cont, s_pass, o_add, o_sub, o_addT, o_mul, sm_of, o_mod, o_div, th_bl, th_int, th_str, th_non, th_tup, th_lst, i_lst, i_tup, i_enL, i_enT, i_zL, i_zT, b_lenS, b_lenA, b_lenT, b_lenL, b_tupT, b_tupL, b_lstT, b_lstL, b_sorted, b_sset, b_dict, isi_s, b_isi, all_s, b_all, any_s, b_any, max_s, b_max, D.isTys, D.isTy, ixT, ixL, ixA, cm_int, cm_str, cm_bl, cm_nint, cm_nstr, cm_nbl, cm_lt, cm_le, cm_gt, cm_ge, cm_in, cm_nin, cm_isN, cm_isI, cm_isS, cm_isB, cm_isT, cm_isL, cm_snN, cm_snI, cm_snS, cm_snB, cm_snT, cm_snL, e_rt, e_nx, e_exc, w_nil, w_cons, List.map_cons, List.map_nil, List.length_cons, List.length_nil, List.cons_append, List.nil_append, List.append_nil, List.getElem?_cons_zero, List.getElem?_cons_succ, List.getElem?_nil, List.set_cons_zero, List.set_cons_succ, r_b, r_be, r_x, r_t, r_te, n_nx, n_rt, n_bk, n_ct, n_exc, u_nx, u_ct, u_bk, u_rt, u_exc, startE, List.replicate, Nat.reduceAdd, Nat.reduceSub, atI_0, atI_1, atI_2, atI_3, Bool.false_and, Bool.true_and, Bool.not_true, Bool.not_false, Bool.false_eq_true, if_false, if_true, reduceIte, Int.reduceLT, Int.reduceNeg, Nat.reduceLeDiff, Bool.or_true, Bool.true_or, SZ, hg]
      rw [lc_map (g := fun b : Bx => .tup [.int b.n, b.d])]
      · simp only [g0, gS, x_v, x_k, x_tup, x_lst, x_dct, x_op, x_cmp, x_chn, chn_t, chn_f, sel_t, sel_f, and_t, and_f, or_t, or_f, x_and, x_or, x_not, neg_int, x_neg, x_ite, x_ix, gD_int, gD_str, x_g, gin_str, gix_dct, gin_dct, x_gix, x_gin, slA_int, slB_int, slC_int, x_slA, x_slB, slCX_int, x_slC, rev_lst, x_rev, x_call, x_bi, x_mt, mtX_index, mtX_get, mt_index, mt_get, x_lc, lcB_f, lcG_at, lcC_s, lcR_f, lcR_t, lcR_m, z_nil, z_cons, c_nil, cnd_t, cnd_f, cnd_nil, c_cons, s_nil, s_cons, s_set, s_setI, s_setM, setM_nil, setM_dct, opt_s, tp_tup, s_tp, q_nil, q_cons, t_nm, t_tp, appX_l, s_app, extX_l, s_ext, popX_c, s_pop, s_put, s_ex, iteS_t, iteS_f, s_ite, for_f, s_for, wh_at, s_while, s_ret, s_retN, s_raise, s_brk, s_cont, s_pass, o_add, o_sub, o_addT, o_mul, sm_of, o_mod, o_div, th_bl, th_int, th_str, th_non, th_tup, th_lst, i_lst, i_tup, i_enL, i_enT, i_zL, i_zT, b_lenS, b_lenA, b_lenT, b_lenL, b_tupT, b_tupL, b_lstT, b_lstL, b_sorted, b_sset, b_dict, isi_s, b_isi, all_s, b_all, any_s, b_any, max_s, b_max, D.isTys, D.isTy, ixT, ixL, ixA, cm_int, cm_str, cm_bl, cm_nint, cm_nstr, cm_nbl, cm_lt, cm_le, cm_gt, cm_ge, cm_in, cm_nin, cm_isN, cm_isI, cm_isS, cm_isB, cm_isT, cm_isL, cm_snN, cm_snI, cm_snS, cm_snB, cm_snT, cm_snL, e_rt, e_nx, e_exc, w_nil, w_cons, List.map_cons, List.map_nil, List.length_cons, List.length_nil, List.cons_append, List.nil_append, List.append_nil, List.getElem?_cons_zero, List.getElem?_cons_succ, List.getElem?_nil, List.set_cons_zero, List.set_cons_succ, r_b, r_be, r_x, r_t, r_te, n_nx, n_rt, n_bk, n_ct, n_exc, u_nx, u_ct, u_bk, u_rt, u_exc, startE, List.replicate, Nat.reduceAdd, Nat.reduceSub, atI_0, atI_1, atI_2, atI_3, Bool.false_and, Bool.true_and, Bool.not_true, Bool.not_false, Bool.false_eq_true, if_false, if_true, reduceIte, Int.reduceLT, Int.reduceNeg, Nat.reduceLeDiff, Bool.or_true, Bool.true_or, SZ, dict_boxes h3]
        rw [lc_map (l := ins) (g := fun x => .str (pick (kd x.1).1 x.2))]
        · simp only [g0, gS, x_v, x_k, x_tup, x_lst, x_dct, x_op, x_cmp, x_chn, chn_t, chn_f, sel_t, sel_f, and_t, and_f, or_t, or_f, x_and, x_or, x_not, neg_int, x_neg, x_ite, x_ix, gD_int, gD_str, x_g, gin_str, gix_dct, gin_dct, x_gix, x_gin, slA_int, slB_int, slC_int, x_slA, x_slB, slCX_int, x_slC, rev_lst, x_rev, x_call, x_bi, x_mt, mtX_index, mtX_get, mt_index, mt_get, x_lc, lcB_f, lcG_at, lcC_s, lcR_f, lcR_t, lcR_m, z_nil, z_cons, c_nil, cnd_t, cnd_f, cnd_nil, c_cons, s_nil, s_cons, s_set, s_setI, s_setM, setM_nil, setM_dct, opt_s, tp_tup, s_tp, q_nil, q_cons, t_nm, t_tp, appX_l, s_app, extX_l, s_ext, popX_c, s_pop, s_put, s_ex, iteS_t, iteS_f, s_ite, for_f, s_for, wh_at, s_while, s_ret, s_retN, s_raise, s_brk, s_cont, s_pass, o_add, o_sub, o_addT, o_mul, sm_of, o_mod, o_div, th_bl, th_int, th_str, th_non, th_tup, th_lst, i_lst, i_tup, i_enL, i_enT, i_zL, i_zT, b_lenS, b_lenA, b_lenT, b_lenL, b_tupT, b_tupL, b_lstT, b_lstL, b_sorted, b_sset, b_dict, isi_s, b_isi, all_s, b_all, any_s, b_any, max_s, b_max, D.isTys, D.isTy, ixT, ixL, ixA, cm_int, cm_str, cm_bl, cm_nint, cm_nstr, cm_nbl, cm_lt, cm_le, cm_gt, cm_ge, cm_in, cm_nin, cm_isN, cm_isI, cm_isS, cm_isB, cm_isT, cm_isL, cm_snN, cm_snI, cm_snS, cm_snB, cm_snT, cm_snL, e_rt, e_nx, e_exc, w_nil, w_cons, List.map_cons, List.map_nil, List.length_cons, List.length_nil, List.cons_append, List.nil_append, List.append_nil, List.getElem?_cons_zero, List.getElem?_cons_succ, List.getElem?_nil, List.set_cons_zero, List.set_cons_succ, r_b, r_be, r_x, r_t, r_te, n_nx, n_rt, n_bk, n_ct, n_exc, u_nx, u_ct, u_bk, u_rt, u_exc, startE, List.replicate, Nat.reduceAdd, Nat.reduceSub, atI_0, atI_1, atI_2, atI_3, Bool.false_and, Bool.true_and, Bool.not_true, Bool.not_false, Bool.false_eq_true, if_false, if_true, reduceIte, Int.reduceLT, Int.reduceNeg, Nat.reduceLeDiff, Bool.or_true, Bool.true_or, SZ]
          rw [lc_map (l := outs) (g := fun x => .str (pick (kd x.1).2 x.2))]
          · simp only [g0, gS, x_v, x_k, x_tup, x_lst, x_dct, x_op, x_cmp, x_chn, chn_t, chn_f, sel_t, sel_f, and_t, and_f, or_t, or_f, x_and, x_or, x_not, neg_int, x_neg, x_ite, x_ix, gD_int, gD_str, x_g, gin_str, gix_dct, gin_dct, x_gix, x_gin, slA_int, slB_int, slC_int, x_slA, x_slB, slCX_int, x_slC, rev_lst, x_rev, x_call, x_bi, x_mt, mtX_index, mtX_get, mt_index, mt_get, x_lc, lcB_f, lcG_at, lcC_s, lcR_f, lcR_t, lcR_m, z_nil, z_cons, c_nil, cnd_t, cnd_f, cnd_nil, c_cons, s_nil, s_cons, s_set, s_setI, s_setM, setM_nil, setM_dct, opt_s, tp_tup, s_tp, q_nil, q_cons, t_nm, t_tp, appX_l, s_app, extX_l, s_ext, popX_c, s_pop, s_put, s_ex, iteS_t, iteS_f, s_ite, for_f, s_for, wh_at, s_while, s_ret, s_retN, s_raise, s_brk, s_cont, s_pass, o_add, o_sub, o_addT, o_mul, sm_of, o_mod, o_div, th_bl, th_int, th_str, th_non, th_tup, th_lst, i_lst, i_tup, i_enL, i_enT, i_zL, i_zT, b_lenS, b_lenA, b_lenT, b_lenL, b_tupT, b_tupL, b_lstT, b_lstL, b_sorted, b_sset, b_dict, isi_s, b_isi, all_s, b_all, any_s, b_any, max_s, b_max, D.isTys, D.isTy, ixT, ixL, ixA, cm_int, cm_str, cm_bl, cm_nint, cm_nstr, cm_nbl, cm_lt, cm_le, cm_gt, cm_ge, cm_in, cm_nin, cm_isN, cm_isI, cm_isS, cm_isB, cm_isT, cm_isL, cm_snN, cm_snI, cm_snS, cm_snB, cm_snT, cm_snL, e_rt, e_nx, e_exc, w_nil, w_cons, List.map_cons, List.map_nil, List.length_cons, List.length_nil, List.cons_append, List.nil_append, List.append_nil, List.getElem?_cons_zero, List.getElem?_cons_succ, List.getElem?_nil, List.set_cons_zero, List.set_cons_succ, r_b, r_be, r_x, r_t, r_te, n_nx, n_rt, n_bk, n_ct, n_exc, u_nx, u_ct, u_bk, u_rt, u_exc, startE, List.replicate, Nat.reduceAdd, Nat.reduceSub, atI_0, atI_1, atI_2, atI_3, Bool.false_and, Bool.true_and, Bool.not_true, Bool.not_false, Bool.false_eq_true, if_false, if_true, reduceIte, Int.reduceLT, Int.reduceNeg, Nat.reduceLeDiff, Bool.or_true, Bool.true_or, SZ, h7, kdD, List.map_map]
            rfl
          · intro x hx
            obtain ⟨c, q1, q2, q3, q4⟩ := s2 x hx
            simp only [prD, g0, gS, x_v, x_k, x_tup, x_lst, x_dct, x_op, x_cmp, x_chn, chn_t, chn_f, sel_t, sel_f, and_t, and_f, or_t, or_f, x_and, x_or, x_not, neg_int, x_neg, x_ite, x_ix, gD_int, gD_str, x_g, gin_str, gix_dct, gin_dct, x_gix, x_gin, slA_int, slB_int, slC_int, x_slA, x_slB, slCX_int, x_slC, rev_lst, x_rev, x_call, x_bi, x_mt, mtX_index, mtX_get, mt_index, mt_get, x_lc, lcB_f, lcG_at, lcC_s, lcR_f, lcR_t, lcR_m, z_nil, z_cons, c_nil, cnd_t, cnd_f, cnd_nil, c_cons, s_nil, s_cons, s_set, s_setI, s_setM, setM_nil, setM_dct, opt_s, tp_tup, s_tp, q_nil, q_cons, t_nm, t_tp, appX_l, s_app, extX_l, s_ext, popX_c, s_pop, s_put, s_ex, iteS_t, iteS_f, s_ite, for_f, s_for, wh_at, s_while, s_ret, s_retN, s_raise, s_brk, s_cont, s_pass, o_add, o_sub, o_addT, o_mul, sm_of, o_mod, o_div, th_bl, th_int, th_str, th_non, th_tup, th_lst, i_lst, i_tup, i_enL, i_enT, i_zL, i_zT, b_lenS, b_lenA, b_lenT, b_lenL, b_tupT, b_tupL, b_lstT, b_lstL, b_sorted, b_sset, b_dict, isi_s, b_isi, all_s, b_all, any_s, b_any, max_s, b_max, D.isTys, D.isTy, ixT, ixL, ixA, cm_int, cm_str, cm_bl, cm_nint, cm_nstr, cm_nbl, cm_lt, cm_le, cm_gt, cm_ge, cm_in, cm_nin, cm_isN, cm_isI, cm_isS, cm_isB, cm_isT, cm_isL, cm_snN, cm_snI, cm_snS, cm_snB, cm_snT, cm_snL, e_rt, e_nx, e_exc, w_nil, w_cons, List.map_cons, List.map_nil, List.length_cons, List.length_nil, List.cons_append, List.nil_append, List.append_nil, List.getElem?_cons_zero, List.getElem?_cons_succ, List.getElem?_nil, List.set_cons_zero, List.set_cons_succ, r_b, r_be, r_x, r_t, r_te, n_nx, n_rt, n_bk, n_ct, n_exc, u_nx, u_ct, u_bk, u_rt, u_exc, startE, List.replicate, Nat.reduceAdd, Nat.reduceSub, atI_0, atI_1, atI_2, atI_3, Bool.false_and, Bool.true_and, Bool.not_true, Bool.not_false, Bool.false_eq_true, if_false, if_true, reduceIte, Int.reduceLT, Int.reduceNeg, Nat.reduceLeDiff, Bool.or_true, Bool.true_or, SZ, q1, q2, q3, q4]
        · intro x hx
          obtain ⟨c, q1, q2, q3, q4⟩ := s1 x hx
          simp only [prD, g0, gS, x_v, x_k, x_tup, x_lst, x_dct, x_op, x_cmp, x_chn, chn_t, chn_f, sel_t, sel_f, and_t, and_f, or_t, or_f, x_and, x_or, x_not, neg_int, x_neg, x_ite, x_ix, gD_int, gD_str, x_g, gin_str, gix_dct, gin_dct, x_gix, x_gin, slA_int, slB_int, slC_int, x_slA, x_slB, slCX_int, x_slC, rev_lst, x_rev, x_call, x_bi, x_mt, mtX_index, mtX_get, mt_index, mt_get, x_lc, lcB_f, lcG_at, lcC_s, lcR_f, lcR_t, lcR_m, z_nil, z_cons, c_nil, cnd_t, cnd_f, cnd_nil, c_cons, s_nil, s_cons, s_set, s_setI, s_setM, setM_nil, setM_dct, opt_s, tp_tup, s_tp, q_nil, q_cons, t_nm, t_tp, appX_l, s_app, extX_l, s_ext, popX_c, s_pop, s_put, s_ex, iteS_t, iteS_f, s_ite, for_f, s_for, wh_at, s_while, s_ret, s_retN, s_raise, s_brk, s_cont, s_pass, o_add, o_sub, o_addT, o_mul, sm_of, o_mod, o_div, th_bl, th_int, th_str, th_non, th_tup, th_lst, i_lst, i_tup, i_enL, i_enT, i_zL, i_zT, b_lenS, b_lenA, b_lenT, b_lenL, b_tupT, b_tupL, b_lstT, b_lstL, b_sorted, b_sset, b_dict, isi_s, b_isi, all_s, b_all, any_s, b_any, max_s, b_max, D.isTys, D.isTy, ixT, ixL, ixA, cm_int, cm_str, cm_bl, cm_nint, cm_nstr, cm_nbl, cm_lt, cm_le, cm_gt, cm_ge, cm_in, cm_nin, cm_isN, cm_isI, cm_isS, cm_isB, cm_isT, cm_isL, cm_snN, cm_snI, cm_snS, cm_snB, cm_snT, cm_snL, e_rt, e_nx, e_exc, w_nil, w_cons, List.map_cons, List.map_nil, List.length_cons, List.length_nil, List.cons_append, List.nil_append, List.append_nil, List.getElem?_cons_zero, List.getElem?_cons_succ, List.getElem?_nil, List.set_cons_zero, List.set_cons_succ, r_b, r_be, r_x, r_t, r_te, n_nx, n_rt, n_bk, n_ct, n_exc, u_nx, u_ct, u_bk, u_rt, u_exc, startE, List.replicate, Nat.reduceAdd, Nat.reduceSub, atI_0, atI_1, atI_2, atI_3, Bool.false_and, Bool.true_and, Bool.not_true, Bool.not_false, Bool.false_eq_true, if_false, if_true, reduceIte, Int.reduceLT, Int.reduceNeg, Nat.reduceLeDiff, Bool.or_true, Bool.true_or, SZ, q1, q2, q3, q4]
      · intro b _
        simp only [Bx.d, g0, gS, x_v, x_k, x_tup, x_lst, x_dct, x_op, x_cmp, x_chn, chn_t, chn_f, sel_t, sel_f, and_t, and_f, or_t, or_f, x_and, x_or, x_not, neg_int, x_neg, x_ite, x_ix, gD_int, gD_str, x_g, gin_str, gix_dct, gin_dct, x_gix, x_gin, slA_int, slB_int, slC_int, x_slA, x_slB, slCX_int, x_slC, rev_lst, x_rev, x_call, x_bi, x_mt, mtX_index, mtX_get, mt_index, mt_get, x_lc, lcB_f, lcG_at, lcC_s, lcR_f, lcR_t, lcR_m, z_nil, z_cons, c_nil, cnd_t, cnd_f, cnd_nil, c_cons, s_nil, s_cons, s_set, s_setI, s_setM, setM_nil, setM_dct, opt_s, tp_tup, s_tp, q_nil, q_cons, t_nm, t_tp, appX_l, s_app, extX_l, s_ext, popX_c, s_pop, s_put, s_ex, iteS_t, iteS_f, s_ite, for_f, s_for, wh_at, s_while, s_ret, s_retN, s_raise, s_brk, s_cont, s_pass, o_add, o_sub, o_addT, o_mul, sm_of, o_mod, o_div, th_bl, th_int, th_str, th_non, th_tup, th_lst, i_lst, i_tup, i_enL, i_enT, i_zL, i_zT, b_lenS, b_lenA, b_lenT, b_lenL, b_tupT, b_tupL, b_lstT, b_lstL, b_sorted, b_sset, b_dict, isi_s, b_isi, all_s, b_all, any_s, b_any, max_s, b_max, D.isTys, D.isTy, ixT, ixL, ixA, cm_int, cm_str, cm_bl, cm_nint, cm_nstr, cm_nbl, cm_lt, cm_le, cm_gt, cm_ge, cm_in, cm_nin, cm_isN, cm_isI, cm_isS, cm_isB, cm_isT, cm_isL, cm_snN, cm_snI, cm_snS, cm_snB, cm_snT, cm_snL, e_rt, e_nx, e_exc, w_nil, w_cons, List.map_cons, List.map_nil, List.length_cons, List.length_nil, List.cons_append, List.nil_append, List.append_nil, List.getElem?_cons_zero, List.getElem?_cons_succ, List.getElem?_nil, List.set_cons_zero, List.set_cons_succ, r_b, r_be, r_x, r_t, r_te, n_nx, n_rt, n_bk, n_ct, n_exc, u_nx, u_ct, u_bk, u_rt, u_exc, startE, List.replicate, Nat.reduceAdd, Nat.reduceSub, atI_0, atI_1, atI_2, atI_3, Bool.false_and, Bool.true_and, Bool.not_true, Bool.not_false, Bool.false_eq_true, if_false, if_true, reduceIte, Int.reduceLT, Int.reduceNeg, Nat.reduceLeDiff, Bool.or_true, Bool.true_or, SZ]
/-! ### alike -/
theorem bools_rep : ∀ n : Nat, D.boolsD (List.replicate n (D.bl true)) = some (List.replicate n true)
  | 0 => rfl
  | n + 1 => by simp only [List.replicate_succ, D.boolsD, bools_rep n, Option.map_some]
theorem zip_self : ∀ l : List D, D.zipD l l = l.map fun x => .tup [x, x]
  | [] => rfl
  | x :: l => by simp only [D.zipD, List.map_cons, zip_self l]
theorem same_str (h : T 66 = some F_law_same) (x : Str) : run T G F (k + 1) 66 [.str x, .str x] = .ok (.bl true) := by
  rw [run_at h rfl]
  simp only [F_law_same, g0, gS, x_v, x_k, x_tup, x_lst, x_dct, x_op, x_cmp, x_chn, chn_t, chn_f, sel_t, sel_f, and_t, and_f, or_t, or_f, x_and, x_or, x_not, neg_int, x_neg, x_ite, x_ix, gD_int, gD_str, x_g, gin_str, gix_dct, gin_dct, x_gix, x_gin, slA_int, slB_int, slC_int, x_slA, x_slB, slCX_int, x_slC, rev_lst, x_rev, x_call, x_bi, x_mt, mtX_index, mtX_get, mt_index, mt_get, x_lc, lcB_f, lcG_at, lcC_s, lcR_f, lcR_t, lcR_m, z_nil, z_cons, c_nil, cnd_t, cnd_f, cnd_nil, c_cons, s_nil, s_cons, s_set, s_setI, s_setM, setM_nil, setM_dct, opt_s, tp_tup, s_tp, q_nil, q_cons, t_nm, t_tp, appX_l, s_app, extX_l, s_ext, popX_c, s_pop, s_put, s_ex, iteS_t, iteS_f, s_ite, for_f, s_for, wh_at, s_while, s_ret, s_retN, s_raise, s_brk, s_cont, s_pass, o_add, o_sub, o_addT, o_mul, sm_of, o_mod, o_div, th_bl, th_int, th_str, th_non, th_tup, th_lst, i_lst, i_tup, i_enL, i_enT, i_zL, i_zT, b_lenS, b_lenA, b_lenT, b_lenL, b_tupT, b_tupL, b_lstT, b_lstL, b_sorted, b_sset, b_dict, isi_s, b_isi, all_s, b_all, any_s, b_any, max_s, b_max, D.isTys, D.isTy, ixT, ixL, ixA, cm_int, cm_str, cm_bl, cm_nint, cm_nstr, cm_nbl, cm_lt, cm_le, cm_gt, cm_ge, cm_in, cm_nin, cm_isN, cm_isI, cm_isS, cm_isB, cm_isT, cm_isL, cm_snN, cm_snI, cm_snS, cm_snB, cm_snT, cm_snL, e_rt, e_nx, e_exc, w_nil, w_cons, List.map_cons, List.map_nil, List.length_cons, List.length_nil, List.cons_append, List.nil_append, List.append_nil, List.getElem?_cons_zero, List.getElem?_cons_succ, List.getElem?_nil, List.set_cons_zero, List.set_cons_succ, r_b, r_be, r_x, r_t, r_te, n_nx, n_rt, n_bk, n_ct, n_exc, u_nx, u_ct, u_bk, u_rt, u_exc, startE, List.replicate, Nat.reduceAdd, Nat.reduceSub, atI_0, atI_1, atI_2, atI_3, Bool.false_and, Bool.true_and, Bool.not_true, Bool.not_false, Bool.false_eq_true, if_false, if_true, reduceIte, Int.reduceLT, Int.reduceNeg, Nat.reduceLeDiff, Bool.or_true, Bool.true_or, SZ, D.isTys, D.isTy, D.cmD, D.eqOk, D.eqv, beq_self_eq_true]
  rfl
theorem same_tup (h : T 66 = some F_law_same) {l : List D} (hl : ∀ x ∈ l, run T G F k 66 [x, x] = .ok (.bl true)) : run T G F (k + 1) 66 [.tup l, .tup l] = .ok (.bl true) := by
  rw [run_at h rfl]
  simp only [F_law_same, g0, gS, x_v, x_k, x_tup, x_lst, x_dct, x_op, x_cmp, x_chn, chn_t, chn_f, sel_t, sel_f, and_t, and_f, or_t, or_f, x_and, x_or, x_not, neg_int, x_neg, x_ite, x_ix, gD_int, gD_str, x_g, gin_str, gix_dct, gin_dct, x_gix, x_gin, slA_int, slB_int, slC_int, x_slA, x_slB, slCX_int, x_slC, rev_lst, x_rev, x_call, x_bi, x_mt, mtX_index, mtX_get, mt_index, mt_get, x_lc, lcB_f, lcG_at, lcC_s, lcR_f, lcR_t, lcR_m, z_nil, z_cons, c_nil, cnd_t, cnd_f, cnd_nil, c_cons, s_nil, s_cons, s_set, s_setI, s_setM, setM_nil, setM_dct, opt_s, tp_tup, s_tp, q_nil, q_cons, t_nm, t_tp, appX_l, s_app, extX_l, s_ext, popX_c, s_pop, s_put, s_ex, iteS_t, iteS_f, s_ite, for_f, s_for, wh_at, s_while, s_ret, s_retN, s_raise, s_brk, s_cont, s_pass, o_add, o_sub, o_addT, o_mul, sm_of, o_mod, o_div, th_bl, th_int, th_str, th_non, th_tup, th_lst, i_lst, i_tup, i_enL, i_enT, i_zL, i_zT, b_lenS, b_lenA, b_lenT, b_lenL, b_tupT, b_tupL, b_lstT, b_lstL, b_sorted, b_sset, b_dict, isi_s, b_isi, all_s, b_all, any_s, b_any, max_s, b_max, D.isTys, D.isTy, ixT, ixL, ixA, cm_int, cm_str, cm_bl, cm_nint, cm_nstr, cm_nbl, cm_lt, cm_le, cm_gt, cm_ge, cm_in, cm_nin, cm_isN, cm_isI, cm_isS, cm_isB, cm_isT, cm_isL, cm_snN, cm_snI, cm_snS, cm_snB, cm_snT, cm_snL, e_rt, e_nx, e_exc, w_nil, w_cons, List.map_cons, List.map_nil, List.length_cons, List.length_nil, List.cons_append, List.nil_append, List.append_nil, List.getElem?_cons_zero, List.getElem?_cons_succ, List.getElem?_nil, List.set_cons_zero, List.set_cons_succ, r_b, r_be, r_x, r_t, r_te, n_nx, n_rt, n_bk, n_ct, n_exc, u_nx, u_ct, u_bk, u_rt, u_exc, startE, List.replicate, Nat.reduceAdd, Nat.reduceSub, atI_0, atI_1, atI_2, atI_3, Bool.false_and, Bool.true_and, Bool.not_true, Bool.not_false, Bool.false_eq_true, if_false, if_true, reduceIte, Int.reduceLT, Int.reduceNeg, Nat.reduceLeDiff, Bool.or_true, Bool.true_or, SZ, D.isTys, D.isTy, Bool.not_true, beq_self_eq_true]
  rw [zip_self, lc_map (g := fun _ => .bl true)]
  · simp only [g0, gS, x_v, x_k, x_tup, x_lst, x_dct, x_op, x_cmp, x_chn, chn_t, chn_f, sel_t, sel_f, and_t, and_f, or_t, or_f, x_and, x_or, x_not, neg_int, x_neg, x_ite, x_ix, gD_int, gD_str, x_g, gin_str, gix_dct, gin_dct, x_gix, x_gin, slA_int, slB_int, slC_int, x_slA, x_slB, slCX_int, x_slC, rev_lst, x_rev, x_call, x_bi, x_mt, mtX_index, mtX_get, mt_index, mt_get, x_lc, lcB_f, lcG_at, lcC_s, lcR_f, lcR_t, lcR_m, z_nil, z_cons, c_nil, cnd_t, cnd_f, cnd_nil, c_cons, s_nil, s_cons, s_set, s_setI, s_setM, setM_nil, setM_dct, opt_s, tp_tup, s_tp, q_nil, q_cons, t_nm, t_tp, appX_l, s_app, extX_l, s_ext, popX_c, s_pop, s_put, s_ex, iteS_t, iteS_f, s_ite, for_f, s_for, wh_at, s_while, s_ret, s_retN, s_raise, s_brk, s_cont, s_pass, o_add, o_sub, o_addT, o_mul, sm_of, o_mod, o_div, th_bl, th_int, th_str, th_non, th_tup, th_lst, i_lst, i_tup, i_enL, i_enT, i_zL, i_zT, b_lenS, b_lenA, b_lenT, b_lenL, b_tupT, b_tupL, b_lstT, b_lstL, b_sorted, b_sset, b_dict, isi_s, b_isi, all_s, b_all, any_s, b_any, max_s, b_max, D.isTys, D.isTy, ixT, ixL, ixA, cm_int, cm_str, cm_bl, cm_nint, cm_nstr, cm_nbl, cm_lt, cm_le, cm_gt, cm_ge, cm_in, cm_nin, cm_isN, cm_isI, cm_isS, cm_isB, cm_isT, cm_isL, cm_snN, cm_snI, cm_snS, cm_snB, cm_snT, cm_snL, e_rt, e_nx, e_exc, w_nil, w_cons, List.map_cons, List.map_nil, List.length_cons, List.length_nil, List.cons_append, List.nil_append, List.append_nil, List.getElem?_cons_zero, List.getElem?_cons_succ, List.getElem?_nil, List.set_cons_zero, List.set_cons_succ, r_b, r_be, r_x, r_t, r_te, n_nx, n_rt, n_bk, n_ct, n_exc, u_nx, u_ct, u_bk, u_rt, u_exc, startE, List.replicate, Nat.reduceAdd, Nat.reduceSub, atI_0, atI_1, atI_2, atI_3, Bool.false_and, Bool.true_and, Bool.not_true, Bool.not_false, Bool.false_eq_true, if_false, if_true, reduceIte, Int.reduceLT, Int.reduceNeg, Nat.reduceLeDiff, Bool.or_true, Bool.true_or, SZ]
    have e : ∀ l : List D, (l.map fun _ => D.bl true) = List.replicate l.length (.bl true) := by
      intro l
      induction l with
      | nil => rfl
      | cons _ l ih => rw [List.map_cons, ih]; rfl
    rw [e, bools_rep]
    simp only [g0, gS, x_v, x_k, x_tup, x_lst, x_dct, x_op, x_cmp, x_chn, chn_t, chn_f, sel_t, sel_f, and_t, and_f, or_t, or_f, x_and, x_or, x_not, neg_int, x_neg, x_ite, x_ix, gD_int, gD_str, x_g, gin_str, gix_dct, gin_dct, x_gix, x_gin, slA_int, slB_int, slC_int, x_slA, x_slB, slCX_int, x_slC, rev_lst, x_rev, x_call, x_bi, x_mt, mtX_index, mtX_get, mt_index, mt_get, x_lc, lcB_f, lcG_at, lcC_s, lcR_f, lcR_t, lcR_m, z_nil, z_cons, c_nil, cnd_t, cnd_f, cnd_nil, c_cons, s_nil, s_cons, s_set, s_setI, s_setM, setM_nil, setM_dct, opt_s, tp_tup, s_tp, q_nil, q_cons, t_nm, t_tp, appX_l, s_app, extX_l, s_ext, popX_c, s_pop, s_put, s_ex, iteS_t, iteS_f, s_ite, for_f, s_for, wh_at, s_while, s_ret, s_retN, s_raise, s_brk, s_cont, s_pass, o_add, o_sub, o_addT, o_mul, sm_of, o_mod, o_div, th_bl, th_int, th_str, th_non, th_tup, th_lst, i_lst, i_tup, i_enL, i_enT, i_zL, i_zT, b_lenS, b_lenA, b_lenT, b_lenL, b_tupT, b_tupL, b_lstT, b_lstL, b_sorted, b_sset, b_dict, isi_s, b_isi, all_s, b_all, any_s, b_any, max_s, b_max, D.isTys, D.isTy, ixT, ixL, ixA, cm_int, cm_str, cm_bl, cm_nint, cm_nstr, cm_nbl, cm_lt, cm_le, cm_gt, cm_ge, cm_in, cm_nin, cm_isN, cm_isI, cm_isS, cm_isB, cm_isT, cm_isL, cm_snN, cm_snI, cm_snS, cm_snB, cm_snT, cm_snL, e_rt, e_nx, e_exc, w_nil, w_cons, List.map_cons, List.map_nil, List.length_cons, List.length_nil, List.cons_append, List.nil_append, List.append_nil, List.getElem?_cons_zero, List.getElem?_cons_succ, List.getElem?_nil, List.set_cons_zero, List.set_cons_succ, r_b, r_be, r_x, r_t, r_te, n_nx, n_rt, n_bk, n_ct, n_exc, u_nx, u_ct, u_bk, u_rt, u_exc, startE, List.replicate, Nat.reduceAdd, Nat.reduceSub, atI_0, atI_1, atI_2, atI_3, Bool.false_and, Bool.true_and, Bool.not_true, Bool.not_false, Bool.false_eq_true, if_false, if_true, reduceIte, Int.reduceLT, Int.reduceNeg, Nat.reduceLeDiff, Bool.or_true, Bool.true_or, SZ]
    simp
  · intro x hx
    simp only [g0, gS, x_v, x_k, x_tup, x_lst, x_dct, x_op, x_cmp, x_chn, chn_t, chn_f, sel_t, sel_f, and_t, and_f, or_t, or_f, x_and, x_or, x_not, neg_int, x_neg, x_ite, x_ix, gD_int, gD_str, x_g, gin_str, gix_dct, gin_dct, x_gix, x_gin, slA_int, slB_int, slC_int, x_slA, x_slB, slCX_int, x_slC, rev_lst, x_rev, x_call, x_bi, x_mt, mtX_index, mtX_get, mt_index, mt_get, x_lc, lcB_f, lcG_at, lcC_s, lcR_f, lcR_t, lcR_m, z_nil, z_cons, c_nil, cnd_t, cnd_f, cnd_nil, c_cons, s_nil, s_cons, s_set, s_setI, s_setM, setM_nil, setM_dct, opt_s, tp_tup, s_tp, q_nil, q_cons, t_nm, t_tp, appX_l, s_app, extX_l, s_ext, popX_c, s_pop, s_put, s_ex, iteS_t, iteS_f, s_ite, for_f, s_for, wh_at, s_while, s_ret, s_retN, s_raise, s_brk, s_cont, s_pass, o_add, o_sub, o_addT, o_mul, sm_of, o_mod, o_div, th_bl, th_int, th_str, th_non, th_tup, th_lst, i_lst, i_tup, i_enL, i_enT, i_zL, i_zT, b_lenS, b_lenA, b_lenT, b_lenL, b_tupT, b_tupL, b_lstT, b_lstL, b_sorted, b_sset, b_dict, isi_s, b_isi, all_s, b_all, any_s, b_any, max_s, b_max, D.isTys, D.isTy, ixT, ixL, ixA, cm_int, cm_str, cm_bl, cm_nint, cm_nstr, cm_nbl, cm_lt, cm_le, cm_gt, cm_ge, cm_in, cm_nin, cm_isN, cm_isI, cm_isS, cm_isB, cm_isT, cm_isL, cm_snN, cm_snI, cm_snS, cm_snB, cm_snT, cm_snL, e_rt, e_nx, e_exc, w_nil, w_cons, List.map_cons, List.map_nil, List.length_cons, List.length_nil, List.cons_append, List.nil_append, List.append_nil, List.getElem?_cons_zero, List.getElem?_cons_succ, List.getElem?_nil, List.set_cons_zero, List.set_cons_succ, r_b, r_be, r_x, r_t, r_te, n_nx, n_rt, n_bk, n_ct, n_exc, u_nx, u_ct, u_bk, u_rt, u_exc, startE, List.replicate, Nat.reduceAdd, Nat.reduceSub, atI_0, atI_1, atI_2, atI_3, Bool.false_and, Bool.true_and, Bool.not_true, Bool.not_false, Bool.false_eq_true, if_false, if_true, reduceIte, Int.reduceLT, Int.reduceNeg, Nat.reduceLeDiff, Bool.or_true, Bool.true_or, SZ, hl x hx]
theorem same_kd (h : T 66 = some F_law_same) (q : Kn) : run T G F (k + 3) 66 [kdD q, kdD q] = .ok (.bl true) := by
  refine same_tup h fun x hx => ?_
  simp only [List.mem_cons, List.not_mem_nil, or_false] at hx
  rcases hx with rfl | rfl
  · refine same_tup h fun x hx => ?_
    obtain ⟨y, _, rfl⟩ := List.mem_map.mp hx
    exact same_str h y
  · refine same_tup h fun x hx => ?_
    obtain ⟨y, _, rfl⟩ := List.mem_map.mp hx
    exact same_str h y
/-! ### cells, draws -/
def cellI (ns : List Int) (j : Nat) : Int := ns.getD j 0
theorem cell_ok (h : T 9 = some F_law_cell) (ns : List Int) (j : Nat) : run T G F (k + 1) 9 [.arg ns, .int (j : Nat)] = .ok (.int (cellI ns j)) := by
  rw [run_at h rfl]
  simp only [F_law_cell, g0, gS, x_v, x_k, x_tup, x_lst, x_dct, x_op, x_cmp, x_chn, chn_t, chn_f, sel_t, sel_f, and_t, and_f, or_t, or_f, x_and, x_or, x_not, neg_int, x_neg, x_ite, x_ix, gD_int, gD_str, x_g, gin_str, gix_dct, gin_dct, x_gix, x_gin, slA_int, slB_int, slC_int, x_slA, x_slB, slCX_int, x_slC, rev_lst, x_rev, x_call, x_bi, x_mt, mtX_index, mtX_get, mt_index, mt_get, x_lc, lcB_f, lcG_at, lcC_s, lcR_f, lcR_t, lcR_m, z_nil, z_cons, c_nil, cnd_t, cnd_f, cnd_nil, c_cons, s_nil, s_cons, s_set, s_setI, s_setM, setM_nil, setM_dct, opt_s, tp_tup, s_tp, q_nil, q_cons, t_nm, t_tp, appX_l, s_app, extX_l, s_ext, popX_c, s_pop, s_put, s_ex, iteS_t, iteS_f, s_ite, for_f, s_for, wh_at, s_while, s_ret, s_retN, s_raise, s_brk, s_cont, s_pass, o_add, o_sub, o_addT, o_mul, sm_of, o_mod, o_div, th_bl, th_int, th_str, th_non, th_tup, th_lst, i_lst, i_tup, i_enL, i_enT, i_zL, i_zT, b_lenS, b_lenA, b_lenT, b_lenL, b_tupT, b_tupL, b_lstT, b_lstL, b_sorted, b_sset, b_dict, isi_s, b_isi, all_s, b_all, any_s, b_any, max_s, b_max, D.isTys, D.isTy, ixT, ixL, ixA, cm_int, cm_str, cm_bl, cm_nint, cm_nstr, cm_nbl, cm_lt, cm_le, cm_gt, cm_ge, cm_in, cm_nin, cm_isN, cm_isI, cm_isS, cm_isB, cm_isT, cm_isL, cm_snN, cm_snI, cm_snS, cm_snB, cm_snT, cm_snL, e_rt, e_nx, e_exc, w_nil, w_cons, List.map_cons, List.map_nil, List.length_cons, List.length_nil, List.cons_append, List.nil_append, List.append_nil, List.getElem?_cons_zero, List.getElem?_cons_succ, List.getElem?_nil, List.set_cons_zero, List.set_cons_succ, r_b, r_be, r_x, r_t, r_te, n_nx, n_rt, n_bk, n_ct, n_exc, u_nx, u_ct, u_bk, u_rt, u_exc, startE, List.replicate, Nat.reduceAdd, Nat.reduceSub, atI_0, atI_1, atI_2, atI_3, Bool.false_and, Bool.true_and, Bool.not_true, Bool.not_false, Bool.false_eq_true, if_false, if_true, reduceIte, Int.reduceLT, Int.reduceNeg, Nat.reduceLeDiff, Bool.or_true, Bool.true_or, SZ, D.ixD, atI_nat]
  by_cases hj : j < ns.length
  · have e : decide ((j : Int) < (ns.length : Int)) = true := decide_eq_true (by omega)
    simp only [e, g0, gS, x_v, x_k, x_tup, x_lst, x_dct, x_op, x_cmp, x_chn, chn_t, chn_f, sel_t, sel_f, and_t, and_f, or_t, or_f, x_and, x_or, x_not, neg_int, x_neg, x_ite, x_ix, gD_int, gD_str, x_g, gin_str, gix_dct, gin_dct, x_gix, x_gin, slA_int, slB_int, slC_int, x_slA, x_slB, slCX_int, x_slC, rev_lst, x_rev, x_call, x_bi, x_mt, mtX_index, mtX_get, mt_index, mt_get, x_lc, lcB_f, lcG_at, lcC_s, lcR_f, lcR_t, lcR_m, z_nil, z_cons, c_nil, cnd_t, cnd_f, cnd_nil, c_cons, s_nil, s_cons, s_set, s_setI, s_setM, setM_nil, setM_dct, opt_s, tp_tup, s_tp, q_nil, q_cons, t_nm, t_tp, appX_l, s_app, extX_l, s_ext, popX_c, s_pop, s_put, s_ex, iteS_t, iteS_f, s_ite, for_f, s_for, wh_at, s_while, s_ret, s_retN, s_raise, s_brk, s_cont, s_pass, o_add, o_sub, o_addT, o_mul, sm_of, o_mod, o_div, th_bl, th_int, th_str, th_non, th_tup, th_lst, i_lst, i_tup, i_enL, i_enT, i_zL, i_zT, b_lenS, b_lenA, b_lenT, b_lenL, b_tupT, b_tupL, b_lstT, b_lstL, b_sorted, b_sset, b_dict, isi_s, b_isi, all_s, b_all, any_s, b_any, max_s, b_max, D.isTys, D.isTy, ixT, ixL, ixA, cm_int, cm_str, cm_bl, cm_nint, cm_nstr, cm_nbl, cm_lt, cm_le, cm_gt, cm_ge, cm_in, cm_nin, cm_isN, cm_isI, cm_isS, cm_isB, cm_isT, cm_isL, cm_snN, cm_snI, cm_snS, cm_snB, cm_snT, cm_snL, e_rt, e_nx, e_exc, w_nil, w_cons, List.map_cons, List.map_nil, List.length_cons, List.length_nil, List.cons_append, List.nil_append, List.append_nil, List.getElem?_cons_zero, List.getElem?_cons_succ, List.getElem?_nil, List.set_cons_zero, List.set_cons_succ, r_b, r_be, r_x, r_t, r_te, n_nx, n_rt, n_bk, n_ct, n_exc, u_nx, u_ct, u_bk, u_rt, u_exc, startE, List.replicate, Nat.reduceAdd, Nat.reduceSub, atI_0, atI_1, atI_2, atI_3, Bool.false_and, Bool.true_and, Bool.not_true, Bool.not_false, Bool.false_eq_true, if_false, if_true, reduceIte, Int.reduceLT, Int.reduceNeg, Nat.reduceLeDiff, Bool.or_true, Bool.true_or, SZ, atI_nat, List.getElem?_eq_getElem hj, cellI, List.getD_eq_getElem?_getD, Option.getD_some]
  · have e : decide ((j : Int) < (ns.length : Int)) = false := decide_eq_false (by omega)
    simp only [e, g0, gS, x_v, x_k, x_tup, x_lst, x_dct, x_op, x_cmp, x_chn, chn_t, chn_f, sel_t, sel_f, and_t, and_f, or_t, or_f, x_and, x_or, x_not, neg_int, x_neg, x_ite, x_ix, gD_int, gD_str, x_g, gin_str, gix_dct, gin_dct, x_gix, x_gin, slA_int, slB_int, slC_int, x_slA, x_slB, slCX_int, x_slC, rev_lst, x_rev, x_call, x_bi, x_mt, mtX_index, mtX_get, mt_index, mt_get, x_lc, lcB_f, lcG_at, lcC_s, lcR_f, lcR_t, lcR_m, z_nil, z_cons, c_nil, cnd_t, cnd_f, cnd_nil, c_cons, s_nil, s_cons, s_set, s_setI, s_setM, setM_nil, setM_dct, opt_s, tp_tup, s_tp, q_nil, q_cons, t_nm, t_tp, appX_l, s_app, extX_l, s_ext, popX_c, s_pop, s_put, s_ex, iteS_t, iteS_f, s_ite, for_f, s_for, wh_at, s_while, s_ret, s_retN, s_raise, s_brk, s_cont, s_pass, o_add, o_sub, o_addT, o_mul, sm_of, o_mod, o_div, th_bl, th_int, th_str, th_non, th_tup, th_lst, i_lst, i_tup, i_enL, i_enT, i_zL, i_zT, b_lenS, b_lenA, b_lenT, b_lenL, b_tupT, b_tupL, b_lstT, b_lstL, b_sorted, b_sset, b_dict, isi_s, b_isi, all_s, b_all, any_s, b_any, max_s, b_max, D.isTys, D.isTy, ixT, ixL, ixA, cm_int, cm_str, cm_bl, cm_nint, cm_nstr, cm_nbl, cm_lt, cm_le, cm_gt, cm_ge, cm_in, cm_nin, cm_isN, cm_isI, cm_isS, cm_isB, cm_isT, cm_isL, cm_snN, cm_snI, cm_snS, cm_snB, cm_snT, cm_snL, e_rt, e_nx, e_exc, w_nil, w_cons, List.map_cons, List.map_nil, List.length_cons, List.length_nil, List.cons_append, List.nil_append, List.append_nil, List.getElem?_cons_zero, List.getElem?_cons_succ, List.getElem?_nil, List.set_cons_zero, List.set_cons_succ, r_b, r_be, r_x, r_t, r_te, n_nx, n_rt, n_bk, n_ct, n_exc, u_nx, u_ct, u_bk, u_rt, u_exc, startE, List.replicate, Nat.reduceAdd, Nat.reduceSub, atI_0, atI_1, atI_2, atI_3, Bool.false_and, Bool.true_and, Bool.not_true, Bool.not_false, Bool.false_eq_true, if_false, if_true, reduceIte, Int.reduceLT, Int.reduceNeg, Nat.reduceLeDiff, Bool.or_true, Bool.true_or, SZ, cellI, List.getD_eq_getElem?_getD, List.getElem?_eq_none (by omega : ns.length ≤ j), Option.getD_none]
/-- the laws' mixing -/
def mixI (x p m : Int) : Int := (x * 48271 % p) * ((x * 48271 % p) + 7) % p % m
theorem mixI_lt {x p m : Int} (hm : 0 < m) : 0 ≤ mixI x p m ∧ mixI x p m < m := ⟨Int.emod_nonneg _ (by omega), Int.emod_lt_of_pos _ hm⟩
theorem mix_ok (h : T 40 = some F_law_mix) {x p m : Int} (hp : 0 < p) (hp2 : p < 1000000) (hm : 0 < m) : run T G F (k + 1) 40 [.int x, .int p, .int m] = .ok (.int (mixI x p m)) := by
  rw [run_at h rfl]
  have s1 : D.small 48271 = true := by decide
  have s2 : D.small (x * 48271 % p) = true := by
    have h1 := Int.emod_nonneg (x * 48271) (by omega : p ≠ 0)
    have h2 := Int.emod_lt_of_pos (x * 48271) hp
    exact decide_eq_true (by omega)
  simp only [F_law_mix, g0, gS, x_v, x_k, x_tup, x_lst, x_dct, x_op, x_cmp, x_chn, chn_t, chn_f, sel_t, sel_f, and_t, and_f, or_t, or_f, x_and, x_or, x_not, neg_int, x_neg, x_ite, x_ix, gD_int, gD_str, x_g, gin_str, gix_dct, gin_dct, x_gix, x_gin, slA_int, slB_int, slC_int, x_slA, x_slB, slCX_int, x_slC, rev_lst, x_rev, x_call, x_bi, x_mt, mtX_index, mtX_get, mt_index, mt_get, x_lc, lcB_f, lcG_at, lcC_s, lcR_f, lcR_t, lcR_m, z_nil, z_cons, c_nil, cnd_t, cnd_f, cnd_nil, c_cons, s_nil, s_cons, s_set, s_setI, s_setM, setM_nil, setM_dct, opt_s, tp_tup, s_tp, q_nil, q_cons, t_nm, t_tp, appX_l, s_app, extX_l, s_ext, popX_c, s_pop, s_put, s_ex, iteS_t, iteS_f, s_ite, for_f, s_for, wh_at, s_while, s_ret, s_retN, s_raise, s_brk, s_cont, s_pass, o_add, o_sub, o_addT, o_mul, sm_of, o_mod, o_div, th_bl, th_int, th_str, th_non, th_tup, th_lst, i_lst, i_tup, i_enL, i_enT, i_zL, i_zT, b_lenS, b_lenA, b_lenT, b_lenL, b_tupT, b_tupL, b_lstT, b_lstL, b_sorted, b_sset, b_dict, isi_s, b_isi, all_s, b_all, any_s, b_any, max_s, b_max, D.isTys, D.isTy, ixT, ixL, ixA, cm_int, cm_str, cm_bl, cm_nint, cm_nstr, cm_nbl, cm_lt, cm_le, cm_gt, cm_ge, cm_in, cm_nin, cm_isN, cm_isI, cm_isS, cm_isB, cm_isT, cm_isL, cm_snN, cm_snI, cm_snS, cm_snB, cm_snT, cm_snL, e_rt, e_nx, e_exc, w_nil, w_cons, List.map_cons, List.map_nil, List.length_cons, List.length_nil, List.cons_append, List.nil_append, List.append_nil, List.getElem?_cons_zero, List.getElem?_cons_succ, List.getElem?_nil, List.set_cons_zero, List.set_cons_succ, r_b, r_be, r_x, r_t, r_te, n_nx, n_rt, n_bk, n_ct, n_exc, u_nx, u_ct, u_bk, u_rt, u_exc, startE, List.replicate, Nat.reduceAdd, Nat.reduceSub, atI_0, atI_1, atI_2, atI_3, Bool.false_and, Bool.true_and, Bool.not_true, Bool.not_false, Bool.false_eq_true, if_false, if_true, reduceIte, Int.reduceLT, Int.reduceNeg, Nat.reduceLeDiff, Bool.or_true, Bool.true_or, SZ, s1, s2, hp, hm, mixI]
end
end B

set_option maxHeartbeats 1000000
/-! Th4: drawn sheets. -/
namespace B
open PySem
section
variable {T : Nat → Option Fn} {G : List D} {F k : Nat}
/-! ### settings -/
def settD (x : Int) (w : Str) : D :=
  if w == "const" || w == "late" then .int (([0, 1, 2, 999, 500] : List Int).getD (mixI x 9973 5).toNat 0)
  else if w == "words" then .str ((["", "a", "abc", "zzzzzzzz"] : List Str).getD (mixI x 9967 4).toNat Str.empty)
  else .non
theorem settD_imm (x : Int) (w : Str) : (settD x w).imm = true := by
  unfold settD
  split
  · rfl
  · split <;> rfl
theorem eqv_str (a b : Str) : D.eqv (.str a) (.str b) = (a == b) := by simp only [D.eqv]
theorem eqv_int (a b : Int) : D.eqv (.int a) (.int b) = (a == b) := by simp only [D.eqv]
theorem plain_strs : ∀ l : List Str, D.plainL (l.map D.str) = true ∧ D.depL (l.map D.str) = 0
  | [] => ⟨rfl, rfl⟩
  | x :: l => by obtain ⟨a, b⟩ := plain_strs l; exact ⟨by simp only [List.map_cons, D.plainL, D.plain, a]; rfl, by simp only [List.map_cons, D.depL, D.dep, b]; rfl⟩
theorem plain_ints : ∀ l : List Int, D.plainL (l.map D.int) = true ∧ D.depL (l.map D.int) = 0
  | [] => ⟨rfl, rfl⟩
  | x :: l => by obtain ⟨a, b⟩ := plain_ints l; exact ⟨by simp only [List.map_cons, D.plainL, D.plain, a]; rfl, by simp only [List.map_cons, D.depL, D.dep, b]; rfl⟩
theorem any_str (w : Str) : ∀ l : List Str, ((l.map D.str).any fun y => D.eqv y (.str w)) = l.contains w
  | [] => rfl
  | x :: l => by rw [List.map_cons, List.any_cons, List.contains_cons, any_str w l, eqv_str, Bool.beq_comm (a := w)]
theorem any_int (w : Int) : ∀ l : List Int, ((l.map D.int).any fun y => D.eqv y (.int w)) = l.contains w
  | [] => rfl
  | x :: l => by rw [List.map_cons, List.any_cons, List.contains_cons, any_int w l, eqv_int, Bool.beq_comm (a := w)]
theorem mem_strs (w : Str) (l : List Str) : D.mem (.str w) (.tup (l.map D.str)) = .ok (l.contains w) ∧ D.mem (.str w) (.lst (l.map D.str)) = .ok (l.contains w) := by
  obtain ⟨a, b⟩ := plain_strs l
  have c : (D.plain (.str w) && D.plainL (l.map D.str) && decide (min (D.depL (l.map D.str)) (D.dep (.str w)) ≤ D.DM)) = true := by rw [a, b]; rfl
  constructor
  · simp only [D.mem, c, if_true, any_str]
  · simp only [D.mem, c, if_true, any_str]
theorem mem_ints (w : Int) (l : List Int) : D.mem (.int w) (.tup (l.map D.int)) = .ok (l.contains w) ∧ D.mem (.int w) (.lst (l.map D.int)) = .ok (l.contains w) := by
  obtain ⟨a, b⟩ := plain_ints l
  have c : (D.plain (.int w) && D.plainL (l.map D.int) && decide (min (D.depL (l.map D.int)) (D.dep (.int w)) ≤ D.DM)) = true := by rw [a, b]; rfl
  constructor
  · simp only [D.mem, c, if_true, any_int]
  · simp only [D.mem, c, if_true, any_int]
theorem at_ints {l : List Int} {i : Int} (h0 : 0 ≤ i) (h1 : i < l.length) : L2.atI (l.map D.int) i = some (.int (l.getD i.toNat 0)) := by
  obtain ⟨n, rfl⟩ := Int.eq_ofNat_of_zero_le h0
  rw [atI_nat, List.getElem?_map, List.getElem?_eq_getElem (by omega)]
  simp only [Option.map_some, Int.toNat_natCast, List.getD_eq_getElem?_getD, List.getElem?_eq_getElem (show n < l.length by omega), Option.getD_some]
theorem at_strs {l : List Str} {i : Int} (h0 : 0 ≤ i) (h1 : i < l.length) : L2.atI (l.map D.str) i = some (.str (l.getD i.toNat Str.empty)) := pick_at h0 h1
theorem sett_ok (h : T 69 = some F_law_setting) (hm : T 40 = some F_law_mix) (x : Int) (w : Str) : run T G F (k + 2) 69 [.int x, .str w] = .ok (settD x w) := by
  rw [run_at h rfl]
  have e1 := mix_ok (G := G) (F := F) (k := k) hm (x := x) (p := 9973) (m := 5) (by decide) (by decide) (by decide)
  have e2 := mix_ok (G := G) (F := F) (k := k) hm (x := x) (p := 9967) (m := 4) (by decide) (by decide) (by decide)
  obtain ⟨a1, a2⟩ := mixI_lt (x := x) (p := 9973) (m := 5) (by decide)
  obtain ⟨b1, b2⟩ := mixI_lt (x := x) (p := 9967) (m := 4) (by decide)
  have c1 := at_ints (l := [0, 1, 2, 999, 500]) a1 a2
  have c2 := at_strs (l := ["", "a", "abc", "zzzzzzzz"]) b1 b2
  have m1 : D.mem (.str w) (.tup [.str "const", .str "late"]) = .ok (w == "const" || w == "late") := by
    have := (mem_strs w ["const", "late"]).1
    simp only [List.map_cons, List.map_nil, List.contains_cons, List.contains_nil, Bool.or_false] at this
    exact this
  simp only [List.map_cons, List.map_nil] at c1 c2
  unfold settD
  cases q : (w == "const" || w == "late") with
  | true => simp only [F_law_setting, g0, gS, x_v, x_k, x_tup, x_lst, x_dct, x_op, x_cmp, x_chn, chn_t, chn_f, sel_t, sel_f, and_t, and_f, or_t, or_f, x_and, x_or, x_not, neg_int, x_neg, x_ite, x_ix, gD_int, gD_str, x_g, gin_str, gix_dct, gin_dct, x_gix, x_gin, slA_int, slB_int, slC_int, x_slA, x_slB, slCX_int, x_slC, rev_lst, x_rev, x_call, x_bi, x_mt, mtX_index, mtX_get, mt_index, mt_get, x_lc, lcB_f, lcG_at, lcC_s, lcR_f, lcR_t, lcR_m, z_nil, z_cons, c_nil, cnd_t, cnd_f, cnd_nil, c_cons, s_nil, s_cons, s_set, s_setI, s_setM, setM_nil, setM_dct, opt_s, tp_tup, s_tp, q_nil, q_cons, t_nm, t_tp, appX_l, s_app, extX_l, s_ext, popX_c, s_pop, s_put, s_ex, iteS_t, iteS_f, s_ite, for_f, s_for, wh_at, s_while, s_ret, s_retN, s_raise, s_brk, s_cont, s_pass, o_add, o_sub, o_addT, o_mul, sm_of, o_mod, o_div, th_bl, th_int, th_str, th_non, th_tup, th_lst, i_lst, i_tup, i_enL, i_enT, i_zL, i_zT, b_lenS, b_lenA, b_lenT, b_lenL, b_tupT, b_tupL, b_lstT, b_lstL, b_sorted, b_sset, b_dict, isi_s, b_isi, all_s, b_all, any_s, b_any, max_s, b_max, D.isTys, D.isTy, ixT, ixL, ixA, cm_int, cm_str, cm_bl, cm_nint, cm_nstr, cm_nbl, cm_lt, cm_le, cm_gt, cm_ge, cm_in, cm_nin, cm_isN, cm_isI, cm_isS, cm_isB, cm_isT, cm_isL, cm_snN, cm_snI, cm_snS, cm_snB, cm_snT, cm_snL, e_rt, e_nx, e_exc, w_nil, w_cons, List.map_cons, List.map_nil, List.length_cons, List.length_nil, List.cons_append, List.nil_append, List.append_nil, List.getElem?_cons_zero, List.getElem?_cons_succ, List.getElem?_nil, List.set_cons_zero, List.set_cons_succ, r_b, r_be, r_x, r_t, r_te, n_nx, n_rt, n_bk, n_ct, n_exc, u_nx, u_ct, u_bk, u_rt, u_exc, startE, List.replicate, Nat.reduceAdd, Nat.reduceSub, atI_0, atI_1, atI_2, atI_3, Bool.false_and, Bool.true_and, Bool.not_true, Bool.not_false, Bool.false_eq_true, if_false, if_true, reduceIte, Int.reduceLT, Int.reduceNeg, Nat.reduceLeDiff, Bool.or_true, Bool.true_or, SZ, m1, q, e1, c1]
  | false =>
    cases q2 : w == "words" with
    | true => simp only [F_law_setting, g0, gS, x_v, x_k, x_tup, x_lst, x_dct, x_op, x_cmp, x_chn, chn_t, chn_f, sel_t, sel_f, and_t, and_f, or_t, or_f, x_and, x_or, x_not, neg_int, x_neg, x_ite, x_ix, gD_int, gD_str, x_g, gin_str, gix_dct, gin_dct, x_gix, x_gin, slA_int, slB_int, slC_int, x_slA, x_slB, slCX_int, x_slC, rev_lst, x_rev, x_call, x_bi, x_mt, mtX_index, mtX_get, mt_index, mt_get, x_lc, lcB_f, lcG_at, lcC_s, lcR_f, lcR_t, lcR_m, z_nil, z_cons, c_nil, cnd_t, cnd_f, cnd_nil, c_cons, s_nil, s_cons, s_set, s_setI, s_setM, setM_nil, setM_dct, opt_s, tp_tup, s_tp, q_nil, q_cons, t_nm, t_tp, appX_l, s_app, extX_l, s_ext, popX_c, s_pop, s_put, s_ex, iteS_t, iteS_f, s_ite, for_f, s_for, wh_at, s_while, s_ret, s_retN, s_raise, s_brk, s_cont, s_pass, o_add, o_sub, o_addT, o_mul, sm_of, o_mod, o_div, th_bl, th_int, th_str, th_non, th_tup, th_lst, i_lst, i_tup, i_enL, i_enT, i_zL, i_zT, b_lenS, b_lenA, b_lenT, b_lenL, b_tupT, b_tupL, b_lstT, b_lstL, b_sorted, b_sset, b_dict, isi_s, b_isi, all_s, b_all, any_s, b_any, max_s, b_max, D.isTys, D.isTy, ixT, ixL, ixA, cm_int, cm_str, cm_bl, cm_nint, cm_nstr, cm_nbl, cm_lt, cm_le, cm_gt, cm_ge, cm_in, cm_nin, cm_isN, cm_isI, cm_isS, cm_isB, cm_isT, cm_isL, cm_snN, cm_snI, cm_snS, cm_snB, cm_snT, cm_snL, e_rt, e_nx, e_exc, w_nil, w_cons, List.map_cons, List.map_nil, List.length_cons, List.length_nil, List.cons_append, List.nil_append, List.append_nil, List.getElem?_cons_zero, List.getElem?_cons_succ, List.getElem?_nil, List.set_cons_zero, List.set_cons_succ, r_b, r_be, r_x, r_t, r_te, n_nx, n_rt, n_bk, n_ct, n_exc, u_nx, u_ct, u_bk, u_rt, u_exc, startE, List.replicate, Nat.reduceAdd, Nat.reduceSub, atI_0, atI_1, atI_2, atI_3, Bool.false_and, Bool.true_and, Bool.not_true, Bool.not_false, Bool.false_eq_true, if_false, if_true, reduceIte, Int.reduceLT, Int.reduceNeg, Nat.reduceLeDiff, Bool.or_true, Bool.true_or, SZ, m1, q, e2, c2, q2]
    | false => simp only [F_law_setting, g0, gS, x_v, x_k, x_tup, x_lst, x_dct, x_op, x_cmp, x_chn, chn_t, chn_f, sel_t, sel_f, and_t, and_f, or_t, or_f, x_and, x_or, x_not, neg_int, x_neg, x_ite, x_ix, gD_int, gD_str, x_g, gin_str, gix_dct, gin_dct, x_gix, x_gin, slA_int, slB_int, slC_int, x_slA, x_slB, slCX_int, x_slC, rev_lst, x_rev, x_call, x_bi, x_mt, mtX_index, mtX_get, mt_index, mt_get, x_lc, lcB_f, lcG_at, lcC_s, lcR_f, lcR_t, lcR_m, z_nil, z_cons, c_nil, cnd_t, cnd_f, cnd_nil, c_cons, s_nil, s_cons, s_set, s_setI, s_setM, setM_nil, setM_dct, opt_s, tp_tup, s_tp, q_nil, q_cons, t_nm, t_tp, appX_l, s_app, extX_l, s_ext, popX_c, s_pop, s_put, s_ex, iteS_t, iteS_f, s_ite, for_f, s_for, wh_at, s_while, s_ret, s_retN, s_raise, s_brk, s_cont, s_pass, o_add, o_sub, o_addT, o_mul, sm_of, o_mod, o_div, th_bl, th_int, th_str, th_non, th_tup, th_lst, i_lst, i_tup, i_enL, i_enT, i_zL, i_zT, b_lenS, b_lenA, b_lenT, b_lenL, b_tupT, b_tupL, b_lstT, b_lstL, b_sorted, b_sset, b_dict, isi_s, b_isi, all_s, b_all, any_s, b_any, max_s, b_max, D.isTys, D.isTy, ixT, ixL, ixA, cm_int, cm_str, cm_bl, cm_nint, cm_nstr, cm_nbl, cm_lt, cm_le, cm_gt, cm_ge, cm_in, cm_nin, cm_isN, cm_isI, cm_isS, cm_isB, cm_isT, cm_isL, cm_snN, cm_snI, cm_snS, cm_snB, cm_snT, cm_snL, e_rt, e_nx, e_exc, w_nil, w_cons, List.map_cons, List.map_nil, List.length_cons, List.length_nil, List.cons_append, List.nil_append, List.append_nil, List.getElem?_cons_zero, List.getElem?_cons_succ, List.getElem?_nil, List.set_cons_zero, List.set_cons_succ, r_b, r_be, r_x, r_t, r_te, n_nx, n_rt, n_bk, n_ct, n_exc, u_nx, u_ct, u_bk, u_rt, u_exc, startE, List.replicate, Nat.reduceAdd, Nat.reduceSub, atI_0, atI_1, atI_2, atI_3, Bool.false_and, Bool.true_and, Bool.not_true, Bool.not_false, Bool.false_eq_true, if_false, if_true, reduceIte, Int.reduceLT, Int.reduceNeg, Nat.reduceLeDiff, Bool.or_true, Bool.true_or, SZ, m1, q, q2]
/-! ### ranges -/
theorem range_map : ∀ (n : Nat) (lo : Nat), D.rangeD (lo : Int) n = (List.range' lo n).map fun i => D.int (i : Nat)
  | 0, _ => rfl
  | n + 1, lo => by
    simp only [D.rangeD, List.range'_succ, List.map_cons]
    rw [show ((lo : Int) + 1) = ((lo + 1 : Nat) : Int) by omega, range_map n (lo + 1)]
theorem range0 (n : Nat) : D.rangeD 0 n = (List.range n).map fun i => D.int (i : Nat) := by
  rw [List.range_eq_range']
  exact range_map n 0
theorem enum_map {α : Type} (f : α → D) : ∀ (l : List α) (n : Nat), D.enumFrom n (l.map f) = (l.zipIdx n).map fun q => D.tup [.int (q.2 : Nat), f q.1]
  | [], _ => rfl
  | x :: l, n => by simp only [List.map_cons, D.enumFrom, List.zipIdx_cons, enum_map f l (n + 1)]
/-! ### the boxes -/
def words12 : List Str := ["const", "words", "add", "less", "pick", "text", "glue", "size", "late", "late", "add", "const"]
def numAt (x : Int) : Nat → Int
  | 0 => 0
  | j + 1 => numAt x j + 1 + mixI (x + 3 * j) 9941 2
def wordAt (x : Int) (j : Nat) : Str := words12.getD (mixI (x + 7 * j) 9931 12).toNat Str.empty
def bxAt (x : Int) (j : Nat) : Bx := ⟨numAt x (j + 1), wordAt x j, settD (x + 11 * j) (wordAt x j)⟩
def bxs (x : Int) (n : Nat) : List Bx := (List.range n).map (bxAt x)
theorem bxs_succ (x : Int) (n : Nat) : bxs x (n + 1) = bxs x n ++ [bxAt x n] := by
  unfold bxs
  rw [List.range_succ, List.map_append]
  rfl
theorem numAt_lt (x : Int) : ∀ {i j : Nat}, i < j → numAt x i < numAt x j
  | i, j + 1, h => by
    have h1 := (mixI_lt (x := x + 3 * j) (p := 9941) (m := 2) (by decide)).1
    have : numAt x i ≤ numAt x j := by
      by_cases e : i = j
      · rw [e]; exact Int.le_refl _
      · exact Int.le_of_lt (numAt_lt x (by omega))
    show numAt x i < numAt x j + 1 + mixI (x + 3 * j) 9941 2
    omega
theorem words_row : ∀ w ∈ words12, ∃ q, rowOf w = some q := by
  intro w hw
  have : words12.all (fun w => (rowOf w).isSome) = true := by decide +kernel
  exact Option.isSome_iff_exists.mp (List.all_eq_true.mp this w hw)
theorem wordAt_mem (x : Int) (j : Nat) : wordAt x j ∈ words12 := by
  obtain ⟨a, b⟩ := mixI_lt (x := x + 7 * j) (p := 9931) (m := 12) (by decide)
  unfold wordAt
  rw [List.getD_eq_getElem?_getD, List.getElem?_eq_getElem (show (mixI (x + 7 * j) 9931 12).toNat < words12.length by simp only [words12, List.length_cons, List.length_nil]; omega)]
  exact List.getElem_mem _
end
end B

set_option maxHeartbeats 4000000
/-! Th5: a drawn sheet. -/
namespace B
open PySem
def kn (b : Bx) : Kn := (rowOf b.w).getD ([], [])
def freeOf (bs : List Bx) (kind : Str) : List Int := (bs.filter fun b => (kn b).2 == [kind]).map (·.n)
def turned (x : Int) : Bool := x % 3 == 0
def okWire (x : Int) (b : Bx) (one : Int) : Bool := ((decide (one < b.n) != turned x) && (one != b.n)) || b.w == "late"
def someOf (x : Int) (bs : List Bx) (b : Bx) (kind : Str) : List Int := (freeOf bs kind).filter (okWire x b)
def seedOf (x : Int) (b : Bx) (p : Nat) : Int := x + 13 * b.n + 5 * (p : Nat)
def wireAt (x : Int) (bs : List Bx) (b : Bx) (q : Str × Nat) : List Wr :=
  if !(someOf x bs b q.1).isEmpty && decide (0 < mixI (seedOf x b q.2) 9929 4) then [⟨(someOf x bs b q.1).getD (mixI (seedOf x b q.2) 9923 (someOf x bs b q.1).length).toNat 0, 0, b.n, q.2⟩] else []
def wiresOf (x : Int) (bs : List Bx) (b : Bx) : List Wr := (kn b).1.zipIdx.flatMap (wireAt x bs b)
def wiresAll (x : Int) (bs : List Bx) : List Wr := bs.flatMap (wiresOf x bs)
def Wr.l (w : Wr) : List Int := [w.a, w.o, w.b, w.p]
def ltW (u v : Wr) : Bool := HT.lexLt u.l v.l
def sortW (ws : List Wr) : List Wr := D.isort ltW ws
theorem ins_map {α β : Type} (f : α → β) (lt : β → β → Bool) (x : α) : ∀ l : List α, D.ins lt (f x) (l.map f) = (D.ins (fun a b => lt (f a) (f b)) x l).map f
  | [] => rfl
  | y :: l => by
    simp only [List.map_cons, D.ins]
    split
    · rw [ins_map f lt x l]; rfl
    · rfl
theorem isort_map {α β : Type} (f : α → β) (lt : β → β → Bool) : ∀ l : List α, D.isort lt (l.map f) = (D.isort (fun a b => lt (f a) (f b)) l).map f
  | [] => rfl
  | x :: l => by
    simp only [List.map_cons, D.isort]
    rw [isort_map f lt l, ins_map]
theorem tups_wires : ∀ ws : List Wr, D.tupsD (ws.map Wr.d) = some (ws.map Wr.l)
  | [] => rfl
  | w :: ws => by simp only [List.map_cons, D.tupsD, Wr.d, D.intTup, D.intsD, Option.map_some, tups_wires ws]; rfl
theorem sort_wires (ws : List Wr) : D.sortL (ws.map Wr.d) = .ok (.lst ((sortW ws).map Wr.d)) := by
  cases ws with
  | nil => rfl
  | cons w ws =>
    have e1 : D.intsD ((w :: ws).map Wr.d) = none := rfl
    have e2 : ((w :: ws).map Wr.l).all (fun t => !t.isEmpty) = true := by
      rw [List.all_map]
      exact List.all_eq_true.mpr fun u _ => rfl
    unfold D.sortL
    rw [e1, tups_wires]
    dsimp only
    rw [if_pos e2, isort_map, List.map_map]
    rfl
theorem isort_perm' {α : Type} (lt : α → α → Bool) : ∀ l : List α, (D.isort lt l).Perm l := by
  have hi : ∀ (x : α) (l : List α), (D.ins lt x l).Perm (x :: l) := by
    intro x l
    induction l with
    | nil => exact List.Perm.refl _
    | cons y l ih =>
      simp only [D.ins]
      split
      · exact (ih.cons y).trans (List.Perm.swap x y l)
      · exact List.Perm.refl _
  intro l
  induction l with
  | nil => exact List.Perm.refl _
  | cons x l ih => exact (hi x _).trans (ih.cons x)
theorem sortW_perm (ws : List Wr) : (sortW ws).Perm ws := isort_perm' ltW ws
theorem imm_boxes : ∀ {bs : List Bx}, (∀ b ∈ bs, b.s.imm = true) → D.immL (bs.map Bx.d) = true
  | [], _ => rfl
  | b :: bs, h => by
    simp only [List.map_cons, D.immL, Bx.d, D.imm, h b (List.mem_cons_self ..), Bool.and_self]
    exact imm_boxes fun c hc => h c (List.mem_cons_of_mem _ hc)
theorem eqv_strL : ∀ (a b : List Str), D.eqvL (a.map D.str) (b.map D.str) = (a == b)
  | [], [] => by simp [D.eqvL]
  | [], _ :: _ => by simp [D.eqvL]
  | _ :: _, [] => by simp [D.eqvL]
  | x :: a, y :: b => by simp only [List.map_cons, D.eqvL, D.eqv, eqv_strL a b]; rfl
theorem cm_tupS (a b : List Str) : D.cmD .eq (.tup (a.map D.str)) (.tup (b.map D.str)) = .ok (a == b) := by
  obtain ⟨p1, p2⟩ := plain_strs a
  obtain ⟨q1, q2⟩ := plain_strs b
  have e : D.eqOk (.tup (a.map D.str)) (.tup (b.map D.str)) = true := by simp only [D.eqOk, D.plain, p1, q1, D.dep, p2, q2]; rfl
  simp only [D.cmD, e, if_true, D.eqv, eqv_strL]
theorem cm_tup1 (a : List Str) (b : Str) : D.cmD .eq (.tup (a.map D.str)) (.tup [.str b]) = .ok (a == [b]) := cm_tupS a [b]
theorem cm_nebl (a b : Bool) : D.cmD .ne (.bl a) (.bl b) = .ok (a != b) := by cases a <;> cases b <;> rfl
theorem ints_len (l : List Int) : (l.map D.int).length = l.length := List.length_map ..
theorem takes_le {w : Str} {q : Kn} (h : rowOf w = some q) : q.1.length ≤ 3 ∧ q.2.length = 1 := by
  have hm := row_cases h
  have : rows.all (fun r => decide (r.2.1.length ≤ 3) && decide (r.2.2.length = 1)) = true := by decide +kernel
  have := List.all_eq_true.mp this _ hm
  simpa using this
theorem bx0 (b : Bx) : D.ixD b.d (.int 0) = .ok (.int b.n) := id rfl
theorem bx1 (b : Bx) : D.ixD b.d (.int 1) = .ok (.str b.w) := id rfl
theorem bx2 (b : Bx) : D.ixD b.d (.int 2) = .ok b.s := id rfl
theorem wr0 (w : Wr) : D.ixD w.d (.int 0) = .ok (.int w.a) := id rfl
theorem wr1 (w : Wr) : D.ixD w.d (.int 1) = .ok (.int w.o) := id rfl
theorem wr2 (w : Wr) : D.ixD w.d (.int 2) = .ok (.int w.b) := id rfl
theorem wr3 (w : Wr) : D.ixD w.d (.int 3) = .ok (.int w.p) := id rfl
section
variable {T : Nat → Option Fn} {G : List D} {F k : Nat}
/-- the draws' family -/
structure TD (T : Nat → Option Fn) : Prop where
  mix : T 40 = some F_law_mix
  knd : T 30 = some F_law_kinds
  set : T 69 = some F_law_setting
  sht : T 71 = some F_law_sheet
theorem bxAt_row (x : Int) (j : Nat) : rowOf (bxAt x j).w = some (kn (bxAt x j)) := by
  obtain ⟨q, hq⟩ := words_row _ (wordAt_mem x j)
  have e : rowOf (bxAt x j).w = some q := hq
  unfold kn
  rw [e]
  rfl
theorem bxs_row {x : Int} {n : Nat} : ∀ b ∈ bxs x n, rowOf b.w = some (kn b) ∧ b.s.imm = true := by
  intro b hb
  obtain ⟨j, _, rfl⟩ := List.mem_map.mp hb
  exact ⟨bxAt_row x j, settD_imm _ _⟩
theorem wireAt_len (x : Int) (bs : List Bx) (b : Bx) (q : Str × Nat) : (wireAt x bs b q).length ≤ 1 := by
  unfold wireAt
  split <;> simp
theorem flat_len {α β : Type} (f : α → List β) (m : Nat) : ∀ l : List α, (∀ a ∈ l, (f a).length ≤ m) → (l.flatMap f).length ≤ m * l.length
  | [], _ => by simp
  | a :: l, h => by
    have h1 := h a (List.mem_cons_self ..)
    have h2 := flat_len f m l fun b hb => h b (List.mem_cons_of_mem _ hb)
    rw [List.flatMap_cons, List.length_append, List.length_cons, Nat.mul_succ]
    omega
theorem wiresOf_len {x : Int} {bs : List Bx} {b : Bx} (h : rowOf b.w = some (kn b)) : (wiresOf x bs b).length ≤ 3 := by
  have h1 := (takes_le h).1
  have h2 := flat_len (wireAt x bs b) 1 (kn b).1.zipIdx fun q _ => wireAt_len x bs b q
  rw [List.length_zipIdx] at h2
  unfold wiresOf
  omega
theorem take_succ {α : Type} {l : List α} {i : Nat} {a : α} (h : l[i]? = some a) : l.take (i + 1) = l.take i ++ [a] := by
  rw [List.take_add_one, h]
  rfl
theorem sheet_ok (h : TD T) (x most : Int) (h0 : 0 ≤ most) (h1 : most ≤ 100) : run T G F (k + 4) 71 [.int x, .int most] = .ok (Sh.d ⟨bxs x (mixI x 9949 (most + 1)).toNat, sortW (wiresAll x (bxs x (mixI x 9949 (most + 1)).toNat))⟩) := by
  have hmx : ∀ {y p m : Int}, 0 < p → p < 1000000 → 0 < m → run T G F (k + 3) 40 [.int y, .int p, .int m] = .ok (.int (mixI y p m)) := fun a b c => mix_ok h.mix a b c
  obtain ⟨r0, r1⟩ := mixI_lt (x := x) (p := 9949) (m := most + 1) (by omega)
  generalize hn : (mixI x 9949 (most + 1)).toNat = n
  have hnm : mixI x 9949 (most + 1) = (n : Int) := by omega
  have hn100 : n ≤ 100 := by omega
  have c1 : (D.fits62 (n : Int) && decide ((n : Int) ≤ 16777216)) = true := by
    simp only [D.fits62, Bool.and_eq_true, decide_eq_true_eq]
    omega
  rw [run_at h.sht rfl]
  simp only [F_law_sheet, g0, gS, x_v, x_k, x_tup, x_lst, x_dct, x_op, x_cmp, x_chn, chn_t, chn_f, sel_t, sel_f, and_t, and_f, or_t, or_f, x_and, x_or, x_not, neg_int, x_neg, x_ite, x_ix, gD_int, gD_str, x_g, gin_str, gix_dct, gin_dct, x_gix, x_gin, slA_int, slB_int, slC_int, x_slA, x_slB, slCX_int, x_slC, rev_lst, x_rev, x_call, x_bi, x_mt, mtX_index, mtX_get, mt_index, mt_get, x_lc, lcB_f, lcG_at, lcC_s, lcR_f, lcR_t, lcR_m, z_nil, z_cons, c_nil, cnd_t, cnd_f, cnd_nil, c_cons, s_nil, s_cons, s_set, s_setI, s_setM, setM_nil, setM_dct, opt_s, tp_tup, s_tp, q_nil, q_cons, t_nm, t_tp, appX_l, s_app, extX_l, s_ext, popX_c, s_pop, s_put, s_ex, iteS_t, iteS_f, s_ite, for_f, s_for, wh_at, s_while, s_ret, s_retN, s_raise, s_brk, s_cont, s_pass, o_add, o_sub, o_addT, o_mul, sm_of, o_mod, o_div, th_bl, th_int, th_str, th_non, th_tup, th_lst, i_lst, i_tup, i_enL, i_enT, i_zL, i_zT, b_lenS, b_lenA, b_lenT, b_lenL, b_tupT, b_tupL, b_lstT, b_lstL, b_sorted, b_sset, b_dict, isi_s, b_isi, all_s, b_all, any_s, b_any, max_s, b_max, D.isTys, D.isTy, ixT, ixL, ixA, cm_int, cm_str, cm_bl, cm_nint, cm_nstr, cm_nbl, cm_lt, cm_le, cm_gt, cm_ge, cm_in, cm_nin, cm_isN, cm_isI, cm_isS, cm_isB, cm_isT, cm_isL, cm_snN, cm_snI, cm_snS, cm_snB, cm_snT, cm_snL, e_rt, e_nx, e_exc, w_nil, w_cons, List.map_cons, List.map_nil, List.length_cons, List.length_nil, List.cons_append, List.nil_append, List.append_nil, List.getElem?_cons_zero, List.getElem?_cons_succ, List.getElem?_nil, List.set_cons_zero, List.set_cons_succ, r_b, r_be, r_x, r_t, r_te, n_nx, n_rt, n_bk, n_ct, n_exc, u_nx, u_ct, u_bk, u_rt, u_exc, startE, List.replicate, Nat.reduceAdd, Nat.reduceSub, atI_0, atI_1, atI_2, atI_3, Bool.false_and, Bool.true_and, Bool.not_true, Bool.not_false, Bool.false_eq_true, if_false, if_true, reduceIte, Int.reduceLT, Int.reduceNeg, Nat.reduceLeDiff, Bool.or_true, Bool.true_or, Bool.true_beq, Bool.false_beq, Bool.and_true, Bool.and_false, Bool.or_false, Bool.false_or, SZ, hmx (y := x) (p := 9949) (m := most + 1) (by decide) (by decide) (by omega), hnm, i_rng (n := (n : Int)) (by omega) (by omega), Int.toNat_natCast, range0]
  refine for_ix (K := fun o => endR (O.next o _) = _) (fun i env => ∃ x5 x6, env = [some (.int x), some (.int most), some (.tup (words12.map D.str)), some (.lst ((bxs x i).map Bx.d)), some (.int (numAt x i)), x5, x6, none, none, none, none, none, none, none, none, none]) (fun i a ha env ⟨x5, x6, e⟩ => ?_) ⟨none, none, rfl⟩ fun env ⟨x5, x6, e⟩ => ?_
  · subst e
    obtain ⟨w0, w1⟩ := mixI_lt (x := x + 7 * (i : Int)) (p := 9931) (m := 12) (by decide)
    have hai : a = i ∧ i < n := by
      have := List.getElem?_range (n := n) (i := i)
      by_cases hi : i < n
      · rw [List.getElem?_range hi] at ha
        exact ⟨(Option.some.inj ha).symm, hi⟩
      · rw [List.getElem?_eq_none (by rw [List.length_range]; omega)] at ha
        cases ha
    obtain ⟨rfl, hin⟩ := hai
    have e6 : L2.atI (words12.map D.str) (mixI (x + 7 * (a : Int)) 9931 12) = some (.str (wordAt x a)) := at_strs w0 w1
    have e7 := sett_ok (G := G) (F := F) (k := k + 1) h.set h.mix (x + 11 * (a : Int)) (wordAt x a)
    have e8 : (bxAt x a).s.imm = true := settD_imm _ _
    refine ⟨_, rfl, ?_⟩
    simp only [g0, gS, x_v, x_k, x_tup, x_lst, x_dct, x_op, x_cmp, x_chn, chn_t, chn_f, sel_t, sel_f, and_t, and_f, or_t, or_f, x_and, x_or, x_not, neg_int, x_neg, x_ite, x_ix, gD_int, gD_str, x_g, gin_str, gix_dct, gin_dct, x_gix, x_gin, slA_int, slB_int, slC_int, x_slA, x_slB, slCX_int, x_slC, rev_lst, x_rev, x_call, x_bi, x_mt, mtX_index, mtX_get, mt_index, mt_get, x_lc, lcB_f, lcG_at, lcC_s, lcR_f, lcR_t, lcR_m, z_nil, z_cons, c_nil, cnd_t, cnd_f, cnd_nil, c_cons, s_nil, s_cons, s_set, s_setI, s_setM, setM_nil, setM_dct, opt_s, tp_tup, s_tp, q_nil, q_cons, t_nm, t_tp, appX_l, s_app, extX_l, s_ext, popX_c, s_pop, s_put, s_ex, iteS_t, iteS_f, s_ite, for_f, s_for, wh_at, s_while, s_ret, s_retN, s_raise, s_brk, s_cont, s_pass, o_add, o_sub, o_addT, o_mul, sm_of, o_mod, o_div, th_bl, th_int, th_str, th_non, th_tup, th_lst, i_lst, i_tup, i_enL, i_enT, i_zL, i_zT, b_lenS, b_lenA, b_lenT, b_lenL, b_tupT, b_tupL, b_lstT, b_lstL, b_sorted, b_sset, b_dict, isi_s, b_isi, all_s, b_all, any_s, b_any, max_s, b_max, D.isTys, D.isTy, ixT, ixL, ixA, cm_int, cm_str, cm_bl, cm_nint, cm_nstr, cm_nbl, cm_lt, cm_le, cm_gt, cm_ge, cm_in, cm_nin, cm_isN, cm_isI, cm_isS, cm_isB, cm_isT, cm_isL, cm_snN, cm_snI, cm_snS, cm_snB, cm_snT, cm_snL, e_rt, e_nx, e_exc, w_nil, w_cons, List.map_cons, List.map_nil, List.length_cons, List.length_nil, List.cons_append, List.nil_append, List.append_nil, List.getElem?_cons_zero, List.getElem?_cons_succ, List.getElem?_nil, List.set_cons_zero, List.set_cons_succ, r_b, r_be, r_x, r_t, r_te, n_nx, n_rt, n_bk, n_ct, n_exc, u_nx, u_ct, u_bk, u_rt, u_exc, startE, List.replicate, Nat.reduceAdd, Nat.reduceSub, atI_0, atI_1, atI_2, atI_3, Bool.false_and, Bool.true_and, Bool.not_true, Bool.not_false, Bool.false_eq_true, if_false, if_true, reduceIte, Int.reduceLT, Int.reduceNeg, Nat.reduceLeDiff, Bool.or_true, Bool.true_or, Bool.true_beq, Bool.false_beq, Bool.and_true, Bool.and_false, Bool.or_false, Bool.false_or, SZ, hmx (p := 9941) (m := 2) (by decide) (by decide) (by decide), hmx (p := 9931) (m := 12) (by decide) (by decide) (by decide), e6, e7]
    rw [app_t]
    · exact to_nx ⟨_, _, by rw [bxs_succ, List.map_append]; rfl⟩
    · simp only [D.imm, D.immL, Bool.true_and, Bool.and_true]
      exact e8
    · simp only [bxs, List.length_map, List.length_range, SZ]
      omega
  · subst e
    simp only [List.length_range]
    generalize hbs : bxs x n = bs
    have hlen : bs.length = n := by rw [← hbs]; simp only [bxs, List.length_map, List.length_range]
    have hrow : ∀ b ∈ bs, rowOf b.w = some (kn b) ∧ b.s.imm = true := by rw [← hbs]; exact bxs_row
    have himm : D.immL (bs.map Bx.d) = true := imm_boxes fun b hb => (hrow b hb).2
    have hk : ∀ b ∈ bs, run T G F (k + 3) 30 [b.d] = .ok (kdD (kn b)) := fun b hb => lkinds_ok h.knd (j := 0) (WB.row (hrow b hb).1) (Nat.zero_le _)
    simp only [g0, gS, x_v, x_k, x_tup, x_lst, x_dct, x_op, x_cmp, x_chn, chn_t, chn_f, sel_t, sel_f, and_t, and_f, or_t, or_f, x_and, x_or, x_not, neg_int, x_neg, x_ite, x_ix, gD_int, gD_str, x_g, gin_str, gix_dct, gin_dct, x_gix, x_gin, slA_int, slB_int, slC_int, x_slA, x_slB, slCX_int, x_slC, rev_lst, x_rev, x_call, x_bi, x_mt, mtX_index, mtX_get, mt_index, mt_get, x_lc, lcB_f, lcG_at, lcC_s, lcR_f, lcR_t, lcR_m, z_nil, z_cons, c_nil, cnd_t, cnd_f, cnd_nil, c_cons, s_nil, s_cons, s_set, s_setI, s_setM, setM_nil, setM_dct, opt_s, tp_tup, s_tp, q_nil, q_cons, t_nm, t_tp, appX_l, s_app, extX_l, s_ext, popX_c, s_pop, s_put, s_ex, iteS_t, iteS_f, s_ite, for_f, s_for, wh_at, s_while, s_ret, s_retN, s_raise, s_brk, s_cont, s_pass, o_add, o_sub, o_addT, o_mul, sm_of, o_mod, o_div, th_bl, th_int, th_str, th_non, th_tup, th_lst, i_lst, i_tup, i_enL, i_enT, i_zL, i_zT, b_lenS, b_lenA, b_lenT, b_lenL, b_tupT, b_tupL, b_lstT, b_lstL, b_sorted, b_sset, b_dict, isi_s, b_isi, all_s, b_all, any_s, b_any, max_s, b_max, D.isTys, D.isTy, ixT, ixL, ixA, cm_int, cm_str, cm_bl, cm_nint, cm_nstr, cm_nbl, cm_lt, cm_le, cm_gt, cm_ge, cm_in, cm_nin, cm_isN, cm_isI, cm_isS, cm_isB, cm_isT, cm_isL, cm_snN, cm_snI, cm_snS, cm_snB, cm_snT, cm_snL, e_rt, e_nx, e_exc, w_nil, w_cons, List.map_cons, List.map_nil, List.length_cons, List.length_nil, List.cons_append, List.nil_append, List.append_nil, List.getElem?_cons_zero, List.getElem?_cons_succ, List.getElem?_nil, List.set_cons_zero, List.set_cons_succ, r_b, r_be, r_x, r_t, r_te, n_nx, n_rt, n_bk, n_ct, n_exc, u_nx, u_ct, u_bk, u_rt, u_exc, startE, List.replicate, Nat.reduceAdd, Nat.reduceSub, atI_0, atI_1, atI_2, atI_3, Bool.false_and, Bool.true_and, Bool.not_true, Bool.not_false, Bool.false_eq_true, if_false, if_true, reduceIte, Int.reduceLT, Int.reduceNeg, Nat.reduceLeDiff, Bool.or_true, Bool.true_or, Bool.true_beq, Bool.false_beq, Bool.and_true, Bool.and_false, Bool.or_false, Bool.false_or, SZ, for_t himm]
    refine for_ix (K := fun o => endR (O.next o _) = _) (fun i env => ∃ x8 x9 x10 x11 x12 x13 x14, env = [some (.int x), some (.int most), some (.tup (words12.map D.str)), some (.lst (bs.map Bx.d)), some (.int (numAt x n)), x5, x6, some (.lst (((bs.take i).flatMap (wiresOf x bs)).map Wr.d)), x8, x9, x10, x11, x12, x13, x14, none]) (fun i b hb env ⟨x8, x9, x10, x11, x12, x13, x14, e⟩ => ?_) ⟨none, none, none, none, none, none, none, rfl⟩ fun env ⟨x8, x9, x10, x11, x12, x13, x14, e⟩ => ?_
    · subst e
      refine ⟨_, rfl, ?_⟩
      have hm : b ∈ bs := List.mem_of_getElem? hb
      have hil : i < n := by
        rw [← hlen]
        exact (List.getElem?_eq_some_iff.mp hb).1
      obtain ⟨t3, -⟩ := takes_le (hrow b hm).1
      have hw : ((bs.take i).flatMap (wiresOf x bs)).length ≤ 3 * 100 := by
        have h1 := flat_len (wiresOf x bs) 3 (bs.take i) fun c hc => wiresOf_len (hrow c (List.mem_of_mem_take hc)).1
        rw [List.length_take] at h1
        omega
      rw [take_succ hb, List.flatMap_append]
      generalize hpre : (bs.take i).flatMap (wiresOf x bs) = pre at hw
      simp only [g0, gS, x_v, x_k, x_tup, x_lst, x_dct, x_op, x_cmp, x_chn, chn_t, chn_f, sel_t, sel_f, and_t, and_f, or_t, or_f, x_and, x_or, x_not, neg_int, x_neg, x_ite, x_ix, gD_int, gD_str, x_g, gin_str, gix_dct, gin_dct, x_gix, x_gin, slA_int, slB_int, slC_int, x_slA, x_slB, slCX_int, x_slC, rev_lst, x_rev, x_call, x_bi, x_mt, mtX_index, mtX_get, mt_index, mt_get, x_lc, lcB_f, lcG_at, lcC_s, lcR_f, lcR_t, lcR_m, z_nil, z_cons, c_nil, cnd_t, cnd_f, cnd_nil, c_cons, s_nil, s_cons, s_set, s_setI, s_setM, setM_nil, setM_dct, opt_s, tp_tup, s_tp, q_nil, q_cons, t_nm, t_tp, appX_l, s_app, extX_l, s_ext, popX_c, s_pop, s_put, s_ex, iteS_t, iteS_f, s_ite, for_f, s_for, wh_at, s_while, s_ret, s_retN, s_raise, s_brk, s_cont, s_pass, o_add, o_sub, o_addT, o_mul, sm_of, o_mod, o_div, th_bl, th_int, th_str, th_non, th_tup, th_lst, i_lst, i_tup, i_enL, i_enT, i_zL, i_zT, b_lenS, b_lenA, b_lenT, b_lenL, b_tupT, b_tupL, b_lstT, b_lstL, b_sorted, b_sset, b_dict, isi_s, b_isi, all_s, b_all, any_s, b_any, max_s, b_max, D.isTys, D.isTy, ixT, ixL, ixA, cm_int, cm_str, cm_bl, cm_nint, cm_nstr, cm_nbl, cm_lt, cm_le, cm_gt, cm_ge, cm_in, cm_nin, cm_isN, cm_isI, cm_isS, cm_isB, cm_isT, cm_isL, cm_snN, cm_snI, cm_snS, cm_snB, cm_snT, cm_snL, e_rt, e_nx, e_exc, w_nil, w_cons, List.map_cons, List.map_nil, List.length_cons, List.length_nil, List.cons_append, List.nil_append, List.append_nil, List.getElem?_cons_zero, List.getElem?_cons_succ, List.getElem?_nil, List.set_cons_zero, List.set_cons_succ, r_b, r_be, r_x, r_t, r_te, n_nx, n_rt, n_bk, n_ct, n_exc, u_nx, u_ct, u_bk, u_rt, u_exc, startE, List.replicate, Nat.reduceAdd, Nat.reduceSub, atI_0, atI_1, atI_2, atI_3, Bool.false_and, Bool.true_and, Bool.not_true, Bool.not_false, Bool.false_eq_true, if_false, if_true, reduceIte, Int.reduceLT, Int.reduceNeg, Nat.reduceLeDiff, Bool.or_true, Bool.true_or, Bool.true_beq, Bool.false_beq, Bool.and_true, Bool.and_false, Bool.or_false, Bool.false_or, SZ, hk b hm, kdD, enum_map]
      refine for_ix (K := fun o => (O.next o _).to _) (fun j env => ∃ x9 x10 x11 x12 x13 x14, env = [some (.int x), some (.int most), some (.tup (words12.map D.str)), some (.lst (bs.map Bx.d)), some (.int (numAt x n)), x5, x6, some (.lst ((pre ++ ((kn b).1.zipIdx.take j).flatMap (wireAt x bs b)).map Wr.d)), some b.d, x9, x10, x11, x12, x13, x14, none]) (fun j q hq env ⟨x9, x10, x11, x12, x13, x14, e⟩ => ?_) ⟨x9, x10, x11, x12, x13, x14, by rw [List.take_zero, List.flatMap_nil, List.append_nil]⟩ fun env ⟨x9, x10, x11, x12, x13, x14, e⟩ => ?_
      · subst e
        refine ⟨_, rfl, ?_⟩
        obtain ⟨kind, p⟩ := q
        have hjl : j < 3 := by
          have := (List.getElem?_eq_some_iff.mp hq).1
          rw [List.length_zipIdx] at this
          omega
        have hpj : p = j := by
          rw [List.getElem?_zipIdx] at hq
          obtain ⟨_, _, e⟩ := Option.map_eq_some_iff.mp hq
          have := congrArg Prod.snd e
          dsimp only at this
          omega
        rw [take_succ hq, List.flatMap_append, ← List.append_assoc]
        have hw2 : (((kn b).1.zipIdx.take j).flatMap (wireAt x bs b)).length ≤ 3 := by
          have h1 := flat_len (wireAt x bs b) 1 ((kn b).1.zipIdx.take j) fun c _ => wireAt_len x bs b c
          rw [List.length_take] at h1
          omega
        generalize hpre2 : pre ++ ((kn b).1.zipIdx.take j).flatMap (wireAt x bs b) = pre2
        have hp2 : pre2.length ≤ 303 := by
          rw [← hpre2, List.length_append]
          omega
        rw [List.flatMap_cons, List.flatMap_nil, List.append_nil]
        simp only [g0, gS, x_v, x_k, x_tup, x_lst, x_dct, x_op, x_cmp, x_chn, chn_t, chn_f, sel_t, sel_f, and_t, and_f, or_t, or_f, x_and, x_or, x_not, neg_int, x_neg, x_ite, x_ix, gD_int, gD_str, x_g, gin_str, gix_dct, gin_dct, x_gix, x_gin, slA_int, slB_int, slC_int, x_slA, x_slB, slCX_int, x_slC, rev_lst, x_rev, x_call, x_bi, x_mt, mtX_index, mtX_get, mt_index, mt_get, x_lc, lcB_f, lcG_at, lcC_s, lcR_f, lcR_t, lcR_m, z_nil, z_cons, c_nil, cnd_t, cnd_f, cnd_nil, c_cons, s_nil, s_cons, s_set, s_setI, s_setM, setM_nil, setM_dct, opt_s, tp_tup, s_tp, q_nil, q_cons, t_nm, t_tp, appX_l, s_app, extX_l, s_ext, popX_c, s_pop, s_put, s_ex, iteS_t, iteS_f, s_ite, for_f, s_for, wh_at, s_while, s_ret, s_retN, s_raise, s_brk, s_cont, s_pass, o_add, o_sub, o_addT, o_mul, sm_of, o_mod, o_div, th_bl, th_int, th_str, th_non, th_tup, th_lst, i_lst, i_tup, i_enL, i_enT, i_zL, i_zT, b_lenS, b_lenA, b_lenT, b_lenL, b_tupT, b_tupL, b_lstT, b_lstL, b_sorted, b_sset, b_dict, isi_s, b_isi, all_s, b_all, any_s, b_any, max_s, b_max, D.isTys, D.isTy, ixT, ixL, ixA, cm_int, cm_str, cm_bl, cm_nint, cm_nstr, cm_nbl, cm_lt, cm_le, cm_gt, cm_ge, cm_in, cm_nin, cm_isN, cm_isI, cm_isS, cm_isB, cm_isT, cm_isL, cm_snN, cm_snI, cm_snS, cm_snB, cm_snT, cm_snL, e_rt, e_nx, e_exc, w_nil, w_cons, List.map_cons, List.map_nil, List.length_cons, List.length_nil, List.cons_append, List.nil_append, List.append_nil, List.getElem?_cons_zero, List.getElem?_cons_succ, List.getElem?_nil, List.set_cons_zero, List.set_cons_succ, r_b, r_be, r_x, r_t, r_te, n_nx, n_rt, n_bk, n_ct, n_exc, u_nx, u_ct, u_bk, u_rt, u_exc, startE, List.replicate, Nat.reduceAdd, Nat.reduceSub, atI_0, atI_1, atI_2, atI_3, Bool.false_and, Bool.true_and, Bool.not_true, Bool.not_false, Bool.false_eq_true, if_false, if_true, reduceIte, Int.reduceLT, Int.reduceNeg, Nat.reduceLeDiff, Bool.or_true, Bool.true_or, Bool.true_beq, Bool.false_beq, Bool.and_true, Bool.and_false, Bool.or_false, Bool.false_or, SZ, bx0, bx1, lcB_t himm]
        rw [lc_filter (p := fun c => (kn c).2 == [kind]) (g := fun c => .int c.n)]
        · have ef : (bs.filter fun c => (kn c).2 == [kind]).map (fun c => D.int c.n) = (freeOf bs kind).map D.int := by
            unfold freeOf
            rw [List.map_map]
            rfl
          rw [ef]
          simp only [g0, gS, x_v, x_k, x_tup, x_lst, x_dct, x_op, x_cmp, x_chn, chn_t, chn_f, sel_t, sel_f, and_t, and_f, or_t, or_f, x_and, x_or, x_not, neg_int, x_neg, x_ite, x_ix, gD_int, gD_str, x_g, gin_str, gix_dct, gin_dct, x_gix, x_gin, slA_int, slB_int, slC_int, x_slA, x_slB, slCX_int, x_slC, rev_lst, x_rev, x_call, x_bi, x_mt, mtX_index, mtX_get, mt_index, mt_get, x_lc, lcB_f, lcG_at, lcC_s, lcR_f, lcR_t, lcR_m, z_nil, z_cons, c_nil, cnd_t, cnd_f, cnd_nil, c_cons, s_nil, s_cons, s_set, s_setI, s_setM, setM_nil, setM_dct, opt_s, tp_tup, s_tp, q_nil, q_cons, t_nm, t_tp, appX_l, s_app, extX_l, s_ext, popX_c, s_pop, s_put, s_ex, iteS_t, iteS_f, s_ite, for_f, s_for, wh_at, s_while, s_ret, s_retN, s_raise, s_brk, s_cont, s_pass, o_add, o_sub, o_addT, o_mul, sm_of, o_mod, o_div, th_bl, th_int, th_str, th_non, th_tup, th_lst, i_lst, i_tup, i_enL, i_enT, i_zL, i_zT, b_lenS, b_lenA, b_lenT, b_lenL, b_tupT, b_tupL, b_lstT, b_lstL, b_sorted, b_sset, b_dict, isi_s, b_isi, all_s, b_all, any_s, b_any, max_s, b_max, D.isTys, D.isTy, ixT, ixL, ixA, cm_int, cm_str, cm_bl, cm_nint, cm_nstr, cm_nbl, cm_lt, cm_le, cm_gt, cm_ge, cm_in, cm_nin, cm_isN, cm_isI, cm_isS, cm_isB, cm_isT, cm_isL, cm_snN, cm_snI, cm_snS, cm_snB, cm_snT, cm_snL, e_rt, e_nx, e_exc, w_nil, w_cons, List.map_cons, List.map_nil, List.length_cons, List.length_nil, List.cons_append, List.nil_append, List.append_nil, List.getElem?_cons_zero, List.getElem?_cons_succ, List.getElem?_nil, List.set_cons_zero, List.set_cons_succ, r_b, r_be, r_x, r_t, r_te, n_nx, n_rt, n_bk, n_ct, n_exc, u_nx, u_ct, u_bk, u_rt, u_exc, startE, List.replicate, Nat.reduceAdd, Nat.reduceSub, atI_0, atI_1, atI_2, atI_3, Bool.false_and, Bool.true_and, Bool.not_true, Bool.not_false, Bool.false_eq_true, if_false, if_true, reduceIte, Int.reduceLT, Int.reduceNeg, Nat.reduceLeDiff, Bool.or_true, Bool.true_or, Bool.true_beq, Bool.false_beq, Bool.and_true, Bool.and_false, Bool.or_false, Bool.false_or, SZ]
          rw [lc_filter (p := okWire x b) (g := D.int)]
          · simp only [g0, gS, x_v, x_k, x_tup, x_lst, x_dct, x_op, x_cmp, x_chn, chn_t, chn_f, sel_t, sel_f, and_t, and_f, or_t, or_f, x_and, x_or, x_not, neg_int, x_neg, x_ite, x_ix, gD_int, gD_str, x_g, gin_str, gix_dct, gin_dct, x_gix, x_gin, slA_int, slB_int, slC_int, x_slA, x_slB, slCX_int, x_slC, rev_lst, x_rev, x_call, x_bi, x_mt, mtX_index, mtX_get, mt_index, mt_get, x_lc, lcB_f, lcG_at, lcC_s, lcR_f, lcR_t, lcR_m, z_nil, z_cons, c_nil, cnd_t, cnd_f, cnd_nil, c_cons, s_nil, s_cons, s_set, s_setI, s_setM, setM_nil, setM_dct, opt_s, tp_tup, s_tp, q_nil, q_cons, t_nm, t_tp, appX_l, s_app, extX_l, s_ext, popX_c, s_pop, s_put, s_ex, iteS_t, iteS_f, s_ite, for_f, s_for, wh_at, s_while, s_ret, s_retN, s_raise, s_brk, s_cont, s_pass, o_add, o_sub, o_addT, o_mul, sm_of, o_mod, o_div, th_bl, th_int, th_str, th_non, th_tup, th_lst, i_lst, i_tup, i_enL, i_enT, i_zL, i_zT, b_lenS, b_lenA, b_lenT, b_lenL, b_tupT, b_tupL, b_lstT, b_lstL, b_sorted, b_sset, b_dict, isi_s, b_isi, all_s, b_all, any_s, b_any, max_s, b_max, D.isTys, D.isTy, ixT, ixL, ixA, cm_int, cm_str, cm_bl, cm_nint, cm_nstr, cm_nbl, cm_lt, cm_le, cm_gt, cm_ge, cm_in, cm_nin, cm_isN, cm_isI, cm_isS, cm_isB, cm_isT, cm_isL, cm_snN, cm_snI, cm_snS, cm_snB, cm_snT, cm_snL, e_rt, e_nx, e_exc, w_nil, w_cons, List.map_cons, List.map_nil, List.length_cons, List.length_nil, List.cons_append, List.nil_append, List.append_nil, List.getElem?_cons_zero, List.getElem?_cons_succ, List.getElem?_nil, List.set_cons_zero, List.set_cons_succ, r_b, r_be, r_x, r_t, r_te, n_nx, n_rt, n_bk, n_ct, n_exc, u_nx, u_ct, u_bk, u_rt, u_exc, startE, List.replicate, Nat.reduceAdd, Nat.reduceSub, atI_0, atI_1, atI_2, atI_3, Bool.false_and, Bool.true_and, Bool.not_true, Bool.not_false, Bool.false_eq_true, if_false, if_true, reduceIte, Int.reduceLT, Int.reduceNeg, Nat.reduceLeDiff, Bool.or_true, Bool.true_or, Bool.true_beq, Bool.false_beq, Bool.and_true, Bool.and_false, Bool.or_false, Bool.false_or, SZ]
            have es : (freeOf bs kind).filter (okWire x b) = someOf x bs b kind := rfl
            rw [es]
            have ew : wireAt x bs b (kind, p) = if !(someOf x bs b kind).isEmpty && decide (0 < mixI (seedOf x b p) 9929 4) then [⟨(someOf x bs b kind).getD (mixI (seedOf x b p) 9923 (someOf x bs b kind).length).toNat 0, 0, b.n, p⟩] else [] := rfl
            rw [ew]
            generalize someOf x bs b kind = sm
            have esd : x + 13 * b.n + 5 * (p : Int) = seedOf x b p := rfl
            rw [esd]
            cases sm with
            | nil =>
              simp only [g0, gS, x_v, x_k, x_tup, x_lst, x_dct, x_op, x_cmp, x_chn, chn_t, chn_f, sel_t, sel_f, and_t, and_f, or_t, or_f, x_and, x_or, x_not, neg_int, x_neg, x_ite, x_ix, gD_int, gD_str, x_g, gin_str, gix_dct, gin_dct, x_gix, x_gin, slA_int, slB_int, slC_int, x_slA, x_slB, slCX_int, x_slC, rev_lst, x_rev, x_call, x_bi, x_mt, mtX_index, mtX_get, mt_index, mt_get, x_lc, lcB_f, lcG_at, lcC_s, lcR_f, lcR_t, lcR_m, z_nil, z_cons, c_nil, cnd_t, cnd_f, cnd_nil, c_cons, s_nil, s_cons, s_set, s_setI, s_setM, setM_nil, setM_dct, opt_s, tp_tup, s_tp, q_nil, q_cons, t_nm, t_tp, appX_l, s_app, extX_l, s_ext, popX_c, s_pop, s_put, s_ex, iteS_t, iteS_f, s_ite, for_f, s_for, wh_at, s_while, s_ret, s_retN, s_raise, s_brk, s_cont, s_pass, o_add, o_sub, o_addT, o_mul, sm_of, o_mod, o_div, th_bl, th_int, th_str, th_non, th_tup, th_lst, i_lst, i_tup, i_enL, i_enT, i_zL, i_zT, b_lenS, b_lenA, b_lenT, b_lenL, b_tupT, b_tupL, b_lstT, b_lstL, b_sorted, b_sset, b_dict, isi_s, b_isi, all_s, b_all, any_s, b_any, max_s, b_max, D.isTys, D.isTy, ixT, ixL, ixA, cm_int, cm_str, cm_bl, cm_nint, cm_nstr, cm_nbl, cm_lt, cm_le, cm_gt, cm_ge, cm_in, cm_nin, cm_isN, cm_isI, cm_isS, cm_isB, cm_isT, cm_isL, cm_snN, cm_snI, cm_snS, cm_snB, cm_snT, cm_snL, e_rt, e_nx, e_exc, w_nil, w_cons, List.map_cons, List.map_nil, List.length_cons, List.length_nil, List.cons_append, List.nil_append, List.append_nil, List.getElem?_cons_zero, List.getElem?_cons_succ, List.getElem?_nil, List.set_cons_zero, List.set_cons_succ, r_b, r_be, r_x, r_t, r_te, n_nx, n_rt, n_bk, n_ct, n_exc, u_nx, u_ct, u_bk, u_rt, u_exc, startE, List.replicate, Nat.reduceAdd, Nat.reduceSub, atI_0, atI_1, atI_2, atI_3, Bool.false_and, Bool.true_and, Bool.not_true, Bool.not_false, Bool.false_eq_true, if_false, if_true, reduceIte, Int.reduceLT, Int.reduceNeg, Nat.reduceLeDiff, Bool.or_true, Bool.true_or, Bool.true_beq, Bool.false_beq, Bool.and_true, Bool.and_false, Bool.or_false, Bool.false_or, SZ, List.isEmpty_nil]
              exact to_nx ⟨_, _, _, _, _, _, rfl⟩
            | cons s0 sm =>
              simp only [g0, gS, x_v, x_k, x_tup, x_lst, x_dct, x_op, x_cmp, x_chn, chn_t, chn_f, sel_t, sel_f, and_t, and_f, or_t, or_f, x_and, x_or, x_not, neg_int, x_neg, x_ite, x_ix, gD_int, gD_str, x_g, gin_str, gix_dct, gin_dct, x_gix, x_gin, slA_int, slB_int, slC_int, x_slA, x_slB, slCX_int, x_slC, rev_lst, x_rev, x_call, x_bi, x_mt, mtX_index, mtX_get, mt_index, mt_get, x_lc, lcB_f, lcG_at, lcC_s, lcR_f, lcR_t, lcR_m, z_nil, z_cons, c_nil, cnd_t, cnd_f, cnd_nil, c_cons, s_nil, s_cons, s_set, s_setI, s_setM, setM_nil, setM_dct, opt_s, tp_tup, s_tp, q_nil, q_cons, t_nm, t_tp, appX_l, s_app, extX_l, s_ext, popX_c, s_pop, s_put, s_ex, iteS_t, iteS_f, s_ite, for_f, s_for, wh_at, s_while, s_ret, s_retN, s_raise, s_brk, s_cont, s_pass, o_add, o_sub, o_addT, o_mul, sm_of, o_mod, o_div, th_bl, th_int, th_str, th_non, th_tup, th_lst, i_lst, i_tup, i_enL, i_enT, i_zL, i_zT, b_lenS, b_lenA, b_lenT, b_lenL, b_tupT, b_tupL, b_lstT, b_lstL, b_sorted, b_sset, b_dict, isi_s, b_isi, all_s, b_all, any_s, b_any, max_s, b_max, D.isTys, D.isTy, ixT, ixL, ixA, cm_int, cm_str, cm_bl, cm_nint, cm_nstr, cm_nbl, cm_lt, cm_le, cm_gt, cm_ge, cm_in, cm_nin, cm_isN, cm_isI, cm_isS, cm_isB, cm_isT, cm_isL, cm_snN, cm_snI, cm_snS, cm_snB, cm_snT, cm_snL, e_rt, e_nx, e_exc, w_nil, w_cons, List.map_cons, List.map_nil, List.length_cons, List.length_nil, List.cons_append, List.nil_append, List.append_nil, List.getElem?_cons_zero, List.getElem?_cons_succ, List.getElem?_nil, List.set_cons_zero, List.set_cons_succ, r_b, r_be, r_x, r_t, r_te, n_nx, n_rt, n_bk, n_ct, n_exc, u_nx, u_ct, u_bk, u_rt, u_exc, startE, List.replicate, Nat.reduceAdd, Nat.reduceSub, atI_0, atI_1, atI_2, atI_3, Bool.false_and, Bool.true_and, Bool.not_true, Bool.not_false, Bool.false_eq_true, if_false, if_true, reduceIte, Int.reduceLT, Int.reduceNeg, Nat.reduceLeDiff, Bool.or_true, Bool.true_or, Bool.true_beq, Bool.false_beq, Bool.and_true, Bool.and_false, Bool.or_false, Bool.false_or, SZ, List.isEmpty_cons, hmx (p := 9929) (m := 4) (by decide) (by decide) (by decide)]
              cases hd : decide (0 < mixI (seedOf x b p) 9929 4) with
              | false =>
                simp only [g0, gS, x_v, x_k, x_tup, x_lst, x_dct, x_op, x_cmp, x_chn, chn_t, chn_f, sel_t, sel_f, and_t, and_f, or_t, or_f, x_and, x_or, x_not, neg_int, x_neg, x_ite, x_ix, gD_int, gD_str, x_g, gin_str, gix_dct, gin_dct, x_gix, x_gin, slA_int, slB_int, slC_int, x_slA, x_slB, slCX_int, x_slC, rev_lst, x_rev, x_call, x_bi, x_mt, mtX_index, mtX_get, mt_index, mt_get, x_lc, lcB_f, lcG_at, lcC_s, lcR_f, lcR_t, lcR_m, z_nil, z_cons, c_nil, cnd_t, cnd_f, cnd_nil, c_cons, s_nil, s_cons, s_set, s_setI, s_setM, setM_nil, setM_dct, opt_s, tp_tup, s_tp, q_nil, q_cons, t_nm, t_tp, appX_l, s_app, extX_l, s_ext, popX_c, s_pop, s_put, s_ex, iteS_t, iteS_f, s_ite, for_f, s_for, wh_at, s_while, s_ret, s_retN, s_raise, s_brk, s_cont, s_pass, o_add, o_sub, o_addT, o_mul, sm_of, o_mod, o_div, th_bl, th_int, th_str, th_non, th_tup, th_lst, i_lst, i_tup, i_enL, i_enT, i_zL, i_zT, b_lenS, b_lenA, b_lenT, b_lenL, b_tupT, b_tupL, b_lstT, b_lstL, b_sorted, b_sset, b_dict, isi_s, b_isi, all_s, b_all, any_s, b_any, max_s, b_max, D.isTys, D.isTy, ixT, ixL, ixA, cm_int, cm_str, cm_bl, cm_nint, cm_nstr, cm_nbl, cm_lt, cm_le, cm_gt, cm_ge, cm_in, cm_nin, cm_isN, cm_isI, cm_isS, cm_isB, cm_isT, cm_isL, cm_snN, cm_snI, cm_snS, cm_snB, cm_snT, cm_snL, e_rt, e_nx, e_exc, w_nil, w_cons, List.map_cons, List.map_nil, List.length_cons, List.length_nil, List.cons_append, List.nil_append, List.append_nil, List.getElem?_cons_zero, List.getElem?_cons_succ, List.getElem?_nil, List.set_cons_zero, List.set_cons_succ, r_b, r_be, r_x, r_t, r_te, n_nx, n_rt, n_bk, n_ct, n_exc, u_nx, u_ct, u_bk, u_rt, u_exc, startE, List.replicate, Nat.reduceAdd, Nat.reduceSub, atI_0, atI_1, atI_2, atI_3, Bool.false_and, Bool.true_and, Bool.not_true, Bool.not_false, Bool.false_eq_true, if_false, if_true, reduceIte, Int.reduceLT, Int.reduceNeg, Nat.reduceLeDiff, Bool.or_true, Bool.true_or, Bool.true_beq, Bool.false_beq, Bool.and_true, Bool.and_false, Bool.or_false, Bool.false_or, SZ]
                exact to_nx ⟨_, _, _, _, _, _, rfl⟩
              | true =>
                obtain ⟨z0, z1⟩ := mixI_lt (x := seedOf x b p) (p := 9923) (m := ((s0 :: sm).length : Nat)) (by rw [List.length_cons]; omega)
                have e9 := at_ints z0 z1
                have e10 := hmx (y := seedOf x b p) (p := 9923) (m := ((s0 :: sm).length : Nat)) (by decide) (by decide) (by rw [List.length_cons]; omega)
                simp only [List.map_cons, List.length_cons] at e9 e10
                simp only [g0, gS, x_v, x_k, x_tup, x_lst, x_dct, x_op, x_cmp, x_chn, chn_t, chn_f, sel_t, sel_f, and_t, and_f, or_t, or_f, x_and, x_or, x_not, neg_int, x_neg, x_ite, x_ix, gD_int, gD_str, x_g, gin_str, gix_dct, gin_dct, x_gix, x_gin, slA_int, slB_int, slC_int, x_slA, x_slB, slCX_int, x_slC, rev_lst, x_rev, x_call, x_bi, x_mt, mtX_index, mtX_get, mt_index, mt_get, x_lc, lcB_f, lcG_at, lcC_s, lcR_f, lcR_t, lcR_m, z_nil, z_cons, c_nil, cnd_t, cnd_f, cnd_nil, c_cons, s_nil, s_cons, s_set, s_setI, s_setM, setM_nil, setM_dct, opt_s, tp_tup, s_tp, q_nil, q_cons, t_nm, t_tp, appX_l, s_app, extX_l, s_ext, popX_c, s_pop, s_put, s_ex, iteS_t, iteS_f, s_ite, for_f, s_for, wh_at, s_while, s_ret, s_retN, s_raise, s_brk, s_cont, s_pass, o_add, o_sub, o_addT, o_mul, sm_of, o_mod, o_div, th_bl, th_int, th_str, th_non, th_tup, th_lst, i_lst, i_tup, i_enL, i_enT, i_zL, i_zT, b_lenS, b_lenA, b_lenT, b_lenL, b_tupT, b_tupL, b_lstT, b_lstL, b_sorted, b_sset, b_dict, isi_s, b_isi, all_s, b_all, any_s, b_any, max_s, b_max, D.isTys, D.isTy, ixT, ixL, ixA, cm_int, cm_str, cm_bl, cm_nint, cm_nstr, cm_nbl, cm_lt, cm_le, cm_gt, cm_ge, cm_in, cm_nin, cm_isN, cm_isI, cm_isS, cm_isB, cm_isT, cm_isL, cm_snN, cm_snI, cm_snS, cm_snB, cm_snT, cm_snL, e_rt, e_nx, e_exc, w_nil, w_cons, List.map_cons, List.map_nil, List.length_cons, List.length_nil, List.cons_append, List.nil_append, List.append_nil, List.getElem?_cons_zero, List.getElem?_cons_succ, List.getElem?_nil, List.set_cons_zero, List.set_cons_succ, r_b, r_be, r_x, r_t, r_te, n_nx, n_rt, n_bk, n_ct, n_exc, u_nx, u_ct, u_bk, u_rt, u_exc, startE, List.replicate, Nat.reduceAdd, Nat.reduceSub, atI_0, atI_1, atI_2, atI_3, Bool.false_and, Bool.true_and, Bool.not_true, Bool.not_false, Bool.false_eq_true, if_false, if_true, reduceIte, Int.reduceLT, Int.reduceNeg, Nat.reduceLeDiff, Bool.or_true, Bool.true_or, Bool.true_beq, Bool.false_beq, Bool.and_true, Bool.and_false, Bool.or_false, Bool.false_or, SZ, List.length_map, e10, e9, bx0]
                rw [app_t]
                · exact to_nx ⟨_, _, _, _, _, _, by rw [List.map_append]; rfl⟩
                · rfl
                · rw [List.length_map]
                  simp only [SZ]
                  omega
          · intro one _
            simp only [okWire, turned]
            rcases Bool.eq_false_or_eq_true (decide (one < b.n)) with h1 | h1 <;> rcases Bool.eq_false_or_eq_true (x % 3 == 0) with h2 | h2 <;> rcases Bool.eq_false_or_eq_true (one == b.n) with h3 | h3 <;> rcases Bool.eq_false_or_eq_true (b.w == ("late" : Str)) with h4 | h4 <;> simp only [g0, gS, x_v, x_k, x_tup, x_lst, x_dct, x_op, x_cmp, x_chn, chn_t, chn_f, sel_t, sel_f, and_t, and_f, or_t, or_f, x_and, x_or, x_not, neg_int, x_neg, x_ite, x_ix, gD_int, gD_str, x_g, gin_str, gix_dct, gin_dct, x_gix, x_gin, slA_int, slB_int, slC_int, x_slA, x_slB, slCX_int, x_slC, rev_lst, x_rev, x_call, x_bi, x_mt, mtX_index, mtX_get, mt_index, mt_get, x_lc, lcB_f, lcG_at, lcC_s, lcR_f, lcR_t, lcR_m, z_nil, z_cons, c_nil, cnd_t, cnd_f, cnd_nil, c_cons, s_nil, s_cons, s_set, s_setI, s_setM, setM_nil, setM_dct, opt_s, tp_tup, s_tp, q_nil, q_cons, t_nm, t_tp, appX_l, s_app, extX_l, s_ext, popX_c, s_pop, s_put, s_ex, iteS_t, iteS_f, s_ite, for_f, s_for, wh_at, s_while, s_ret, s_retN, s_raise, s_brk, s_cont, s_pass, o_add, o_sub, o_addT, o_mul, sm_of, o_mod, o_div, th_bl, th_int, th_str, th_non, th_tup, th_lst, i_lst, i_tup, i_enL, i_enT, i_zL, i_zT, b_lenS, b_lenA, b_lenT, b_lenL, b_tupT, b_tupL, b_lstT, b_lstL, b_sorted, b_sset, b_dict, isi_s, b_isi, all_s, b_all, any_s, b_any, max_s, b_max, D.isTys, D.isTy, ixT, ixL, ixA, cm_int, cm_str, cm_bl, cm_nint, cm_nstr, cm_nbl, cm_lt, cm_le, cm_gt, cm_ge, cm_in, cm_nin, cm_isN, cm_isI, cm_isS, cm_isB, cm_isT, cm_isL, cm_snN, cm_snI, cm_snS, cm_snB, cm_snT, cm_snL, e_rt, e_nx, e_exc, w_nil, w_cons, List.map_cons, List.map_nil, List.length_cons, List.length_nil, List.cons_append, List.nil_append, List.append_nil, List.getElem?_cons_zero, List.getElem?_cons_succ, List.getElem?_nil, List.set_cons_zero, List.set_cons_succ, r_b, r_be, r_x, r_t, r_te, n_nx, n_rt, n_bk, n_ct, n_exc, u_nx, u_ct, u_bk, u_rt, u_exc, startE, List.replicate, Nat.reduceAdd, Nat.reduceSub, atI_0, atI_1, atI_2, atI_3, Bool.false_and, Bool.true_and, Bool.not_true, Bool.not_false, Bool.false_eq_true, if_false, if_true, reduceIte, Int.reduceLT, Int.reduceNeg, Nat.reduceLeDiff, Bool.or_true, Bool.true_or, Bool.true_beq, Bool.false_beq, Bool.and_true, Bool.and_false, Bool.or_false, Bool.false_or, SZ, bx0, bx1, h1, h2, h3, h4, bne]
        · intro c hc
          simp only [g0, gS, x_v, x_k, x_tup, x_lst, x_dct, x_op, x_cmp, x_chn, chn_t, chn_f, sel_t, sel_f, and_t, and_f, or_t, or_f, x_and, x_or, x_not, neg_int, x_neg, x_ite, x_ix, gD_int, gD_str, x_g, gin_str, gix_dct, gin_dct, x_gix, x_gin, slA_int, slB_int, slC_int, x_slA, x_slB, slCX_int, x_slC, rev_lst, x_rev, x_call, x_bi, x_mt, mtX_index, mtX_get, mt_index, mt_get, x_lc, lcB_f, lcG_at, lcC_s, lcR_f, lcR_t, lcR_m, z_nil, z_cons, c_nil, cnd_t, cnd_f, cnd_nil, c_cons, s_nil, s_cons, s_set, s_setI, s_setM, setM_nil, setM_dct, opt_s, tp_tup, s_tp, q_nil, q_cons, t_nm, t_tp, appX_l, s_app, extX_l, s_ext, popX_c, s_pop, s_put, s_ex, iteS_t, iteS_f, s_ite, for_f, s_for, wh_at, s_while, s_ret, s_retN, s_raise, s_brk, s_cont, s_pass, o_add, o_sub, o_addT, o_mul, sm_of, o_mod, o_div, th_bl, th_int, th_str, th_non, th_tup, th_lst, i_lst, i_tup, i_enL, i_enT, i_zL, i_zT, b_lenS, b_lenA, b_lenT, b_lenL, b_tupT, b_tupL, b_lstT, b_lstL, b_sorted, b_sset, b_dict, isi_s, b_isi, all_s, b_all, any_s, b_any, max_s, b_max, D.isTys, D.isTy, ixT, ixL, ixA, cm_int, cm_str, cm_bl, cm_nint, cm_nstr, cm_nbl, cm_lt, cm_le, cm_gt, cm_ge, cm_in, cm_nin, cm_isN, cm_isI, cm_isS, cm_isB, cm_isT, cm_isL, cm_snN, cm_snI, cm_snS, cm_snB, cm_snT, cm_snL, e_rt, e_nx, e_exc, w_nil, w_cons, List.map_cons, List.map_nil, List.length_cons, List.length_nil, List.cons_append, List.nil_append, List.append_nil, List.getElem?_cons_zero, List.getElem?_cons_succ, List.getElem?_nil, List.set_cons_zero, List.set_cons_succ, r_b, r_be, r_x, r_t, r_te, n_nx, n_rt, n_bk, n_ct, n_exc, u_nx, u_ct, u_bk, u_rt, u_exc, startE, List.replicate, Nat.reduceAdd, Nat.reduceSub, atI_0, atI_1, atI_2, atI_3, Bool.false_and, Bool.true_and, Bool.not_true, Bool.not_false, Bool.false_eq_true, if_false, if_true, reduceIte, Int.reduceLT, Int.reduceNeg, Nat.reduceLeDiff, Bool.or_true, Bool.true_or, Bool.true_beq, Bool.false_beq, Bool.and_true, Bool.and_false, Bool.or_false, Bool.false_or, SZ, hk c hc, kdD, bx0, cm_tup1]
          cases (kn c).2 == [kind] <;> simp only [g0, gS, x_v, x_k, x_tup, x_lst, x_dct, x_op, x_cmp, x_chn, chn_t, chn_f, sel_t, sel_f, and_t, and_f, or_t, or_f, x_and, x_or, x_not, neg_int, x_neg, x_ite, x_ix, gD_int, gD_str, x_g, gin_str, gix_dct, gin_dct, x_gix, x_gin, slA_int, slB_int, slC_int, x_slA, x_slB, slCX_int, x_slC, rev_lst, x_rev, x_call, x_bi, x_mt, mtX_index, mtX_get, mt_index, mt_get, x_lc, lcB_f, lcG_at, lcC_s, lcR_f, lcR_t, lcR_m, z_nil, z_cons, c_nil, cnd_t, cnd_f, cnd_nil, c_cons, s_nil, s_cons, s_set, s_setI, s_setM, setM_nil, setM_dct, opt_s, tp_tup, s_tp, q_nil, q_cons, t_nm, t_tp, appX_l, s_app, extX_l, s_ext, popX_c, s_pop, s_put, s_ex, iteS_t, iteS_f, s_ite, for_f, s_for, wh_at, s_while, s_ret, s_retN, s_raise, s_brk, s_cont, s_pass, o_add, o_sub, o_addT, o_mul, sm_of, o_mod, o_div, th_bl, th_int, th_str, th_non, th_tup, th_lst, i_lst, i_tup, i_enL, i_enT, i_zL, i_zT, b_lenS, b_lenA, b_lenT, b_lenL, b_tupT, b_tupL, b_lstT, b_lstL, b_sorted, b_sset, b_dict, isi_s, b_isi, all_s, b_all, any_s, b_any, max_s, b_max, D.isTys, D.isTy, ixT, ixL, ixA, cm_int, cm_str, cm_bl, cm_nint, cm_nstr, cm_nbl, cm_lt, cm_le, cm_gt, cm_ge, cm_in, cm_nin, cm_isN, cm_isI, cm_isS, cm_isB, cm_isT, cm_isL, cm_snN, cm_snI, cm_snS, cm_snB, cm_snT, cm_snL, e_rt, e_nx, e_exc, w_nil, w_cons, List.map_cons, List.map_nil, List.length_cons, List.length_nil, List.cons_append, List.nil_append, List.append_nil, List.getElem?_cons_zero, List.getElem?_cons_succ, List.getElem?_nil, List.set_cons_zero, List.set_cons_succ, r_b, r_be, r_x, r_t, r_te, n_nx, n_rt, n_bk, n_ct, n_exc, u_nx, u_ct, u_bk, u_rt, u_exc, startE, List.replicate, Nat.reduceAdd, Nat.reduceSub, atI_0, atI_1, atI_2, atI_3, Bool.false_and, Bool.true_and, Bool.not_true, Bool.not_false, Bool.false_eq_true, if_false, if_true, reduceIte, Int.reduceLT, Int.reduceNeg, Nat.reduceLeDiff, Bool.or_true, Bool.true_or, Bool.true_beq, Bool.false_beq, Bool.and_true, Bool.and_false, Bool.or_false, Bool.false_or, SZ, bx0] <;> rfl
      · subst e
        rw [List.take_length, List.flatMap_cons, List.flatMap_nil, List.append_nil]
        simp only [g0, gS, x_v, x_k, x_tup, x_lst, x_dct, x_op, x_cmp, x_chn, chn_t, chn_f, sel_t, sel_f, and_t, and_f, or_t, or_f, x_and, x_or, x_not, neg_int, x_neg, x_ite, x_ix, gD_int, gD_str, x_g, gin_str, gix_dct, gin_dct, x_gix, x_gin, slA_int, slB_int, slC_int, x_slA, x_slB, slCX_int, x_slC, rev_lst, x_rev, x_call, x_bi, x_mt, mtX_index, mtX_get, mt_index, mt_get, x_lc, lcB_f, lcG_at, lcC_s, lcR_f, lcR_t, lcR_m, z_nil, z_cons, c_nil, cnd_t, cnd_f, cnd_nil, c_cons, s_nil, s_cons, s_set, s_setI, s_setM, setM_nil, setM_dct, opt_s, tp_tup, s_tp, q_nil, q_cons, t_nm, t_tp, appX_l, s_app, extX_l, s_ext, popX_c, s_pop, s_put, s_ex, iteS_t, iteS_f, s_ite, for_f, s_for, wh_at, s_while, s_ret, s_retN, s_raise, s_brk, s_cont, s_pass, o_add, o_sub, o_addT, o_mul, sm_of, o_mod, o_div, th_bl, th_int, th_str, th_non, th_tup, th_lst, i_lst, i_tup, i_enL, i_enT, i_zL, i_zT, b_lenS, b_lenA, b_lenT, b_lenL, b_tupT, b_tupL, b_lstT, b_lstL, b_sorted, b_sset, b_dict, isi_s, b_isi, all_s, b_all, any_s, b_any, max_s, b_max, D.isTys, D.isTy, ixT, ixL, ixA, cm_int, cm_str, cm_bl, cm_nint, cm_nstr, cm_nbl, cm_lt, cm_le, cm_gt, cm_ge, cm_in, cm_nin, cm_isN, cm_isI, cm_isS, cm_isB, cm_isT, cm_isL, cm_snN, cm_snI, cm_snS, cm_snB, cm_snT, cm_snL, e_rt, e_nx, e_exc, w_nil, w_cons, List.map_cons, List.map_nil, List.length_cons, List.length_nil, List.cons_append, List.nil_append, List.append_nil, List.getElem?_cons_zero, List.getElem?_cons_succ, List.getElem?_nil, List.set_cons_zero, List.set_cons_succ, r_b, r_be, r_x, r_t, r_te, n_nx, n_rt, n_bk, n_ct, n_exc, u_nx, u_ct, u_bk, u_rt, u_exc, startE, List.replicate, Nat.reduceAdd, Nat.reduceSub, atI_0, atI_1, atI_2, atI_3, Bool.false_and, Bool.true_and, Bool.not_true, Bool.not_false, Bool.false_eq_true, if_false, if_true, reduceIte, Int.reduceLT, Int.reduceNeg, Nat.reduceLeDiff, Bool.or_true, Bool.true_or, Bool.true_beq, Bool.false_beq, Bool.and_true, Bool.and_false, Bool.or_false, Bool.false_or, SZ]
        exact to_nx ⟨_, _, _, _, _, _, _, rfl⟩
    · subst e
      rw [List.take_length]
      simp only [g0, gS, x_v, x_k, x_tup, x_lst, x_dct, x_op, x_cmp, x_chn, chn_t, chn_f, sel_t, sel_f, and_t, and_f, or_t, or_f, x_and, x_or, x_not, neg_int, x_neg, x_ite, x_ix, gD_int, gD_str, x_g, gin_str, gix_dct, gin_dct, x_gix, x_gin, slA_int, slB_int, slC_int, x_slA, x_slB, slCX_int, x_slC, rev_lst, x_rev, x_call, x_bi, x_mt, mtX_index, mtX_get, mt_index, mt_get, x_lc, lcB_f, lcG_at, lcC_s, lcR_f, lcR_t, lcR_m, z_nil, z_cons, c_nil, cnd_t, cnd_f, cnd_nil, c_cons, s_nil, s_cons, s_set, s_setI, s_setM, setM_nil, setM_dct, opt_s, tp_tup, s_tp, q_nil, q_cons, t_nm, t_tp, appX_l, s_app, extX_l, s_ext, popX_c, s_pop, s_put, s_ex, iteS_t, iteS_f, s_ite, for_f, s_for, wh_at, s_while, s_ret, s_retN, s_raise, s_brk, s_cont, s_pass, o_add, o_sub, o_addT, o_mul, sm_of, o_mod, o_div, th_bl, th_int, th_str, th_non, th_tup, th_lst, i_lst, i_tup, i_enL, i_enT, i_zL, i_zT, b_lenS, b_lenA, b_lenT, b_lenL, b_tupT, b_tupL, b_lstT, b_lstL, b_sorted, b_sset, b_dict, isi_s, b_isi, all_s, b_all, any_s, b_any, max_s, b_max, D.isTys, D.isTy, ixT, ixL, ixA, cm_int, cm_str, cm_bl, cm_nint, cm_nstr, cm_nbl, cm_lt, cm_le, cm_gt, cm_ge, cm_in, cm_nin, cm_isN, cm_isI, cm_isS, cm_isB, cm_isT, cm_isL, cm_snN, cm_snI, cm_snS, cm_snB, cm_snT, cm_snL, e_rt, e_nx, e_exc, w_nil, w_cons, List.map_cons, List.map_nil, List.length_cons, List.length_nil, List.cons_append, List.nil_append, List.append_nil, List.getElem?_cons_zero, List.getElem?_cons_succ, List.getElem?_nil, List.set_cons_zero, List.set_cons_succ, r_b, r_be, r_x, r_t, r_te, n_nx, n_rt, n_bk, n_ct, n_exc, u_nx, u_ct, u_bk, u_rt, u_exc, startE, List.replicate, Nat.reduceAdd, Nat.reduceSub, atI_0, atI_1, atI_2, atI_3, Bool.false_and, Bool.true_and, Bool.not_true, Bool.not_false, Bool.false_eq_true, if_false, if_true, reduceIte, Int.reduceLT, Int.reduceNeg, Nat.reduceLeDiff, Bool.or_true, Bool.true_or, Bool.true_beq, Bool.false_beq, Bool.and_true, Bool.and_false, Bool.or_false, Bool.false_or, SZ, sort_wires]
      rfl
end
end B

set_option maxHeartbeats 4000000
/-! Th6: boxes put into a group, by the laws. -/
namespace B
open PySem
abbrev Pr : Type := Int × Int
def prL (q : Pr) : List Int := [q.1, q.2]
def ltP (u v : Pr) : Bool := HT.lexLt (prL u) (prL v)
def sortP (l : List Pr) : List Pr := D.isort ltP l
def Wr.src (w : Wr) : Pr := (w.a, w.o)
def Wr.tgt (w : Wr) : Pr := (w.b, w.p)
theorem sortP_perm (l : List Pr) : (sortP l).Perm l := isort_perm' ltP l
theorem tups_prs : ∀ l : List Pr, D.tupsD (l.map prD) = some (l.map prL)
  | [] => rfl
  | w :: ws => by simp only [List.map_cons, D.tupsD, prD, D.intTup, D.intsD, Option.map_some, tups_prs ws]; rfl
theorem sort_prs (l : List Pr) : D.sortL (l.map prD) = .ok (.lst ((sortP l).map prD)) := by
  cases l with
  | nil => rfl
  | cons w ws =>
    have e1 : D.intsD ((w :: ws).map prD) = none := rfl
    have e2 : ((w :: ws).map prL).all (fun t => !t.isEmpty) = true := by
      rw [List.all_map]
      exact List.all_eq_true.mpr fun u _ => rfl
    unfold D.sortL
    rw [e1, tups_prs]
    dsimp only
    rw [if_pos e2, isort_map, List.map_map]
    rfl
theorem prL_inj {a b : Pr} (h : prL a = prL b) : a = b := by
  obtain ⟨a1, a2⟩ := a
  obtain ⟨b1, b2⟩ := b
  simp only [prL, List.cons.injEq, and_true] at h
  rw [h.1, h.2]
theorem prL_beq (a b : Pr) : (prL a == prL b) = (a == b) := by
  rw [Bool.eq_iff_iff, beq_iff_eq, beq_iff_eq]
  exact ⟨prL_inj, fun h => by rw [h]⟩
theorem nub_prs : ∀ l : List Pr, D.nub (· == ·) (l.map prL) = (D.nub (· == ·) l).map prL
  | [] => rfl
  | x :: l => by
    simp only [List.map_cons, D.nub, nub_prs l, List.filter_map]
    congr 2
    refine List.filter_congr fun y _ => ?_
    simp only [Function.comp_apply, prL_beq]
theorem sset_prs {l : List Pr} (h : l.length < 64) (h2 : ∀ x ∈ l, 0 ≤ x.1 ∧ 0 ≤ x.2) : D.ssetL (l.map prD) = .ok (.lst ((sortP (D.nub (· == ·) l)).map prD)) := by
  have e : D.evenT (l.map prL) = true := by
    unfold D.evenT
    rw [List.all_eq_true]
    intro t ht
    obtain ⟨x, hx, rfl⟩ := List.mem_map.mp ht
    obtain ⟨a, b⟩ := h2 x hx
    cases l with
    | nil => cases hx
    | cons y l => simp [prL, a, b]
  unfold D.ssetL
  rw [tups_prs]
  dsimp only
  rw [if_pos (by rw [List.length_map, e, Bool.and_true]; exact decide_eq_true h), nub_prs, isort_map, List.map_map]
  rfl
/-- the place in a list -/
def ixP (l : List Pr) (x : Pr) : Nat := l.findIdx (· == x)
theorem plain_prs : ∀ l : List Pr, D.plainL (l.map prD) = true ∧ D.depL (l.map prD) ≤ 1
  | [] => ⟨rfl, by simp [D.depL]⟩
  | x :: l => by
    obtain ⟨a, b⟩ := plain_prs l
    refine ⟨by simp only [List.map_cons, D.plainL, D.plain, prD, a]; rfl, ?_⟩
    simp only [List.map_cons, D.depL, D.dep, prD]
    omega
theorem eqv_pr (a b : Pr) : D.eqv (prD a) (prD b) = (a == b) := by
  simp only [prD, D.eqv, D.eqvL, Bool.and_true]
  rw [Bool.eq_iff_iff]
  simp [Prod.ext_iff]
theorem indexOf_prs (x : Pr) : ∀ l : List Pr, x ∈ l → D.indexOf (prD x) (l.map prD) = some (ixP l x)
  | [], h => by cases h
  | y :: l, h => by
    simp only [List.map_cons, D.indexOf, eqv_pr, ixP, List.findIdx_cons]
    cases e : y == x with
    | true => rfl
    | false =>
      have : x ∈ l := by
        rcases List.mem_cons.mp h with rfl | h
        · simp at e
        · exact h
      rw [indexOf_prs x l this]
      rfl
theorem index_prs {x : Pr} {l : List Pr} (h : x ∈ l) : D.indexM (l.map prD) (prD x) = .ok (.int (ixP l x : Nat)) := by
  obtain ⟨a, b⟩ := plain_prs l
  have c : (D.plain (prD x) && D.plainL (l.map prD) && decide (D.depL (l.map prD) ≤ 60) && decide (D.dep (prD x) ≤ 60)) = true := by
    rw [a, decide_eq_true (by omega)]
    rfl
  unfold D.indexM
  rw [if_pos c, indexOf_prs x l h]
theorem ixP_lt {x : Pr} {l : List Pr} (h : x ∈ l) : ixP l x < l.length := List.findIdx_lt_length_of_exists ⟨x, h, by simp⟩
theorem slA_wr (w : Wr) : D.slD w.d (some 2) none = .ok (prD w.tgt) := by
  simp only [Wr.d, D.slD, Wr.tgt, prD]
  rfl
theorem slB_wr (w : Wr) : D.slD w.d none (some 2) = .ok (prD w.src) := by
  simp only [Wr.d, D.slD, Wr.src, prD]
  rfl
theorem o_prs (p q : Pr) : D.opD .add (prD p) (prD q) = .ok (Wr.d ⟨p.1, p.2, q.1, q.2⟩) := rfl
theorem ints_map : ∀ l : List Int, D.intsD (l.map D.int) = some l
  | [] => rfl
  | x :: l => by simp only [List.map_cons, D.intsD, ints_map l, Option.map_some]
theorem maxL_ge : ∀ (l : List Int) (m : Int), m ≤ D.maxL m l ∧ ∀ x ∈ l, x ≤ D.maxL m l
  | [], m => ⟨Int.le_refl _, fun _ h => by cases h⟩
  | y :: l, m => by
    have h : m ≤ (if y > m then y else m) ∧ y ≤ (if y > m then y else m) := by split <;> omega
    obtain ⟨a, b⟩ := maxL_ge l (if y > m then y else m)
    simp only [D.maxL]
    refine ⟨by omega, fun x hx => ?_⟩
    rcases List.mem_cons.mp hx with rfl | hx
    · omega
    · exact b x hx
def maxI : List Int → Int
  | [] => 0
  | m :: l => D.maxL m l
theorem maxI_ge {l : List Int} {x : Int} (h : x ∈ l) : x ≤ maxI l := by
  cases l with
  | nil => cases h
  | cons m l =>
    rcases List.mem_cons.mp h with rfl | h
    · exact (maxL_ge l x).1
    · exact (maxL_ge l m).2 x h
/-! ### the law's grouping -/
def Sh.nums (s : Sh) : List Int := s.bs.map (·.n)
section
variable (s : Sh) (ids : List Int)
def Wr.into (w : Wr) : Bool := ids.contains w.b && !ids.contains w.a
def Wr.outof (w : Wr) : Bool := ids.contains w.a && !ids.contains w.b
def Wr.within (w : Wr) : Bool := ids.contains w.a && ids.contains w.b
def Sh.gNum : Int := maxI s.nums + 1
def Sh.gIns : List Pr := sortP ((s.ws.filter (Wr.into ids)).map Wr.tgt)
def Sh.gOuts : List Pr := sortP (D.nub (· == ·) ((s.ws.filter (Wr.outof ids)).map Wr.src))
def Sh.gPiece : Sh := ⟨s.bs.filter (fun b => ids.contains b.n), s.ws.filter (Wr.within ids)⟩
def Sh.gBox : Bx := ⟨s.gNum, "group", grp (s.gIns ids) (s.gOuts ids) (s.gPiece ids)⟩
def Sh.gWire (w : Wr) : List Wr :=
  if w.into ids then [⟨w.a, w.o, s.gNum, ixP (s.gIns ids) w.tgt⟩]
  else if w.outof ids then [⟨s.gNum, ixP (s.gOuts ids) w.src, w.b, w.p⟩]
  else if ids.contains w.a then [] else [w]
def Sh.grouped : Sh := ⟨s.bs.filter (fun b => !ids.contains b.n) ++ [s.gBox ids], sortW (s.ws.flatMap (s.gWire ids))⟩
end
end B

set_option maxHeartbeats 4000000
/-! Th7: the law's grouping, what it tells. -/
namespace B
open PySem
section
variable {T : Nat → Option Fn} {G : List D} {F k : Nat}
theorem sh0 (s : Sh) : D.ixD s.d (.int 0) = .ok (.tup (s.bs.map Bx.d)) := id rfl
theorem sh1 (s : Sh) : D.ixD s.d (.int 1) = .ok (.tup (s.ws.map Wr.d)) := id rfl
theorem memT (w : Int) (l : List Int) : D.mem (.int w) (.tup (l.map D.int)) = .ok (l.contains w) := (mem_ints w l).1
theorem memL (w : Int) (l : List Int) : D.mem (.int w) (.lst (l.map D.int)) = .ok (l.contains w) := (mem_ints w l).2
theorem wire_imm (w : Wr) : w.d.imm = true := rfl
theorem gWire_len (s : Sh) (ids : List Int) (w : Wr) : (s.gWire ids w).length ≤ 1 := by
  unfold Sh.gWire
  split
  · simp
  · split
    · simp
    · split <;> simp
theorem grouped_ok (h : T 22 = some F_law_grouped) (s : Sh) (ids : List Int) (hb : s.bs ≠ []) (hw : s.ws.length < 64) (hp : ∀ w ∈ s.ws, 0 ≤ w.a ∧ 0 ≤ w.o) (hbl : s.bs.length ≤ 1000) : run T G F (k + 1) 22 [s.d, .tup (ids.map .int)] = .ok (s.grouped ids).d := by
  rw [run_at h rfl]
  simp only [F_law_grouped, g0, gS, x_v, x_k, x_tup, x_lst, x_dct, x_op, x_cmp, x_chn, chn_t, chn_f, sel_t, sel_f, and_t, and_f, or_t, or_f, x_and, x_or, x_not, neg_int, x_neg, x_ite, x_ix, gD_int, gD_str, x_g, gin_str, gix_dct, gin_dct, x_gix, x_gin, slA_int, slB_int, slC_int, x_slA, x_slB, slCX_int, x_slC, rev_lst, x_rev, x_call, x_bi, x_mt, mtX_index, mtX_get, mt_index, mt_get, x_lc, lcB_f, lcG_at, lcC_s, lcR_f, lcR_t, lcR_m, z_nil, z_cons, c_nil, cnd_t, cnd_f, cnd_nil, c_cons, s_nil, s_cons, s_set, s_setI, s_setM, setM_nil, setM_dct, opt_s, tp_tup, s_tp, q_nil, q_cons, t_nm, t_tp, appX_l, s_app, extX_l, s_ext, popX_c, s_pop, s_put, s_ex, iteS_t, iteS_f, s_ite, for_f, s_for, wh_at, s_while, s_ret, s_retN, s_raise, s_brk, s_cont, s_pass, o_add, o_sub, o_addT, o_mul, sm_of, o_mod, o_div, th_bl, th_int, th_str, th_non, th_tup, th_lst, i_lst, i_tup, i_enL, i_enT, i_zL, i_zT, b_lenS, b_lenA, b_lenT, b_lenL, b_tupT, b_tupL, b_lstT, b_lstL, b_sorted, b_sset, b_dict, isi_s, b_isi, all_s, b_all, any_s, b_any, max_s, b_max, D.isTys, D.isTy, ixT, ixL, ixA, cm_int, cm_str, cm_bl, cm_nint, cm_nstr, cm_nbl, cm_lt, cm_le, cm_gt, cm_ge, cm_in, cm_nin, cm_isN, cm_isI, cm_isS, cm_isB, cm_isT, cm_isL, cm_snN, cm_snI, cm_snS, cm_snB, cm_snT, cm_snL, e_rt, e_nx, e_exc, w_nil, w_cons, List.map_cons, List.map_nil, List.length_cons, List.length_nil, List.cons_append, List.nil_append, List.append_nil, List.getElem?_cons_zero, List.getElem?_cons_succ, List.getElem?_nil, List.set_cons_zero, List.set_cons_succ, r_b, r_be, r_x, r_t, r_te, n_nx, n_rt, n_bk, n_ct, n_exc, u_nx, u_ct, u_bk, u_rt, u_exc, startE, List.replicate, Nat.reduceAdd, Nat.reduceSub, atI_0, atI_1, atI_2, atI_3, Bool.false_and, Bool.true_and, Bool.not_true, Bool.not_false, Bool.false_eq_true, if_false, if_true, reduceIte, Int.reduceLT, Int.reduceNeg, Nat.reduceLeDiff, Bool.or_true, Bool.true_or, Bool.true_beq, Bool.false_beq, Bool.and_true, Bool.and_false, Bool.or_false, Bool.false_or, SZ, sh0, sh1]
  rw [lc_map (g := fun b : Bx => .int b.n) (fun b _ => by simp only [g0, gS, x_v, x_k, x_tup, x_lst, x_dct, x_op, x_cmp, x_chn, chn_t, chn_f, sel_t, sel_f, and_t, and_f, or_t, or_f, x_and, x_or, x_not, neg_int, x_neg, x_ite, x_ix, gD_int, gD_str, x_g, gin_str, gix_dct, gin_dct, x_gix, x_gin, slA_int, slB_int, slC_int, x_slA, x_slB, slCX_int, x_slC, rev_lst, x_rev, x_call, x_bi, x_mt, mtX_index, mtX_get, mt_index, mt_get, x_lc, lcB_f, lcG_at, lcC_s, lcR_f, lcR_t, lcR_m, z_nil, z_cons, c_nil, cnd_t, cnd_f, cnd_nil, c_cons, s_nil, s_cons, s_set, s_setI, s_setM, setM_nil, setM_dct, opt_s, tp_tup, s_tp, q_nil, q_cons, t_nm, t_tp, appX_l, s_app, extX_l, s_ext, popX_c, s_pop, s_put, s_ex, iteS_t, iteS_f, s_ite, for_f, s_for, wh_at, s_while, s_ret, s_retN, s_raise, s_brk, s_cont, s_pass, o_add, o_sub, o_addT, o_mul, sm_of, o_mod, o_div, th_bl, th_int, th_str, th_non, th_tup, th_lst, i_lst, i_tup, i_enL, i_enT, i_zL, i_zT, b_lenS, b_lenA, b_lenT, b_lenL, b_tupT, b_tupL, b_lstT, b_lstL, b_sorted, b_sset, b_dict, isi_s, b_isi, all_s, b_all, any_s, b_any, max_s, b_max, D.isTys, D.isTy, ixT, ixL, ixA, cm_int, cm_str, cm_bl, cm_nint, cm_nstr, cm_nbl, cm_lt, cm_le, cm_gt, cm_ge, cm_in, cm_nin, cm_isN, cm_isI, cm_isS, cm_isB, cm_isT, cm_isL, cm_snN, cm_snI, cm_snS, cm_snB, cm_snT, cm_snL, e_rt, e_nx, e_exc, w_nil, w_cons, List.map_cons, List.map_nil, List.length_cons, List.length_nil, List.cons_append, List.nil_append, List.append_nil, List.getElem?_cons_zero, List.getElem?_cons_succ, List.getElem?_nil, List.set_cons_zero, List.set_cons_succ, r_b, r_be, r_x, r_t, r_te, n_nx, n_rt, n_bk, n_ct, n_exc, u_nx, u_ct, u_bk, u_rt, u_exc, startE, List.replicate, Nat.reduceAdd, Nat.reduceSub, atI_0, atI_1, atI_2, atI_3, Bool.false_and, Bool.true_and, Bool.not_true, Bool.not_false, Bool.false_eq_true, if_false, if_true, reduceIte, Int.reduceLT, Int.reduceNeg, Nat.reduceLeDiff, Bool.or_true, Bool.true_or, Bool.true_beq, Bool.false_beq, Bool.and_true, Bool.and_false, Bool.or_false, Bool.false_or, SZ, bx0])]
  have e1 : s.bs.map (fun b : Bx => D.int b.n) = s.nums.map D.int := by
    unfold Sh.nums
    rw [List.map_map]
    rfl
  obtain ⟨m, l, hm⟩ : ∃ m l, s.nums = m :: l := by
    unfold Sh.nums
    cases hq : s.bs with
    | nil => exact (hb hq).elim
    | cons b bs => exact ⟨b.n, bs.map (·.n), rfl⟩
  have e2 : D.maxL m l + 1 = s.gNum := by
    unfold Sh.gNum
    rw [hm]
    rfl
  have e3 : D.intsD (D.int m :: l.map D.int) = some (m :: l) := ints_map (m :: l)
  simp only [g0, gS, x_v, x_k, x_tup, x_lst, x_dct, x_op, x_cmp, x_chn, chn_t, chn_f, sel_t, sel_f, and_t, and_f, or_t, or_f, x_and, x_or, x_not, neg_int, x_neg, x_ite, x_ix, gD_int, gD_str, x_g, gin_str, gix_dct, gin_dct, x_gix, x_gin, slA_int, slB_int, slC_int, x_slA, x_slB, slCX_int, x_slC, rev_lst, x_rev, x_call, x_bi, x_mt, mtX_index, mtX_get, mt_index, mt_get, x_lc, lcB_f, lcG_at, lcC_s, lcR_f, lcR_t, lcR_m, z_nil, z_cons, c_nil, cnd_t, cnd_f, cnd_nil, c_cons, s_nil, s_cons, s_set, s_setI, s_setM, setM_nil, setM_dct, opt_s, tp_tup, s_tp, q_nil, q_cons, t_nm, t_tp, appX_l, s_app, extX_l, s_ext, popX_c, s_pop, s_put, s_ex, iteS_t, iteS_f, s_ite, for_f, s_for, wh_at, s_while, s_ret, s_retN, s_raise, s_brk, s_cont, s_pass, o_add, o_sub, o_addT, o_mul, sm_of, o_mod, o_div, th_bl, th_int, th_str, th_non, th_tup, th_lst, i_lst, i_tup, i_enL, i_enT, i_zL, i_zT, b_lenS, b_lenA, b_lenT, b_lenL, b_tupT, b_tupL, b_lstT, b_lstL, b_sorted, b_sset, b_dict, isi_s, b_isi, all_s, b_all, any_s, b_any, max_s, b_max, D.isTys, D.isTy, ixT, ixL, ixA, cm_int, cm_str, cm_bl, cm_nint, cm_nstr, cm_nbl, cm_lt, cm_le, cm_gt, cm_ge, cm_in, cm_nin, cm_isN, cm_isI, cm_isS, cm_isB, cm_isT, cm_isL, cm_snN, cm_snI, cm_snS, cm_snB, cm_snT, cm_snL, e_rt, e_nx, e_exc, w_nil, w_cons, List.map_cons, List.map_nil, List.length_cons, List.length_nil, List.cons_append, List.nil_append, List.append_nil, List.getElem?_cons_zero, List.getElem?_cons_succ, List.getElem?_nil, List.set_cons_zero, List.set_cons_succ, r_b, r_be, r_x, r_t, r_te, n_nx, n_rt, n_bk, n_ct, n_exc, u_nx, u_ct, u_bk, u_rt, u_exc, startE, List.replicate, Nat.reduceAdd, Nat.reduceSub, atI_0, atI_1, atI_2, atI_3, Bool.false_and, Bool.true_and, Bool.not_true, Bool.not_false, Bool.false_eq_true, if_false, if_true, reduceIte, Int.reduceLT, Int.reduceNeg, Nat.reduceLeDiff, Bool.or_true, Bool.true_or, Bool.true_beq, Bool.false_beq, Bool.and_true, Bool.and_false, Bool.or_false, Bool.false_or, SZ, e1, hm, e3, e2, sh0, sh1]
  rw [lc_filter (p := Wr.into ids) (g := fun w => prD w.tgt) (fun w _ => by rcases Bool.eq_false_or_eq_true (ids.contains w.b) with h1 | h1 <;> rcases Bool.eq_false_or_eq_true (ids.contains w.a) with h2 | h2 <;> simp only [g0, gS, x_v, x_k, x_tup, x_lst, x_dct, x_op, x_cmp, x_chn, chn_t, chn_f, sel_t, sel_f, and_t, and_f, or_t, or_f, x_and, x_or, x_not, neg_int, x_neg, x_ite, x_ix, gD_int, gD_str, x_g, gin_str, gix_dct, gin_dct, x_gix, x_gin, slA_int, slB_int, slC_int, x_slA, x_slB, slCX_int, x_slC, rev_lst, x_rev, x_call, x_bi, x_mt, mtX_index, mtX_get, mt_index, mt_get, x_lc, lcB_f, lcG_at, lcC_s, lcR_f, lcR_t, lcR_m, z_nil, z_cons, c_nil, cnd_t, cnd_f, cnd_nil, c_cons, s_nil, s_cons, s_set, s_setI, s_setM, setM_nil, setM_dct, opt_s, tp_tup, s_tp, q_nil, q_cons, t_nm, t_tp, appX_l, s_app, extX_l, s_ext, popX_c, s_pop, s_put, s_ex, iteS_t, iteS_f, s_ite, for_f, s_for, wh_at, s_while, s_ret, s_retN, s_raise, s_brk, s_cont, s_pass, o_add, o_sub, o_addT, o_mul, sm_of, o_mod, o_div, th_bl, th_int, th_str, th_non, th_tup, th_lst, i_lst, i_tup, i_enL, i_enT, i_zL, i_zT, b_lenS, b_lenA, b_lenT, b_lenL, b_tupT, b_tupL, b_lstT, b_lstL, b_sorted, b_sset, b_dict, isi_s, b_isi, all_s, b_all, any_s, b_any, max_s, b_max, D.isTys, D.isTy, ixT, ixL, ixA, cm_int, cm_str, cm_bl, cm_nint, cm_nstr, cm_nbl, cm_lt, cm_le, cm_gt, cm_ge, cm_in, cm_nin, cm_isN, cm_isI, cm_isS, cm_isB, cm_isT, cm_isL, cm_snN, cm_snI, cm_snS, cm_snB, cm_snT, cm_snL, e_rt, e_nx, e_exc, w_nil, w_cons, List.map_cons, List.map_nil, List.length_cons, List.length_nil, List.cons_append, List.nil_append, List.append_nil, List.getElem?_cons_zero, List.getElem?_cons_succ, List.getElem?_nil, List.set_cons_zero, List.set_cons_succ, r_b, r_be, r_x, r_t, r_te, n_nx, n_rt, n_bk, n_ct, n_exc, u_nx, u_ct, u_bk, u_rt, u_exc, startE, List.replicate, Nat.reduceAdd, Nat.reduceSub, atI_0, atI_1, atI_2, atI_3, Bool.false_and, Bool.true_and, Bool.not_true, Bool.not_false, Bool.false_eq_true, if_false, if_true, reduceIte, Int.reduceLT, Int.reduceNeg, Nat.reduceLeDiff, Bool.or_true, Bool.true_or, Bool.true_beq, Bool.false_beq, Bool.and_true, Bool.and_false, Bool.or_false, Bool.false_or, SZ, wr0, wr2, memT, h1, h2, Wr.into, slA_wr])]
  rw [show (s.ws.filter (Wr.into ids)).map (fun w => prD w.tgt) = ((s.ws.filter (Wr.into ids)).map Wr.tgt).map prD by rw [List.map_map]; rfl]
  have e4 : sortP ((s.ws.filter (Wr.into ids)).map Wr.tgt) = s.gIns ids := rfl
  simp only [g0, gS, x_v, x_k, x_tup, x_lst, x_dct, x_op, x_cmp, x_chn, chn_t, chn_f, sel_t, sel_f, and_t, and_f, or_t, or_f, x_and, x_or, x_not, neg_int, x_neg, x_ite, x_ix, gD_int, gD_str, x_g, gin_str, gix_dct, gin_dct, x_gix, x_gin, slA_int, slB_int, slC_int, x_slA, x_slB, slCX_int, x_slC, rev_lst, x_rev, x_call, x_bi, x_mt, mtX_index, mtX_get, mt_index, mt_get, x_lc, lcB_f, lcG_at, lcC_s, lcR_f, lcR_t, lcR_m, z_nil, z_cons, c_nil, cnd_t, cnd_f, cnd_nil, c_cons, s_nil, s_cons, s_set, s_setI, s_setM, setM_nil, setM_dct, opt_s, tp_tup, s_tp, q_nil, q_cons, t_nm, t_tp, appX_l, s_app, extX_l, s_ext, popX_c, s_pop, s_put, s_ex, iteS_t, iteS_f, s_ite, for_f, s_for, wh_at, s_while, s_ret, s_retN, s_raise, s_brk, s_cont, s_pass, o_add, o_sub, o_addT, o_mul, sm_of, o_mod, o_div, th_bl, th_int, th_str, th_non, th_tup, th_lst, i_lst, i_tup, i_enL, i_enT, i_zL, i_zT, b_lenS, b_lenA, b_lenT, b_lenL, b_tupT, b_tupL, b_lstT, b_lstL, b_sorted, b_sset, b_dict, isi_s, b_isi, all_s, b_all, any_s, b_any, max_s, b_max, D.isTys, D.isTy, ixT, ixL, ixA, cm_int, cm_str, cm_bl, cm_nint, cm_nstr, cm_nbl, cm_lt, cm_le, cm_gt, cm_ge, cm_in, cm_nin, cm_isN, cm_isI, cm_isS, cm_isB, cm_isT, cm_isL, cm_snN, cm_snI, cm_snS, cm_snB, cm_snT, cm_snL, e_rt, e_nx, e_exc, w_nil, w_cons, List.map_cons, List.map_nil, List.length_cons, List.length_nil, List.cons_append, List.nil_append, List.append_nil, List.getElem?_cons_zero, List.getElem?_cons_succ, List.getElem?_nil, List.set_cons_zero, List.set_cons_succ, r_b, r_be, r_x, r_t, r_te, n_nx, n_rt, n_bk, n_ct, n_exc, u_nx, u_ct, u_bk, u_rt, u_exc, startE, List.replicate, Nat.reduceAdd, Nat.reduceSub, atI_0, atI_1, atI_2, atI_3, Bool.false_and, Bool.true_and, Bool.not_true, Bool.not_false, Bool.false_eq_true, if_false, if_true, reduceIte, Int.reduceLT, Int.reduceNeg, Nat.reduceLeDiff, Bool.or_true, Bool.true_or, Bool.true_beq, Bool.false_beq, Bool.and_true, Bool.and_false, Bool.or_false, Bool.false_or, SZ, sort_prs, e4, sh1]
  rw [lc_filter (p := Wr.outof ids) (g := fun w => prD w.src) (fun w _ => by rcases Bool.eq_false_or_eq_true (ids.contains w.b) with h1 | h1 <;> rcases Bool.eq_false_or_eq_true (ids.contains w.a) with h2 | h2 <;> simp only [g0, gS, x_v, x_k, x_tup, x_lst, x_dct, x_op, x_cmp, x_chn, chn_t, chn_f, sel_t, sel_f, and_t, and_f, or_t, or_f, x_and, x_or, x_not, neg_int, x_neg, x_ite, x_ix, gD_int, gD_str, x_g, gin_str, gix_dct, gin_dct, x_gix, x_gin, slA_int, slB_int, slC_int, x_slA, x_slB, slCX_int, x_slC, rev_lst, x_rev, x_call, x_bi, x_mt, mtX_index, mtX_get, mt_index, mt_get, x_lc, lcB_f, lcG_at, lcC_s, lcR_f, lcR_t, lcR_m, z_nil, z_cons, c_nil, cnd_t, cnd_f, cnd_nil, c_cons, s_nil, s_cons, s_set, s_setI, s_setM, setM_nil, setM_dct, opt_s, tp_tup, s_tp, q_nil, q_cons, t_nm, t_tp, appX_l, s_app, extX_l, s_ext, popX_c, s_pop, s_put, s_ex, iteS_t, iteS_f, s_ite, for_f, s_for, wh_at, s_while, s_ret, s_retN, s_raise, s_brk, s_cont, s_pass, o_add, o_sub, o_addT, o_mul, sm_of, o_mod, o_div, th_bl, th_int, th_str, th_non, th_tup, th_lst, i_lst, i_tup, i_enL, i_enT, i_zL, i_zT, b_lenS, b_lenA, b_lenT, b_lenL, b_tupT, b_tupL, b_lstT, b_lstL, b_sorted, b_sset, b_dict, isi_s, b_isi, all_s, b_all, any_s, b_any, max_s, b_max, D.isTys, D.isTy, ixT, ixL, ixA, cm_int, cm_str, cm_bl, cm_nint, cm_nstr, cm_nbl, cm_lt, cm_le, cm_gt, cm_ge, cm_in, cm_nin, cm_isN, cm_isI, cm_isS, cm_isB, cm_isT, cm_isL, cm_snN, cm_snI, cm_snS, cm_snB, cm_snT, cm_snL, e_rt, e_nx, e_exc, w_nil, w_cons, List.map_cons, List.map_nil, List.length_cons, List.length_nil, List.cons_append, List.nil_append, List.append_nil, List.getElem?_cons_zero, List.getElem?_cons_succ, List.getElem?_nil, List.set_cons_zero, List.set_cons_succ, r_b, r_be, r_x, r_t, r_te, n_nx, n_rt, n_bk, n_ct, n_exc, u_nx, u_ct, u_bk, u_rt, u_exc, startE, List.replicate, Nat.reduceAdd, Nat.reduceSub, atI_0, atI_1, atI_2, atI_3, Bool.false_and, Bool.true_and, Bool.not_true, Bool.not_false, Bool.false_eq_true, if_false, if_true, reduceIte, Int.reduceLT, Int.reduceNeg, Nat.reduceLeDiff, Bool.or_true, Bool.true_or, Bool.true_beq, Bool.false_beq, Bool.and_true, Bool.and_false, Bool.or_false, Bool.false_or, SZ, wr0, wr2, memT, h1, h2, Wr.outof, slB_wr])]
  rw [show (s.ws.filter (Wr.outof ids)).map (fun w => prD w.src) = ((s.ws.filter (Wr.outof ids)).map Wr.src).map prD by rw [List.map_map]; rfl]
  have e5 : D.ssetL (((s.ws.filter (Wr.outof ids)).map Wr.src).map prD) = .ok (.lst ((s.gOuts ids).map prD)) := by
    refine sset_prs ?_ ?_
    · rw [List.length_map]
      exact Nat.lt_of_le_of_lt (List.length_filter_le _ _) hw
    · intro x hx
      obtain ⟨w, hw', rfl⟩ := List.mem_map.mp hx
      exact hp w ((List.mem_filter.mp hw').1)
  simp only [g0, gS, x_v, x_k, x_tup, x_lst, x_dct, x_op, x_cmp, x_chn, chn_t, chn_f, sel_t, sel_f, and_t, and_f, or_t, or_f, x_and, x_or, x_not, neg_int, x_neg, x_ite, x_ix, gD_int, gD_str, x_g, gin_str, gix_dct, gin_dct, x_gix, x_gin, slA_int, slB_int, slC_int, x_slA, x_slB, slCX_int, x_slC, rev_lst, x_rev, x_call, x_bi, x_mt, mtX_index, mtX_get, mt_index, mt_get, x_lc, lcB_f, lcG_at, lcC_s, lcR_f, lcR_t, lcR_m, z_nil, z_cons, c_nil, cnd_t, cnd_f, cnd_nil, c_cons, s_nil, s_cons, s_set, s_setI, s_setM, setM_nil, setM_dct, opt_s, tp_tup, s_tp, q_nil, q_cons, t_nm, t_tp, appX_l, s_app, extX_l, s_ext, popX_c, s_pop, s_put, s_ex, iteS_t, iteS_f, s_ite, for_f, s_for, wh_at, s_while, s_ret, s_retN, s_raise, s_brk, s_cont, s_pass, o_add, o_sub, o_addT, o_mul, sm_of, o_mod, o_div, th_bl, th_int, th_str, th_non, th_tup, th_lst, i_lst, i_tup, i_enL, i_enT, i_zL, i_zT, b_lenS, b_lenA, b_lenT, b_lenL, b_tupT, b_tupL, b_lstT, b_lstL, b_sorted, b_sset, b_dict, isi_s, b_isi, all_s, b_all, any_s, b_any, max_s, b_max, D.isTys, D.isTy, ixT, ixL, ixA, cm_int, cm_str, cm_bl, cm_nint, cm_nstr, cm_nbl, cm_lt, cm_le, cm_gt, cm_ge, cm_in, cm_nin, cm_isN, cm_isI, cm_isS, cm_isB, cm_isT, cm_isL, cm_snN, cm_snI, cm_snS, cm_snB, cm_snT, cm_snL, e_rt, e_nx, e_exc, w_nil, w_cons, List.map_cons, List.map_nil, List.length_cons, List.length_nil, List.cons_append, List.nil_append, List.append_nil, List.getElem?_cons_zero, List.getElem?_cons_succ, List.getElem?_nil, List.set_cons_zero, List.set_cons_succ, r_b, r_be, r_x, r_t, r_te, n_nx, n_rt, n_bk, n_ct, n_exc, u_nx, u_ct, u_bk, u_rt, u_exc, startE, List.replicate, Nat.reduceAdd, Nat.reduceSub, atI_0, atI_1, atI_2, atI_3, Bool.false_and, Bool.true_and, Bool.not_true, Bool.not_false, Bool.false_eq_true, if_false, if_true, reduceIte, Int.reduceLT, Int.reduceNeg, Nat.reduceLeDiff, Bool.or_true, Bool.true_or, Bool.true_beq, Bool.false_beq, Bool.and_true, Bool.and_false, Bool.or_false, Bool.false_or, SZ, e5, sh1]
  rw [lc_filter (p := Wr.within ids) (g := Wr.d) (fun w _ => by rcases Bool.eq_false_or_eq_true (ids.contains w.b) with h1 | h1 <;> rcases Bool.eq_false_or_eq_true (ids.contains w.a) with h2 | h2 <;> simp only [g0, gS, x_v, x_k, x_tup, x_lst, x_dct, x_op, x_cmp, x_chn, chn_t, chn_f, sel_t, sel_f, and_t, and_f, or_t, or_f, x_and, x_or, x_not, neg_int, x_neg, x_ite, x_ix, gD_int, gD_str, x_g, gin_str, gix_dct, gin_dct, x_gix, x_gin, slA_int, slB_int, slC_int, x_slA, x_slB, slCX_int, x_slC, rev_lst, x_rev, x_call, x_bi, x_mt, mtX_index, mtX_get, mt_index, mt_get, x_lc, lcB_f, lcG_at, lcC_s, lcR_f, lcR_t, lcR_m, z_nil, z_cons, c_nil, cnd_t, cnd_f, cnd_nil, c_cons, s_nil, s_cons, s_set, s_setI, s_setM, setM_nil, setM_dct, opt_s, tp_tup, s_tp, q_nil, q_cons, t_nm, t_tp, appX_l, s_app, extX_l, s_ext, popX_c, s_pop, s_put, s_ex, iteS_t, iteS_f, s_ite, for_f, s_for, wh_at, s_while, s_ret, s_retN, s_raise, s_brk, s_cont, s_pass, o_add, o_sub, o_addT, o_mul, sm_of, o_mod, o_div, th_bl, th_int, th_str, th_non, th_tup, th_lst, i_lst, i_tup, i_enL, i_enT, i_zL, i_zT, b_lenS, b_lenA, b_lenT, b_lenL, b_tupT, b_tupL, b_lstT, b_lstL, b_sorted, b_sset, b_dict, isi_s, b_isi, all_s, b_all, any_s, b_any, max_s, b_max, D.isTys, D.isTy, ixT, ixL, ixA, cm_int, cm_str, cm_bl, cm_nint, cm_nstr, cm_nbl, cm_lt, cm_le, cm_gt, cm_ge, cm_in, cm_nin, cm_isN, cm_isI, cm_isS, cm_isB, cm_isT, cm_isL, cm_snN, cm_snI, cm_snS, cm_snB, cm_snT, cm_snL, e_rt, e_nx, e_exc, w_nil, w_cons, List.map_cons, List.map_nil, List.length_cons, List.length_nil, List.cons_append, List.nil_append, List.append_nil, List.getElem?_cons_zero, List.getElem?_cons_succ, List.getElem?_nil, List.set_cons_zero, List.set_cons_succ, r_b, r_be, r_x, r_t, r_te, n_nx, n_rt, n_bk, n_ct, n_exc, u_nx, u_ct, u_bk, u_rt, u_exc, startE, List.replicate, Nat.reduceAdd, Nat.reduceSub, atI_0, atI_1, atI_2, atI_3, Bool.false_and, Bool.true_and, Bool.not_true, Bool.not_false, Bool.false_eq_true, if_false, if_true, reduceIte, Int.reduceLT, Int.reduceNeg, Nat.reduceLeDiff, Bool.or_true, Bool.true_or, Bool.true_beq, Bool.false_beq, Bool.and_true, Bool.and_false, Bool.or_false, Bool.false_or, SZ, wr0, wr2, memT, h1, h2, Wr.within])]
  simp only [g0, gS, x_v, x_k, x_tup, x_lst, x_dct, x_op, x_cmp, x_chn, chn_t, chn_f, sel_t, sel_f, and_t, and_f, or_t, or_f, x_and, x_or, x_not, neg_int, x_neg, x_ite, x_ix, gD_int, gD_str, x_g, gin_str, gix_dct, gin_dct, x_gix, x_gin, slA_int, slB_int, slC_int, x_slA, x_slB, slCX_int, x_slC, rev_lst, x_rev, x_call, x_bi, x_mt, mtX_index, mtX_get, mt_index, mt_get, x_lc, lcB_f, lcG_at, lcC_s, lcR_f, lcR_t, lcR_m, z_nil, z_cons, c_nil, cnd_t, cnd_f, cnd_nil, c_cons, s_nil, s_cons, s_set, s_setI, s_setM, setM_nil, setM_dct, opt_s, tp_tup, s_tp, q_nil, q_cons, t_nm, t_tp, appX_l, s_app, extX_l, s_ext, popX_c, s_pop, s_put, s_ex, iteS_t, iteS_f, s_ite, for_f, s_for, wh_at, s_while, s_ret, s_retN, s_raise, s_brk, s_cont, s_pass, o_add, o_sub, o_addT, o_mul, sm_of, o_mod, o_div, th_bl, th_int, th_str, th_non, th_tup, th_lst, i_lst, i_tup, i_enL, i_enT, i_zL, i_zT, b_lenS, b_lenA, b_lenT, b_lenL, b_tupT, b_tupL, b_lstT, b_lstL, b_sorted, b_sset, b_dict, isi_s, b_isi, all_s, b_all, any_s, b_any, max_s, b_max, D.isTys, D.isTy, ixT, ixL, ixA, cm_int, cm_str, cm_bl, cm_nint, cm_nstr, cm_nbl, cm_lt, cm_le, cm_gt, cm_ge, cm_in, cm_nin, cm_isN, cm_isI, cm_isS, cm_isB, cm_isT, cm_isL, cm_snN, cm_snI, cm_snS, cm_snB, cm_snT, cm_snL, e_rt, e_nx, e_exc, w_nil, w_cons, List.map_cons, List.map_nil, List.length_cons, List.length_nil, List.cons_append, List.nil_append, List.append_nil, List.getElem?_cons_zero, List.getElem?_cons_succ, List.getElem?_nil, List.set_cons_zero, List.set_cons_succ, r_b, r_be, r_x, r_t, r_te, n_nx, n_rt, n_bk, n_ct, n_exc, u_nx, u_ct, u_bk, u_rt, u_exc, startE, List.replicate, Nat.reduceAdd, Nat.reduceSub, atI_0, atI_1, atI_2, atI_3, Bool.false_and, Bool.true_and, Bool.not_true, Bool.not_false, Bool.false_eq_true, if_false, if_true, reduceIte, Int.reduceLT, Int.reduceNeg, Nat.reduceLeDiff, Bool.or_true, Bool.true_or, Bool.true_beq, Bool.false_beq, Bool.and_true, Bool.and_false, Bool.or_false, Bool.false_or, SZ, sh0]
  rw [lc_filter (p := fun b : Bx => ids.contains b.n) (g := Bx.d) (fun b _ => by rcases Bool.eq_false_or_eq_true (ids.contains b.n) with h1 | h1 <;> simp only [g0, gS, x_v, x_k, x_tup, x_lst, x_dct, x_op, x_cmp, x_chn, chn_t, chn_f, sel_t, sel_f, and_t, and_f, or_t, or_f, x_and, x_or, x_not, neg_int, x_neg, x_ite, x_ix, gD_int, gD_str, x_g, gin_str, gix_dct, gin_dct, x_gix, x_gin, slA_int, slB_int, slC_int, x_slA, x_slB, slCX_int, x_slC, rev_lst, x_rev, x_call, x_bi, x_mt, mtX_index, mtX_get, mt_index, mt_get, x_lc, lcB_f, lcG_at, lcC_s, lcR_f, lcR_t, lcR_m, z_nil, z_cons, c_nil, cnd_t, cnd_f, cnd_nil, c_cons, s_nil, s_cons, s_set, s_setI, s_setM, setM_nil, setM_dct, opt_s, tp_tup, s_tp, q_nil, q_cons, t_nm, t_tp, appX_l, s_app, extX_l, s_ext, popX_c, s_pop, s_put, s_ex, iteS_t, iteS_f, s_ite, for_f, s_for, wh_at, s_while, s_ret, s_retN, s_raise, s_brk, s_cont, s_pass, o_add, o_sub, o_addT, o_mul, sm_of, o_mod, o_div, th_bl, th_int, th_str, th_non, th_tup, th_lst, i_lst, i_tup, i_enL, i_enT, i_zL, i_zT, b_lenS, b_lenA, b_lenT, b_lenL, b_tupT, b_tupL, b_lstT, b_lstL, b_sorted, b_sset, b_dict, isi_s, b_isi, all_s, b_all, any_s, b_any, max_s, b_max, D.isTys, D.isTy, ixT, ixL, ixA, cm_int, cm_str, cm_bl, cm_nint, cm_nstr, cm_nbl, cm_lt, cm_le, cm_gt, cm_ge, cm_in, cm_nin, cm_isN, cm_isI, cm_isS, cm_isB, cm_isT, cm_isL, cm_snN, cm_snI, cm_snS, cm_snB, cm_snT, cm_snL, e_rt, e_nx, e_exc, w_nil, w_cons, List.map_cons, List.map_nil, List.length_cons, List.length_nil, List.cons_append, List.nil_append, List.append_nil, List.getElem?_cons_zero, List.getElem?_cons_succ, List.getElem?_nil, List.set_cons_zero, List.set_cons_succ, r_b, r_be, r_x, r_t, r_te, n_nx, n_rt, n_bk, n_ct, n_exc, u_nx, u_ct, u_bk, u_rt, u_exc, startE, List.replicate, Nat.reduceAdd, Nat.reduceSub, atI_0, atI_1, atI_2, atI_3, Bool.false_and, Bool.true_and, Bool.not_true, Bool.not_false, Bool.false_eq_true, if_false, if_true, reduceIte, Int.reduceLT, Int.reduceNeg, Nat.reduceLeDiff, Bool.or_true, Bool.true_or, Bool.true_beq, Bool.false_beq, Bool.and_true, Bool.and_false, Bool.or_false, Bool.false_or, SZ, bx0, memT, h1])]
  have e6 : D.tup [.tup ((s.bs.filter fun b => ids.contains b.n).map Bx.d), .tup ((s.ws.filter (Wr.within ids)).map Wr.d)] = (s.gPiece ids).d := rfl
  simp only [g0, gS, x_v, x_k, x_tup, x_lst, x_dct, x_op, x_cmp, x_chn, chn_t, chn_f, sel_t, sel_f, and_t, and_f, or_t, or_f, x_and, x_or, x_not, neg_int, x_neg, x_ite, x_ix, gD_int, gD_str, x_g, gin_str, gix_dct, gin_dct, x_gix, x_gin, slA_int, slB_int, slC_int, x_slA, x_slB, slCX_int, x_slC, rev_lst, x_rev, x_call, x_bi, x_mt, mtX_index, mtX_get, mt_index, mt_get, x_lc, lcB_f, lcG_at, lcC_s, lcR_f, lcR_t, lcR_m, z_nil, z_cons, c_nil, cnd_t, cnd_f, cnd_nil, c_cons, s_nil, s_cons, s_set, s_setI, s_setM, setM_nil, setM_dct, opt_s, tp_tup, s_tp, q_nil, q_cons, t_nm, t_tp, appX_l, s_app, extX_l, s_ext, popX_c, s_pop, s_put, s_ex, iteS_t, iteS_f, s_ite, for_f, s_for, wh_at, s_while, s_ret, s_retN, s_raise, s_brk, s_cont, s_pass, o_add, o_sub, o_addT, o_mul, sm_of, o_mod, o_div, th_bl, th_int, th_str, th_non, th_tup, th_lst, i_lst, i_tup, i_enL, i_enT, i_zL, i_zT, b_lenS, b_lenA, b_lenT, b_lenL, b_tupT, b_tupL, b_lstT, b_lstL, b_sorted, b_sset, b_dict, isi_s, b_isi, all_s, b_all, any_s, b_any, max_s, b_max, D.isTys, D.isTy, ixT, ixL, ixA, cm_int, cm_str, cm_bl, cm_nint, cm_nstr, cm_nbl, cm_lt, cm_le, cm_gt, cm_ge, cm_in, cm_nin, cm_isN, cm_isI, cm_isS, cm_isB, cm_isT, cm_isL, cm_snN, cm_snI, cm_snS, cm_snB, cm_snT, cm_snL, e_rt, e_nx, e_exc, w_nil, w_cons, List.map_cons, List.map_nil, List.length_cons, List.length_nil, List.cons_append, List.nil_append, List.append_nil, List.getElem?_cons_zero, List.getElem?_cons_succ, List.getElem?_nil, List.set_cons_zero, List.set_cons_succ, r_b, r_be, r_x, r_t, r_te, n_nx, n_rt, n_bk, n_ct, n_exc, u_nx, u_ct, u_bk, u_rt, u_exc, startE, List.replicate, Nat.reduceAdd, Nat.reduceSub, atI_0, atI_1, atI_2, atI_3, Bool.false_and, Bool.true_and, Bool.not_true, Bool.not_false, Bool.false_eq_true, if_false, if_true, reduceIte, Int.reduceLT, Int.reduceNeg, Nat.reduceLeDiff, Bool.or_true, Bool.true_or, Bool.true_beq, Bool.false_beq, Bool.and_true, Bool.and_false, Bool.or_false, Bool.false_or, SZ, e6, sh1]
  refine for_ix (K := fun o => endR (O.next o _) = _) (fun i env => ∃ x8, env = [some s.d, some (.tup (ids.map D.int)), some (.int s.gNum), some (.lst ((s.gIns ids).map prD)), some (.lst ((s.gOuts ids).map prD)), some (.lst ((s.ws.filter (Wr.within ids)).map Wr.d)), some (s.gPiece ids).d, some (.lst (((s.ws.take i).flatMap (s.gWire ids)).map Wr.d)), x8, none, none]) (fun i w hwi env ⟨x8, e⟩ => ?_) ⟨none, rfl⟩ fun env ⟨x8, e⟩ => ?_
  · subst e
    refine ⟨_, rfl, ?_⟩
    have hm : w ∈ s.ws := List.mem_of_getElem? hwi
    have hil : i < s.ws.length := (List.getElem?_eq_some_iff.mp hwi).1
    have hq : ((s.ws.take i).flatMap (s.gWire ids)).length < 64 := by
      have h1 := flat_len (s.gWire ids) 1 (s.ws.take i) fun c _ => gWire_len s ids c
      rw [List.length_take] at h1
      omega
    rw [take_succ hwi, List.flatMap_append, List.flatMap_cons, List.flatMap_nil, List.append_nil]
    generalize (s.ws.take i).flatMap (s.gWire ids) = pre at hq
    have hl : (pre.map Wr.d).length < SZ := by
      rw [List.length_map]
      simp only [SZ]
      omega
    have m1 : w.into ids = true → w.tgt ∈ s.gIns ids := fun hi => (sortP_perm _).mem_iff.mpr (List.mem_map.mpr ⟨w, List.mem_filter.mpr ⟨hm, hi⟩, rfl⟩)
    have m2 : w.outof ids = true → w.src ∈ s.gOuts ids := fun hi => (sortP_perm _).mem_iff.mpr (mem_nub.mpr (List.mem_map.mpr ⟨w, List.mem_filter.mpr ⟨hm, hi⟩, rfl⟩))
    have i1 : w.into ids = true → D.indexM ((s.gIns ids).map prD) (prD w.tgt) = .ok (.int (ixP (s.gIns ids) w.tgt : Nat)) := fun hi => index_prs (m1 hi)
    have i2 : w.outof ids = true → D.indexM ((s.gOuts ids).map prD) (prD w.src) = .ok (.int (ixP (s.gOuts ids) w.src : Nat)) := fun hi => index_prs (m2 hi)
    unfold Wr.into at i1
    unfold Wr.outof at i2
    unfold Sh.gWire Wr.into Wr.outof
    have oA : ∀ a b : Int, D.opD .add (prD w.src) (.tup [.int a, .int b]) = .ok (Wr.d ⟨w.a, w.o, a, b⟩) := fun a b => rfl
    have oB : ∀ a b : Int, D.opD .add (.tup [.int a, .int b]) (prD w.tgt) = .ok (Wr.d ⟨a, b, w.b, w.p⟩) := fun a b => rfl
    rcases Bool.eq_false_or_eq_true (ids.contains w.b) with h1 | h1 <;> rcases Bool.eq_false_or_eq_true (ids.contains w.a) with h2 | h2 <;> simp only [h1, h2, Bool.not_true, Bool.not_false, Bool.and_true, Bool.and_false, Bool.true_and, Bool.false_and, forall_const] at i1 i2
    · simp only [g0, gS, x_v, x_k, x_tup, x_lst, x_dct, x_op, x_cmp, x_chn, chn_t, chn_f, sel_t, sel_f, and_t, and_f, or_t, or_f, x_and, x_or, x_not, neg_int, x_neg, x_ite, x_ix, gD_int, gD_str, x_g, gin_str, gix_dct, gin_dct, x_gix, x_gin, slA_int, slB_int, slC_int, x_slA, x_slB, slCX_int, x_slC, rev_lst, x_rev, x_call, x_bi, x_mt, mtX_index, mtX_get, mt_index, mt_get, x_lc, lcB_f, lcG_at, lcC_s, lcR_f, lcR_t, lcR_m, z_nil, z_cons, c_nil, cnd_t, cnd_f, cnd_nil, c_cons, s_nil, s_cons, s_set, s_setI, s_setM, setM_nil, setM_dct, opt_s, tp_tup, s_tp, q_nil, q_cons, t_nm, t_tp, appX_l, s_app, extX_l, s_ext, popX_c, s_pop, s_put, s_ex, iteS_t, iteS_f, s_ite, for_f, s_for, wh_at, s_while, s_ret, s_retN, s_raise, s_brk, s_cont, s_pass, o_add, o_sub, o_addT, o_mul, sm_of, o_mod, o_div, th_bl, th_int, th_str, th_non, th_tup, th_lst, i_lst, i_tup, i_enL, i_enT, i_zL, i_zT, b_lenS, b_lenA, b_lenT, b_lenL, b_tupT, b_tupL, b_lstT, b_lstL, b_sorted, b_sset, b_dict, isi_s, b_isi, all_s, b_all, any_s, b_any, max_s, b_max, D.isTys, D.isTy, ixT, ixL, ixA, cm_int, cm_str, cm_bl, cm_nint, cm_nstr, cm_nbl, cm_lt, cm_le, cm_gt, cm_ge, cm_in, cm_nin, cm_isN, cm_isI, cm_isS, cm_isB, cm_isT, cm_isL, cm_snN, cm_snI, cm_snS, cm_snB, cm_snT, cm_snL, e_rt, e_nx, e_exc, w_nil, w_cons, List.map_cons, List.map_nil, List.length_cons, List.length_nil, List.cons_append, List.nil_append, List.append_nil, List.getElem?_cons_zero, List.getElem?_cons_succ, List.getElem?_nil, List.set_cons_zero, List.set_cons_succ, r_b, r_be, r_x, r_t, r_te, n_nx, n_rt, n_bk, n_ct, n_exc, u_nx, u_ct, u_bk, u_rt, u_exc, startE, List.replicate, Nat.reduceAdd, Nat.reduceSub, atI_0, atI_1, atI_2, atI_3, Bool.false_and, Bool.true_and, Bool.not_true, Bool.not_false, Bool.false_eq_true, if_false, if_true, reduceIte, Int.reduceLT, Int.reduceNeg, Nat.reduceLeDiff, Bool.or_true, Bool.true_or, Bool.true_beq, Bool.false_beq, Bool.and_true, Bool.and_false, Bool.or_false, Bool.false_or, SZ, wr0, wr2, memT, h1, h2]
      exact to_nx ⟨_, rfl⟩
    · simp only [g0, gS, x_v, x_k, x_tup, x_lst, x_dct, x_op, x_cmp, x_chn, chn_t, chn_f, sel_t, sel_f, and_t, and_f, or_t, or_f, x_and, x_or, x_not, neg_int, x_neg, x_ite, x_ix, gD_int, gD_str, x_g, gin_str, gix_dct, gin_dct, x_gix, x_gin, slA_int, slB_int, slC_int, x_slA, x_slB, slCX_int, x_slC, rev_lst, x_rev, x_call, x_bi, x_mt, mtX_index, mtX_get, mt_index, mt_get, x_lc, lcB_f, lcG_at, lcC_s, lcR_f, lcR_t, lcR_m, z_nil, z_cons, c_nil, cnd_t, cnd_f, cnd_nil, c_cons, s_nil, s_cons, s_set, s_setI, s_setM, setM_nil, setM_dct, opt_s, tp_tup, s_tp, q_nil, q_cons, t_nm, t_tp, appX_l, s_app, extX_l, s_ext, popX_c, s_pop, s_put, s_ex, iteS_t, iteS_f, s_ite, for_f, s_for, wh_at, s_while, s_ret, s_retN, s_raise, s_brk, s_cont, s_pass, o_add, o_sub, o_addT, o_mul, sm_of, o_mod, o_div, th_bl, th_int, th_str, th_non, th_tup, th_lst, i_lst, i_tup, i_enL, i_enT, i_zL, i_zT, b_lenS, b_lenA, b_lenT, b_lenL, b_tupT, b_tupL, b_lstT, b_lstL, b_sorted, b_sset, b_dict, isi_s, b_isi, all_s, b_all, any_s, b_any, max_s, b_max, D.isTys, D.isTy, ixT, ixL, ixA, cm_int, cm_str, cm_bl, cm_nint, cm_nstr, cm_nbl, cm_lt, cm_le, cm_gt, cm_ge, cm_in, cm_nin, cm_isN, cm_isI, cm_isS, cm_isB, cm_isT, cm_isL, cm_snN, cm_snI, cm_snS, cm_snB, cm_snT, cm_snL, e_rt, e_nx, e_exc, w_nil, w_cons, List.map_cons, List.map_nil, List.length_cons, List.length_nil, List.cons_append, List.nil_append, List.append_nil, List.getElem?_cons_zero, List.getElem?_cons_succ, List.getElem?_nil, List.set_cons_zero, List.set_cons_succ, r_b, r_be, r_x, r_t, r_te, n_nx, n_rt, n_bk, n_ct, n_exc, u_nx, u_ct, u_bk, u_rt, u_exc, startE, List.replicate, Nat.reduceAdd, Nat.reduceSub, atI_0, atI_1, atI_2, atI_3, Bool.false_and, Bool.true_and, Bool.not_true, Bool.not_false, Bool.false_eq_true, if_false, if_true, reduceIte, Int.reduceLT, Int.reduceNeg, Nat.reduceLeDiff, Bool.or_true, Bool.true_or, Bool.true_beq, Bool.false_beq, Bool.and_true, Bool.and_false, Bool.or_false, Bool.false_or, SZ, wr0, wr2, memT, h1, h2, slB_wr, slA_wr, i1, oA]
      rw [app_t (wire_imm _) hl]
      exact to_nx ⟨_, by rw [List.map_append]; rfl⟩
    · simp only [g0, gS, x_v, x_k, x_tup, x_lst, x_dct, x_op, x_cmp, x_chn, chn_t, chn_f, sel_t, sel_f, and_t, and_f, or_t, or_f, x_and, x_or, x_not, neg_int, x_neg, x_ite, x_ix, gD_int, gD_str, x_g, gin_str, gix_dct, gin_dct, x_gix, x_gin, slA_int, slB_int, slC_int, x_slA, x_slB, slCX_int, x_slC, rev_lst, x_rev, x_call, x_bi, x_mt, mtX_index, mtX_get, mt_index, mt_get, x_lc, lcB_f, lcG_at, lcC_s, lcR_f, lcR_t, lcR_m, z_nil, z_cons, c_nil, cnd_t, cnd_f, cnd_nil, c_cons, s_nil, s_cons, s_set, s_setI, s_setM, setM_nil, setM_dct, opt_s, tp_tup, s_tp, q_nil, q_cons, t_nm, t_tp, appX_l, s_app, extX_l, s_ext, popX_c, s_pop, s_put, s_ex, iteS_t, iteS_f, s_ite, for_f, s_for, wh_at, s_while, s_ret, s_retN, s_raise, s_brk, s_cont, s_pass, o_add, o_sub, o_addT, o_mul, sm_of, o_mod, o_div, th_bl, th_int, th_str, th_non, th_tup, th_lst, i_lst, i_tup, i_enL, i_enT, i_zL, i_zT, b_lenS, b_lenA, b_lenT, b_lenL, b_tupT, b_tupL, b_lstT, b_lstL, b_sorted, b_sset, b_dict, isi_s, b_isi, all_s, b_all, any_s, b_any, max_s, b_max, D.isTys, D.isTy, ixT, ixL, ixA, cm_int, cm_str, cm_bl, cm_nint, cm_nstr, cm_nbl, cm_lt, cm_le, cm_gt, cm_ge, cm_in, cm_nin, cm_isN, cm_isI, cm_isS, cm_isB, cm_isT, cm_isL, cm_snN, cm_snI, cm_snS, cm_snB, cm_snT, cm_snL, e_rt, e_nx, e_exc, w_nil, w_cons, List.map_cons, List.map_nil, List.length_cons, List.length_nil, List.cons_append, List.nil_append, List.append_nil, List.getElem?_cons_zero, List.getElem?_cons_succ, List.getElem?_nil, List.set_cons_zero, List.set_cons_succ, r_b, r_be, r_x, r_t, r_te, n_nx, n_rt, n_bk, n_ct, n_exc, u_nx, u_ct, u_bk, u_rt, u_exc, startE, List.replicate, Nat.reduceAdd, Nat.reduceSub, atI_0, atI_1, atI_2, atI_3, Bool.false_and, Bool.true_and, Bool.not_true, Bool.not_false, Bool.false_eq_true, if_false, if_true, reduceIte, Int.reduceLT, Int.reduceNeg, Nat.reduceLeDiff, Bool.or_true, Bool.true_or, Bool.true_beq, Bool.false_beq, Bool.and_true, Bool.and_false, Bool.or_false, Bool.false_or, SZ, wr0, wr2, memT, h1, h2, slB_wr, slA_wr, i2, oB]
      rw [app_t (wire_imm _) hl]
      exact to_nx ⟨_, by rw [List.map_append]; rfl⟩
    · simp only [g0, gS, x_v, x_k, x_tup, x_lst, x_dct, x_op, x_cmp, x_chn, chn_t, chn_f, sel_t, sel_f, and_t, and_f, or_t, or_f, x_and, x_or, x_not, neg_int, x_neg, x_ite, x_ix, gD_int, gD_str, x_g, gin_str, gix_dct, gin_dct, x_gix, x_gin, slA_int, slB_int, slC_int, x_slA, x_slB, slCX_int, x_slC, rev_lst, x_rev, x_call, x_bi, x_mt, mtX_index, mtX_get, mt_index, mt_get, x_lc, lcB_f, lcG_at, lcC_s, lcR_f, lcR_t, lcR_m, z_nil, z_cons, c_nil, cnd_t, cnd_f, cnd_nil, c_cons, s_nil, s_cons, s_set, s_setI, s_setM, setM_nil, setM_dct, opt_s, tp_tup, s_tp, q_nil, q_cons, t_nm, t_tp, appX_l, s_app, extX_l, s_ext, popX_c, s_pop, s_put, s_ex, iteS_t, iteS_f, s_ite, for_f, s_for, wh_at, s_while, s_ret, s_retN, s_raise, s_brk, s_cont, s_pass, o_add, o_sub, o_addT, o_mul, sm_of, o_mod, o_div, th_bl, th_int, th_str, th_non, th_tup, th_lst, i_lst, i_tup, i_enL, i_enT, i_zL, i_zT, b_lenS, b_lenA, b_lenT, b_lenL, b_tupT, b_tupL, b_lstT, b_lstL, b_sorted, b_sset, b_dict, isi_s, b_isi, all_s, b_all, any_s, b_any, max_s, b_max, D.isTys, D.isTy, ixT, ixL, ixA, cm_int, cm_str, cm_bl, cm_nint, cm_nstr, cm_nbl, cm_lt, cm_le, cm_gt, cm_ge, cm_in, cm_nin, cm_isN, cm_isI, cm_isS, cm_isB, cm_isT, cm_isL, cm_snN, cm_snI, cm_snS, cm_snB, cm_snT, cm_snL, e_rt, e_nx, e_exc, w_nil, w_cons, List.map_cons, List.map_nil, List.length_cons, List.length_nil, List.cons_append, List.nil_append, List.append_nil, List.getElem?_cons_zero, List.getElem?_cons_succ, List.getElem?_nil, List.set_cons_zero, List.set_cons_succ, r_b, r_be, r_x, r_t, r_te, n_nx, n_rt, n_bk, n_ct, n_exc, u_nx, u_ct, u_bk, u_rt, u_exc, startE, List.replicate, Nat.reduceAdd, Nat.reduceSub, atI_0, atI_1, atI_2, atI_3, Bool.false_and, Bool.true_and, Bool.not_true, Bool.not_false, Bool.false_eq_true, if_false, if_true, reduceIte, Int.reduceLT, Int.reduceNeg, Nat.reduceLeDiff, Bool.or_true, Bool.true_or, Bool.true_beq, Bool.false_beq, Bool.and_true, Bool.and_false, Bool.or_false, Bool.false_or, SZ, wr0, wr2, memT, h1, h2]
      rw [app_t (wire_imm _) hl]
      exact to_nx ⟨_, by rw [List.map_append]; rfl⟩
  · subst e
    rw [List.take_length]
    simp only [g0, gS, x_v, x_k, x_tup, x_lst, x_dct, x_op, x_cmp, x_chn, chn_t, chn_f, sel_t, sel_f, and_t, and_f, or_t, or_f, x_and, x_or, x_not, neg_int, x_neg, x_ite, x_ix, gD_int, gD_str, x_g, gin_str, gix_dct, gin_dct, x_gix, x_gin, slA_int, slB_int, slC_int, x_slA, x_slB, slCX_int, x_slC, rev_lst, x_rev, x_call, x_bi, x_mt, mtX_index, mtX_get, mt_index, mt_get, x_lc, lcB_f, lcG_at, lcC_s, lcR_f, lcR_t, lcR_m, z_nil, z_cons, c_nil, cnd_t, cnd_f, cnd_nil, c_cons, s_nil, s_cons, s_set, s_setI, s_setM, setM_nil, setM_dct, opt_s, tp_tup, s_tp, q_nil, q_cons, t_nm, t_tp, appX_l, s_app, extX_l, s_ext, popX_c, s_pop, s_put, s_ex, iteS_t, iteS_f, s_ite, for_f, s_for, wh_at, s_while, s_ret, s_retN, s_raise, s_brk, s_cont, s_pass, o_add, o_sub, o_addT, o_mul, sm_of, o_mod, o_div, th_bl, th_int, th_str, th_non, th_tup, th_lst, i_lst, i_tup, i_enL, i_enT, i_zL, i_zT, b_lenS, b_lenA, b_lenT, b_lenL, b_tupT, b_tupL, b_lstT, b_lstL, b_sorted, b_sset, b_dict, isi_s, b_isi, all_s, b_all, any_s, b_any, max_s, b_max, D.isTys, D.isTy, ixT, ixL, ixA, cm_int, cm_str, cm_bl, cm_nint, cm_nstr, cm_nbl, cm_lt, cm_le, cm_gt, cm_ge, cm_in, cm_nin, cm_isN, cm_isI, cm_isS, cm_isB, cm_isT, cm_isL, cm_snN, cm_snI, cm_snS, cm_snB, cm_snT, cm_snL, e_rt, e_nx, e_exc, w_nil, w_cons, List.map_cons, List.map_nil, List.length_cons, List.length_nil, List.cons_append, List.nil_append, List.append_nil, List.getElem?_cons_zero, List.getElem?_cons_succ, List.getElem?_nil, List.set_cons_zero, List.set_cons_succ, r_b, r_be, r_x, r_t, r_te, n_nx, n_rt, n_bk, n_ct, n_exc, u_nx, u_ct, u_bk, u_rt, u_exc, startE, List.replicate, Nat.reduceAdd, Nat.reduceSub, atI_0, atI_1, atI_2, atI_3, Bool.false_and, Bool.true_and, Bool.not_true, Bool.not_false, Bool.false_eq_true, if_false, if_true, reduceIte, Int.reduceLT, Int.reduceNeg, Nat.reduceLeDiff, Bool.or_true, Bool.true_or, Bool.true_beq, Bool.false_beq, Bool.and_true, Bool.and_false, Bool.or_false, Bool.false_or, SZ, sh0]
    rw [lc_filter (p := fun b : Bx => !ids.contains b.n) (g := Bx.d) (fun b _ => by rcases Bool.eq_false_or_eq_true (ids.contains b.n) with h1 | h1 <;> simp only [g0, gS, x_v, x_k, x_tup, x_lst, x_dct, x_op, x_cmp, x_chn, chn_t, chn_f, sel_t, sel_f, and_t, and_f, or_t, or_f, x_and, x_or, x_not, neg_int, x_neg, x_ite, x_ix, gD_int, gD_str, x_g, gin_str, gix_dct, gin_dct, x_gix, x_gin, slA_int, slB_int, slC_int, x_slA, x_slB, slCX_int, x_slC, rev_lst, x_rev, x_call, x_bi, x_mt, mtX_index, mtX_get, mt_index, mt_get, x_lc, lcB_f, lcG_at, lcC_s, lcR_f, lcR_t, lcR_m, z_nil, z_cons, c_nil, cnd_t, cnd_f, cnd_nil, c_cons, s_nil, s_cons, s_set, s_setI, s_setM, setM_nil, setM_dct, opt_s, tp_tup, s_tp, q_nil, q_cons, t_nm, t_tp, appX_l, s_app, extX_l, s_ext, popX_c, s_pop, s_put, s_ex, iteS_t, iteS_f, s_ite, for_f, s_for, wh_at, s_while, s_ret, s_retN, s_raise, s_brk, s_cont, s_pass, o_add, o_sub, o_addT, o_mul, sm_of, o_mod, o_div, th_bl, th_int, th_str, th_non, th_tup, th_lst, i_lst, i_tup, i_enL, i_enT, i_zL, i_zT, b_lenS, b_lenA, b_lenT, b_lenL, b_tupT, b_tupL, b_lstT, b_lstL, b_sorted, b_sset, b_dict, isi_s, b_isi, all_s, b_all, any_s, b_any, max_s, b_max, D.isTys, D.isTy, ixT, ixL, ixA, cm_int, cm_str, cm_bl, cm_nint, cm_nstr, cm_nbl, cm_lt, cm_le, cm_gt, cm_ge, cm_in, cm_nin, cm_isN, cm_isI, cm_isS, cm_isB, cm_isT, cm_isL, cm_snN, cm_snI, cm_snS, cm_snB, cm_snT, cm_snL, e_rt, e_nx, e_exc, w_nil, w_cons, List.map_cons, List.map_nil, List.length_cons, List.length_nil, List.cons_append, List.nil_append, List.append_nil, List.getElem?_cons_zero, List.getElem?_cons_succ, List.getElem?_nil, List.set_cons_zero, List.set_cons_succ, r_b, r_be, r_x, r_t, r_te, n_nx, n_rt, n_bk, n_ct, n_exc, u_nx, u_ct, u_bk, u_rt, u_exc, startE, List.replicate, Nat.reduceAdd, Nat.reduceSub, atI_0, atI_1, atI_2, atI_3, Bool.false_and, Bool.true_and, Bool.not_true, Bool.not_false, Bool.false_eq_true, if_false, if_true, reduceIte, Int.reduceLT, Int.reduceNeg, Nat.reduceLeDiff, Bool.or_true, Bool.true_or, Bool.true_beq, Bool.false_beq, Bool.and_true, Bool.and_false, Bool.or_false, Bool.false_or, SZ, bx0, memT, h1])]
    have e7 : D.tup [D.int s.gNum, D.str "group", D.tup [D.tup ((s.gIns ids).map prD), D.tup ((s.gOuts ids).map prD), (s.gPiece ids).d]] = (s.gBox ids).d := rfl
    simp only [g0, gS, x_v, x_k, x_tup, x_lst, x_dct, x_op, x_cmp, x_chn, chn_t, chn_f, sel_t, sel_f, and_t, and_f, or_t, or_f, x_and, x_or, x_not, neg_int, x_neg, x_ite, x_ix, gD_int, gD_str, x_g, gin_str, gix_dct, gin_dct, x_gix, x_gin, slA_int, slB_int, slC_int, x_slA, x_slB, slCX_int, x_slC, rev_lst, x_rev, x_call, x_bi, x_mt, mtX_index, mtX_get, mt_index, mt_get, x_lc, lcB_f, lcG_at, lcC_s, lcR_f, lcR_t, lcR_m, z_nil, z_cons, c_nil, cnd_t, cnd_f, cnd_nil, c_cons, s_nil, s_cons, s_set, s_setI, s_setM, setM_nil, setM_dct, opt_s, tp_tup, s_tp, q_nil, q_cons, t_nm, t_tp, appX_l, s_app, extX_l, s_ext, popX_c, s_pop, s_put, s_ex, iteS_t, iteS_f, s_ite, for_f, s_for, wh_at, s_while, s_ret, s_retN, s_raise, s_brk, s_cont, s_pass, o_add, o_sub, o_addT, o_mul, sm_of, o_mod, o_div, th_bl, th_int, th_str, th_non, th_tup, th_lst, i_lst, i_tup, i_enL, i_enT, i_zL, i_zT, b_lenS, b_lenA, b_lenT, b_lenL, b_tupT, b_tupL, b_lstT, b_lstL, b_sorted, b_sset, b_dict, isi_s, b_isi, all_s, b_all, any_s, b_any, max_s, b_max, D.isTys, D.isTy, ixT, ixL, ixA, cm_int, cm_str, cm_bl, cm_nint, cm_nstr, cm_nbl, cm_lt, cm_le, cm_gt, cm_ge, cm_in, cm_nin, cm_isN, cm_isI, cm_isS, cm_isB, cm_isT, cm_isL, cm_snN, cm_snI, cm_snS, cm_snB, cm_snT, cm_snL, e_rt, e_nx, e_exc, w_nil, w_cons, List.map_cons, List.map_nil, List.length_cons, List.length_nil, List.cons_append, List.nil_append, List.append_nil, List.getElem?_cons_zero, List.getElem?_cons_succ, List.getElem?_nil, List.set_cons_zero, List.set_cons_succ, r_b, r_be, r_x, r_t, r_te, n_nx, n_rt, n_bk, n_ct, n_exc, u_nx, u_ct, u_bk, u_rt, u_exc, startE, List.replicate, Nat.reduceAdd, Nat.reduceSub, atI_0, atI_1, atI_2, atI_3, Bool.false_and, Bool.true_and, Bool.not_true, Bool.not_false, Bool.false_eq_true, if_false, if_true, reduceIte, Int.reduceLT, Int.reduceNeg, Nat.reduceLeDiff, Bool.or_true, Bool.true_or, Bool.true_beq, Bool.false_beq, Bool.and_true, Bool.and_false, Bool.or_false, Bool.false_or, SZ, e7, sort_wires]
    have e8 : ((s.bs.filter fun b => !ids.contains b.n).map Bx.d).length + 1 ≤ SZ := by
      rw [List.length_map]
      have := List.length_filter_le (fun b : Bx => !ids.contains b.n) s.bs
      simp only [SZ]
      omega
    rw [o_addT e8]
    simp only [g0, gS, x_v, x_k, x_tup, x_lst, x_dct, x_op, x_cmp, x_chn, chn_t, chn_f, sel_t, sel_f, and_t, and_f, or_t, or_f, x_and, x_or, x_not, neg_int, x_neg, x_ite, x_ix, gD_int, gD_str, x_g, gin_str, gix_dct, gin_dct, x_gix, x_gin, slA_int, slB_int, slC_int, x_slA, x_slB, slCX_int, x_slC, rev_lst, x_rev, x_call, x_bi, x_mt, mtX_index, mtX_get, mt_index, mt_get, x_lc, lcB_f, lcG_at, lcC_s, lcR_f, lcR_t, lcR_m, z_nil, z_cons, c_nil, cnd_t, cnd_f, cnd_nil, c_cons, s_nil, s_cons, s_set, s_setI, s_setM, setM_nil, setM_dct, opt_s, tp_tup, s_tp, q_nil, q_cons, t_nm, t_tp, appX_l, s_app, extX_l, s_ext, popX_c, s_pop, s_put, s_ex, iteS_t, iteS_f, s_ite, for_f, s_for, wh_at, s_while, s_ret, s_retN, s_raise, s_brk, s_cont, s_pass, o_add, o_sub, o_addT, o_mul, sm_of, o_mod, o_div, th_bl, th_int, th_str, th_non, th_tup, th_lst, i_lst, i_tup, i_enL, i_enT, i_zL, i_zT, b_lenS, b_lenA, b_lenT, b_lenL, b_tupT, b_tupL, b_lstT, b_lstL, b_sorted, b_sset, b_dict, isi_s, b_isi, all_s, b_all, any_s, b_any, max_s, b_max, D.isTys, D.isTy, ixT, ixL, ixA, cm_int, cm_str, cm_bl, cm_nint, cm_nstr, cm_nbl, cm_lt, cm_le, cm_gt, cm_ge, cm_in, cm_nin, cm_isN, cm_isI, cm_isS, cm_isB, cm_isT, cm_isL, cm_snN, cm_snI, cm_snS, cm_snB, cm_snT, cm_snL, e_rt, e_nx, e_exc, w_nil, w_cons, List.map_cons, List.map_nil, List.length_cons, List.length_nil, List.cons_append, List.nil_append, List.append_nil, List.getElem?_cons_zero, List.getElem?_cons_succ, List.getElem?_nil, List.set_cons_zero, List.set_cons_succ, r_b, r_be, r_x, r_t, r_te, n_nx, n_rt, n_bk, n_ct, n_exc, u_nx, u_ct, u_bk, u_rt, u_exc, startE, List.replicate, Nat.reduceAdd, Nat.reduceSub, atI_0, atI_1, atI_2, atI_3, Bool.false_and, Bool.true_and, Bool.not_true, Bool.not_false, Bool.false_eq_true, if_false, if_true, reduceIte, Int.reduceLT, Int.reduceNeg, Nat.reduceLeDiff, Bool.or_true, Bool.true_or, Bool.true_beq, Bool.false_beq, Bool.and_true, Bool.and_false, Bool.or_false, Bool.false_or, SZ]
    unfold Sh.grouped Sh.d
    simp only [List.map_append, List.map_cons, List.map_nil]
end
end B

set_option maxHeartbeats 4000000
/-! Th8: drawn sheets with groups are sheets. -/
namespace B
open PySem
/-- a sheet whose boxes have these kinds, groups at most k deep; wires at ports that are there -/
structure WS (k : Nat) (s : Sh) (kd : Int → Kn) : Prop where
  nd : s.nums.Nodup
  wb : ∀ b ∈ s.bs, WB k b (kd b.n)
  src : ∀ w ∈ s.ws, (∃ c ∈ s.bs, c.n = w.a) ∧ 0 ≤ w.o ∧ w.o < (kd w.a).2.length
  tgt : ∀ w ∈ s.ws, (∃ c ∈ s.bs, c.n = w.b) ∧ 0 ≤ w.p ∧ w.p < (kd w.b).1.length
  pos : ∀ b ∈ s.bs, 0 < b.n
  lw : s.ws.length < 64
  lb : s.bs.length ≤ 100 + k
theorem WS.mono {k : Nat} {s : Sh} {kd : Int → Kn} (h : WS k s kd) : WS (k + 1) s kd := ⟨h.nd, fun b hb => (h.wb b hb).mono, h.src, h.tgt, h.pos, h.lw, by have := h.lb; omega⟩
def Sh.gKd (s : Sh) (ids : List Int) (kd : Int → Kn) (m : Int) : Kn :=
  if m = s.gNum then ((s.gIns ids).map fun x => pick (kd x.1).1 x.2, (s.gOuts ids).map fun x => pick (kd x.1).2 x.2) else kd m
theorem num_lt {s : Sh} {b : Bx} (h : b ∈ s.bs) : b.n < s.gNum := by
  have hm : b.n ∈ s.nums := List.mem_map.mpr ⟨b, h, rfl⟩
  have := maxI_ge hm
  unfold Sh.gNum
  omega
theorem gKd_old {s : Sh} {ids : List Int} {kd : Int → Kn} {m : Int} (h : ∃ c ∈ s.bs, c.n = m) : s.gKd ids kd m = kd m := by
  obtain ⟨c, hc, rfl⟩ := h
  have := num_lt hc
  unfold Sh.gKd
  rw [if_neg (by omega)]
theorem gKd_new (s : Sh) (ids : List Int) (kd : Int → Kn) : s.gKd ids kd s.gNum = ((s.gIns ids).map fun x => pick (kd x.1).1 x.2, (s.gOuts ids).map fun x => pick (kd x.1).2 x.2) := if_pos rfl
theorem mem_gIns {s : Sh} {ids : List Int} {x : Pr} : x ∈ s.gIns ids ↔ ∃ w ∈ s.ws, w.into ids = true ∧ w.tgt = x := by
  unfold Sh.gIns
  rw [(sortP_perm _).mem_iff, List.mem_map]
  simp only [List.mem_filter, and_assoc]
theorem mem_gOuts {s : Sh} {ids : List Int} {x : Pr} : x ∈ s.gOuts ids ↔ ∃ w ∈ s.ws, w.outof ids = true ∧ w.src = x := by
  unfold Sh.gOuts
  rw [(sortP_perm _).mem_iff, mem_nub, List.mem_map]
  simp only [List.mem_filter, and_assoc]
theorem into_iff {w : Wr} {ids : List Int} : w.into ids = true ↔ w.b ∈ ids ∧ w.a ∉ ids := by simp [Wr.into]
theorem outof_iff {w : Wr} {ids : List Int} : w.outof ids = true ↔ w.a ∈ ids ∧ w.b ∉ ids := by simp [Wr.outof]
theorem mem_gWire {s : Sh} {ids : List Int} {w v : Wr} (h : v ∈ s.gWire ids w) :
    (w.into ids = true ∧ v = ⟨w.a, w.o, s.gNum, ixP (s.gIns ids) w.tgt⟩) ∨ (w.outof ids = true ∧ v = ⟨s.gNum, ixP (s.gOuts ids) w.src, w.b, w.p⟩) ∨ (w.a ∉ ids ∧ w.b ∉ ids ∧ v = w) := by
  unfold Sh.gWire at h
  split at h
  · rename_i h1
    exact .inl ⟨h1, List.mem_singleton.mp h⟩
  · split at h
    · rename_i h1
      exact .inr (.inl ⟨h1, List.mem_singleton.mp h⟩)
    · split at h
      · cases h
      · rename_i h1 h2 h3
        have ha : w.a ∉ ids := by simpa using h3
        have hb : w.b ∉ ids := fun hb => h1 (into_iff.mpr ⟨hb, ha⟩)
        exact .inr (.inr ⟨ha, hb, List.mem_singleton.mp h⟩)
theorem left_box {s : Sh} {ids : List Int} {m : Int} (h : ∃ c ∈ s.bs, c.n = m) (hm : m ∉ ids) : ∃ c ∈ (s.grouped ids).bs, c.n = m := by
  obtain ⟨c, hc, rfl⟩ := h
  exact ⟨c, List.mem_append_left _ (List.mem_filter.mpr ⟨hc, by simpa using hm⟩), rfl⟩
theorem new_box (s : Sh) (ids : List Int) : ∃ c ∈ (s.grouped ids).bs, c.n = s.gNum := ⟨s.gBox ids, List.mem_append_right _ (List.mem_singleton.mpr rfl), rfl⟩
theorem grouped_WS {k : Nat} {s : Sh} {kd : Int → Kn} (h : WS k s kd) (ids : List Int) : WS (k + 1) (s.grouped ids) (s.gKd ids kd) := by
  have hin : ∀ {m : Int}, (∃ c ∈ s.bs, c.n = m) → m ∈ ids → ∃ c ∈ (s.gPiece ids).bs, c.n = m := by
    rintro m ⟨c, hc, rfl⟩ hm
    exact ⟨c, List.mem_filter.mpr ⟨hc, by simpa using hm⟩, rfl⟩
  have hws : ∀ v ∈ (s.grouped ids).ws, ∃ w ∈ s.ws, v ∈ s.gWire ids w := by
    intro v hv
    exact List.mem_flatMap.mp ((sortW_perm _).mem_iff.mp hv)
  constructor
  · unfold Sh.nums Sh.grouped
    rw [List.map_append, List.nodup_append]
    refine ⟨List.Sublist.nodup (List.Sublist.map _ List.filter_sublist) h.nd, by simp, ?_⟩
    intro a ha b hb
    obtain ⟨c, hc, rfl⟩ := List.mem_map.mp ha
    have e : b = s.gNum := by simpa [Sh.gBox] using hb
    have := num_lt (List.mem_filter.mp hc).1
    omega
  · intro b hb
    rcases List.mem_append.mp hb with hb | hb
    · have hb := (List.mem_filter.mp hb).1
      rw [gKd_old ⟨b, hb, rfl⟩]
      exact (h.wb b hb).mono
    · obtain rfl := List.mem_singleton.mp hb
      refine .inr ⟨rfl, s.gIns ids, s.gOuts ids, s.gPiece ids, kd, rfl, ?_, ?_, ?_, ?_, gKd_new s ids kd⟩
      · exact List.Sublist.nodup (List.Sublist.map _ List.filter_sublist) h.nd
      · exact fun c hc => h.wb c (List.mem_filter.mp hc).1
      · intro x hx
        obtain ⟨w, hw, h1, rfl⟩ := mem_gIns.mp hx
        obtain ⟨t1, t2⟩ := h.tgt w hw
        exact ⟨hin t1 (into_iff.mp h1).1, t2⟩
      · intro x hx
        obtain ⟨w, hw, h1, rfl⟩ := mem_gOuts.mp hx
        obtain ⟨t1, t2⟩ := h.src w hw
        exact ⟨hin t1 (outof_iff.mp h1).1, t2⟩
  · intro v hv
    obtain ⟨w, hw, hvw⟩ := hws v hv
    obtain ⟨t1, t2, t3⟩ := h.src w hw
    rcases mem_gWire hvw with ⟨h1, rfl⟩ | ⟨h1, rfl⟩ | ⟨h1, h2, rfl⟩
    · exact ⟨left_box t1 (into_iff.mp h1).2, t2, by rw [gKd_old t1]; exact t3⟩
    · refine ⟨new_box s ids, Int.natCast_nonneg _, ?_⟩
      rw [gKd_new]
      have := ixP_lt (mem_gOuts.mpr ⟨w, hw, h1, rfl⟩)
      simp only [List.length_map]
      omega
    · exact ⟨left_box t1 h1, t2, by rw [gKd_old t1]; exact t3⟩
  · intro v hv
    obtain ⟨w, hw, hvw⟩ := hws v hv
    obtain ⟨t1, t2, t3⟩ := h.tgt w hw
    rcases mem_gWire hvw with ⟨h1, rfl⟩ | ⟨h1, rfl⟩ | ⟨h1, h2, rfl⟩
    · refine ⟨new_box s ids, Int.natCast_nonneg _, ?_⟩
      rw [gKd_new]
      have := ixP_lt (mem_gIns.mpr ⟨w, hw, h1, rfl⟩)
      simp only [List.length_map]
      omega
    · exact ⟨left_box t1 (outof_iff.mp h1).2, t2, by rw [gKd_old t1]; exact t3⟩
    · exact ⟨left_box t1 h2, t2, by rw [gKd_old t1]; exact t3⟩
  · intro b hb
    rcases List.mem_append.mp hb with hb | hb
    · exact h.pos b (List.mem_filter.mp hb).1
    · obtain rfl := List.mem_singleton.mp hb
      show 0 < s.gNum
      cases hq : s.bs with
      | nil =>
        unfold Sh.gNum Sh.nums
        rw [hq]
        decide
      | cons c l =>
        have hc : c ∈ s.bs := by rw [hq]; exact List.mem_cons_self ..
        have := h.pos c hc
        have := num_lt hc
        omega
  · have h1 := flat_len (s.gWire ids) 1 s.ws fun c _ => gWire_len s ids c
    have := h.lw
    show (sortW _).length < 64
    rw [(sortW_perm _).length_eq]
    omega
  · have h1 := List.length_filter_le (fun b : Bx => !ids.contains b.n) s.bs
    have := h.lb
    simp only [Sh.grouped, List.length_append, List.length_cons, List.length_nil]
    omega
/-! ### drawn sheets -/
def kdOf (bs : List Bx) (n : Int) : Kn := match bs.find? fun b => b.n == n with
  | some b => kn b
  | none => ([], [])
theorem find_nd : ∀ {bs : List Bx} {b : Bx}, (bs.map (·.n)).Nodup → b ∈ bs → (bs.find? fun c => c.n == b.n) = some b
  | c :: bs, b, hn, hb => by
    rw [List.map_cons, List.nodup_cons] at hn
    rw [List.find?_cons]
    rcases List.mem_cons.mp hb with rfl | hb
    · simp
    · have : (c.n == b.n) = false := by
        rw [beq_eq_false_iff_ne]
        intro e
        exact hn.1 (List.mem_map.mpr ⟨b, hb, e.symm⟩)
      rw [this]
      exact find_nd hn.2 hb
theorem kdOf_mem {bs : List Bx} {b : Bx} (hn : (bs.map (·.n)).Nodup) (hb : b ∈ bs) : kdOf bs b.n = kn b := by
  unfold kdOf
  rw [find_nd hn hb]
theorem bxs_up (x : Int) (n : Nat) : ((bxs x n).map (·.n)).Pairwise (· < ·) := by
  unfold bxs
  rw [List.map_map, List.pairwise_map]
  refine List.Pairwise.imp ?_ List.pairwise_lt_range
  intro i j hij
  exact numAt_lt x (by omega)
def drawn (x most : Int) : Sh := ⟨bxs x (mixI x 9949 (most + 1)).toNat, sortW (wiresAll x (bxs x (mixI x 9949 (most + 1)).toNat))⟩
theorem mem_wiresAll {x : Int} {bs : List Bx} {w : Wr} (h : w ∈ wiresAll x bs) : ∃ b ∈ bs, ∃ c ∈ bs, ∃ (p : Nat) (kind : Str), (kn b).1[p]? = some kind ∧ (kn c).2 = [kind] ∧ okWire x b c.n = true ∧ w = ⟨c.n, 0, b.n, p⟩ := by
  obtain ⟨b, hb, h⟩ := List.mem_flatMap.mp h
  obtain ⟨⟨kind, p⟩, hq, h⟩ := List.mem_flatMap.mp h
  have hq := List.mem_zipIdx' hq
  unfold wireAt at h
  dsimp only at h hq
  split at h
  · rename_i hc
    simp only [Bool.and_eq_true, Bool.not_eq_true', decide_eq_true_eq] at hc
    obtain ⟨hc1, hc2⟩ := hc
    have hne : 0 < (someOf x bs b kind).length := by
      cases hs : someOf x bs b kind with
      | nil => rw [hs] at hc1; cases hc1
      | cons _ _ => simp
    obtain ⟨z0, z1⟩ := mixI_lt (x := seedOf x b p) (p := 9923) (m := ((someOf x bs b kind).length : Nat)) (by omega)
    have hmem : (someOf x bs b kind).getD (mixI (seedOf x b p) 9923 ((someOf x bs b kind).length : Nat)).toNat 0 ∈ someOf x bs b kind := by
      rw [List.getD_eq_getElem?_getD, List.getElem?_eq_getElem (by omega)]
      exact List.getElem_mem _
    obtain ⟨m1, m2⟩ := List.mem_filter.mp hmem
    obtain ⟨c, m3, m4⟩ := List.mem_map.mp m1
    obtain ⟨m5, m6⟩ := List.mem_filter.mp m3
    refine ⟨b, hb, c, m5, p, kind, ?_, by simpa using m6, ?_, ?_⟩
    · exact List.getElem?_eq_some_iff.mpr ⟨hq.1, hq.2.symm⟩
    · rw [m4]; exact m2
    · rw [m4]; exact List.mem_singleton.mp h
  · cases h
theorem drawn_WS {x most : Int} (h0 : 0 ≤ most) (h1 : most ≤ 20) : WS 0 (drawn x most) (kdOf (drawn x most).bs) := by
  obtain ⟨r0, r1⟩ := mixI_lt (x := x) (p := 9949) (m := most + 1) (by omega)
  unfold drawn
  generalize hn : (mixI x 9949 (most + 1)).toNat = n
  have hn20 : n ≤ 20 := by omega
  have nd : ((bxs x n).map (·.n)).Nodup := (bxs_up x n).imp fun h => by omega
  have hlen : (bxs x n).length = n := by simp only [bxs, List.length_map, List.length_range]
  have hw : ∀ w ∈ sortW (wiresAll x (bxs x n)), w ∈ wiresAll x (bxs x n) := fun w hw => (sortW_perm _).mem_iff.mp hw
  constructor
  · exact nd
  · intro b hb
    rw [kdOf_mem nd hb]
    exact WB.row (bxs_row b hb).1
  · intro w hw'
    obtain ⟨b, hb, c, hc, p, kind, e1, e2, e3, rfl⟩ := mem_wiresAll (hw w hw')
    refine ⟨⟨c, hc, rfl⟩, Int.le_refl _, ?_⟩
    rw [show (kdOf (bxs x n) c.n) = kn c from kdOf_mem nd hc, e2]
    show (0 : Int) < 1
    decide
  · intro w hw'
    obtain ⟨b, hb, c, hc, p, kind, e1, e2, e3, rfl⟩ := mem_wiresAll (hw w hw')
    refine ⟨⟨b, hb, rfl⟩, Int.natCast_nonneg _, ?_⟩
    rw [show (kdOf (bxs x n) b.n) = kn b from kdOf_mem nd hb]
    have := (List.getElem?_eq_some_iff.mp e1).1
    dsimp only
    omega
  · intro b hb
    obtain ⟨j, _, rfl⟩ := List.mem_map.mp hb
    have := numAt_lt x (i := 0) (j := j + 1) (by omega)
    exact this
  · show (sortW _).length < 64
    rw [(sortW_perm _).length_eq]
    have := flat_len (wiresOf x (bxs x n)) 3 (bxs x n) fun c hc => wiresOf_len (bxs_row c hc).1
    unfold wiresAll
    omega
  · show (bxs x n).length ≤ _
    omega
end B

set_option maxHeartbeats 4000000
/-! Th9: the laws' ids, mixed sheets. -/
namespace B
open PySem
def idsOf (x : Int) (s : Sh) : List Int := s.nums.filter fun n => mixI (x + 7 * n) 9907 2 == 0
def turnS (x : Int) (s : Sh) (t : Nat) : Sh := if (idsOf (x + 17 * (t : Int)) s).isEmpty then s else s.grouped (idsOf (x + 17 * (t : Int)) s)
def mixedS (x most : Int) : Nat → Sh
  | 0 => drawn x most
  | t + 1 => turnS x (mixedS x most t) t
theorem mixedS_succ (x most : Int) (t : Nat) : mixedS x most (t + 1) = turnS x (mixedS x most t) t := rfl
def mixed (x most : Int) : Sh := mixedS x most (mixI x 9901 3).toNat
theorem mixedS_WS {x most : Int} (h0 : 0 ≤ most) (h1 : most ≤ 20) : ∀ t : Nat, ∃ kd, WS t (mixedS x most t) kd
  | 0 => ⟨_, drawn_WS h0 h1⟩
  | t + 1 => by
    obtain ⟨kd, h⟩ := mixedS_WS h0 h1 t
    unfold mixedS turnS
    split
    · exact ⟨kd, h.mono⟩
    · exact ⟨_, grouped_WS h _⟩
theorem mixed_WS {x most : Int} (h0 : 0 ≤ most) (h1 : most ≤ 20) : ∃ kd, WS 2 (mixed x most) kd := by
  obtain ⟨r0, r1⟩ := mixI_lt (x := x) (p := 9901) (m := 3) (by decide)
  unfold mixed
  generalize hn : (mixI x 9901 3).toNat = n
  have hn2 : n ≤ 2 := by omega
  obtain ⟨kd, h⟩ := mixedS_WS (x := x) h0 h1 n
  refine ⟨kd, ?_⟩
  rcases (by omega : n = 0 ∨ n = 1 ∨ n = 2) with rfl | rfl | rfl
  · exact h.mono.mono
  · exact h.mono
  · exact h
section
variable {T : Nat → Option Fn} {G : List D} {F k : Nat}
structure TM (T : Nat → Option Fn) : Prop extends TD T where
  ids : T 23 = some F_law_ids
  grp : T 22 = some F_law_grouped
  mxd : T 42 = some F_law_mixed
theorem ids_ok (h : TM T) (x : Int) (s : Sh) : run T G F (k + 2) 23 [.int x, s.d] = .ok (.tup ((idsOf x s).map .int)) := by
  rw [run_at h.ids rfl]
  simp only [F_law_ids, g0, gS, x_v, x_k, x_tup, x_lst, x_dct, x_op, x_cmp, x_chn, chn_t, chn_f, sel_t, sel_f, and_t, and_f, or_t, or_f, x_and, x_or, x_not, neg_int, x_neg, x_ite, x_ix, gD_int, gD_str, x_g, gin_str, gix_dct, gin_dct, x_gix, x_gin, slA_int, slB_int, slC_int, x_slA, x_slB, slCX_int, x_slC, rev_lst, x_rev, x_call, x_bi, x_mt, mtX_index, mtX_get, mt_index, mt_get, x_lc, lcB_f, lcG_at, lcC_s, lcR_f, lcR_t, lcR_m, z_nil, z_cons, c_nil, cnd_t, cnd_f, cnd_nil, c_cons, s_nil, s_cons, s_set, s_setI, s_setM, setM_nil, setM_dct, opt_s, tp_tup, s_tp, q_nil, q_cons, t_nm, t_tp, appX_l, s_app, extX_l, s_ext, popX_c, s_pop, s_put, s_ex, iteS_t, iteS_f, s_ite, for_f, s_for, wh_at, s_while, s_ret, s_retN, s_raise, s_brk, s_cont, s_pass, o_add, o_sub, o_addT, o_mul, sm_of, o_mod, o_div, th_bl, th_int, th_str, th_non, th_tup, th_lst, i_lst, i_tup, i_enL, i_enT, i_zL, i_zT, b_lenS, b_lenA, b_lenT, b_lenL, b_tupT, b_tupL, b_lstT, b_lstL, b_sorted, b_sset, b_dict, isi_s, b_isi, all_s, b_all, any_s, b_any, max_s, b_max, D.isTys, D.isTy, ixT, ixL, ixA, cm_int, cm_str, cm_bl, cm_nint, cm_nstr, cm_nbl, cm_lt, cm_le, cm_gt, cm_ge, cm_in, cm_nin, cm_isN, cm_isI, cm_isS, cm_isB, cm_isT, cm_isL, cm_snN, cm_snI, cm_snS, cm_snB, cm_snT, cm_snL, e_rt, e_nx, e_exc, w_nil, w_cons, List.map_cons, List.map_nil, List.length_cons, List.length_nil, List.cons_append, List.nil_append, List.append_nil, List.getElem?_cons_zero, List.getElem?_cons_succ, List.getElem?_nil, List.set_cons_zero, List.set_cons_succ, r_b, r_be, r_x, r_t, r_te, n_nx, n_rt, n_bk, n_ct, n_exc, u_nx, u_ct, u_bk, u_rt, u_exc, startE, List.replicate, Nat.reduceAdd, Nat.reduceSub, atI_0, atI_1, atI_2, atI_3, Bool.false_and, Bool.true_and, Bool.not_true, Bool.not_false, Bool.false_eq_true, if_false, if_true, reduceIte, Int.reduceLT, Int.reduceNeg, Nat.reduceLeDiff, Bool.or_true, Bool.true_or, Bool.true_beq, Bool.false_beq, Bool.and_true, Bool.and_false, Bool.or_false, Bool.false_or, SZ, sh0]
  have hmx : ∀ y : Int, run T G F (k + 1) 40 [.int y, .int 9907, .int 2] = .ok (.int (mixI y 9907 2)) := fun y => mix_ok h.mix (by decide) (by decide) (by decide)
  rw [lc_filter (p := fun b : Bx => mixI (x + 7 * b.n) 9907 2 == 0) (g := fun b => .int b.n) (fun b _ => by rcases Bool.eq_false_or_eq_true (mixI (x + 7 * b.n) 9907 2 == 0) with h1 | h1 <;> simp only [g0, gS, x_v, x_k, x_tup, x_lst, x_dct, x_op, x_cmp, x_chn, chn_t, chn_f, sel_t, sel_f, and_t, and_f, or_t, or_f, x_and, x_or, x_not, neg_int, x_neg, x_ite, x_ix, gD_int, gD_str, x_g, gin_str, gix_dct, gin_dct, x_gix, x_gin, slA_int, slB_int, slC_int, x_slA, x_slB, slCX_int, x_slC, rev_lst, x_rev, x_call, x_bi, x_mt, mtX_index, mtX_get, mt_index, mt_get, x_lc, lcB_f, lcG_at, lcC_s, lcR_f, lcR_t, lcR_m, z_nil, z_cons, c_nil, cnd_t, cnd_f, cnd_nil, c_cons, s_nil, s_cons, s_set, s_setI, s_setM, setM_nil, setM_dct, opt_s, tp_tup, s_tp, q_nil, q_cons, t_nm, t_tp, appX_l, s_app, extX_l, s_ext, popX_c, s_pop, s_put, s_ex, iteS_t, iteS_f, s_ite, for_f, s_for, wh_at, s_while, s_ret, s_retN, s_raise, s_brk, s_cont, s_pass, o_add, o_sub, o_addT, o_mul, sm_of, o_mod, o_div, th_bl, th_int, th_str, th_non, th_tup, th_lst, i_lst, i_tup, i_enL, i_enT, i_zL, i_zT, b_lenS, b_lenA, b_lenT, b_lenL, b_tupT, b_tupL, b_lstT, b_lstL, b_sorted, b_sset, b_dict, isi_s, b_isi, all_s, b_all, any_s, b_any, max_s, b_max, D.isTys, D.isTy, ixT, ixL, ixA, cm_int, cm_str, cm_bl, cm_nint, cm_nstr, cm_nbl, cm_lt, cm_le, cm_gt, cm_ge, cm_in, cm_nin, cm_isN, cm_isI, cm_isS, cm_isB, cm_isT, cm_isL, cm_snN, cm_snI, cm_snS, cm_snB, cm_snT, cm_snL, e_rt, e_nx, e_exc, w_nil, w_cons, List.map_cons, List.map_nil, List.length_cons, List.length_nil, List.cons_append, List.nil_append, List.append_nil, List.getElem?_cons_zero, List.getElem?_cons_succ, List.getElem?_nil, List.set_cons_zero, List.set_cons_succ, r_b, r_be, r_x, r_t, r_te, n_nx, n_rt, n_bk, n_ct, n_exc, u_nx, u_ct, u_bk, u_rt, u_exc, startE, List.replicate, Nat.reduceAdd, Nat.reduceSub, atI_0, atI_1, atI_2, atI_3, Bool.false_and, Bool.true_and, Bool.not_true, Bool.not_false, Bool.false_eq_true, if_false, if_true, reduceIte, Int.reduceLT, Int.reduceNeg, Nat.reduceLeDiff, Bool.or_true, Bool.true_or, Bool.true_beq, Bool.false_beq, Bool.and_true, Bool.and_false, Bool.or_false, Bool.false_or, SZ, bx0, hmx, h1])]
  simp only [g0, gS, x_v, x_k, x_tup, x_lst, x_dct, x_op, x_cmp, x_chn, chn_t, chn_f, sel_t, sel_f, and_t, and_f, or_t, or_f, x_and, x_or, x_not, neg_int, x_neg, x_ite, x_ix, gD_int, gD_str, x_g, gin_str, gix_dct, gin_dct, x_gix, x_gin, slA_int, slB_int, slC_int, x_slA, x_slB, slCX_int, x_slC, rev_lst, x_rev, x_call, x_bi, x_mt, mtX_index, mtX_get, mt_index, mt_get, x_lc, lcB_f, lcG_at, lcC_s, lcR_f, lcR_t, lcR_m, z_nil, z_cons, c_nil, cnd_t, cnd_f, cnd_nil, c_cons, s_nil, s_cons, s_set, s_setI, s_setM, setM_nil, setM_dct, opt_s, tp_tup, s_tp, q_nil, q_cons, t_nm, t_tp, appX_l, s_app, extX_l, s_ext, popX_c, s_pop, s_put, s_ex, iteS_t, iteS_f, s_ite, for_f, s_for, wh_at, s_while, s_ret, s_retN, s_raise, s_brk, s_cont, s_pass, o_add, o_sub, o_addT, o_mul, sm_of, o_mod, o_div, th_bl, th_int, th_str, th_non, th_tup, th_lst, i_lst, i_tup, i_enL, i_enT, i_zL, i_zT, b_lenS, b_lenA, b_lenT, b_lenL, b_tupT, b_tupL, b_lstT, b_lstL, b_sorted, b_sset, b_dict, isi_s, b_isi, all_s, b_all, any_s, b_any, max_s, b_max, D.isTys, D.isTy, ixT, ixL, ixA, cm_int, cm_str, cm_bl, cm_nint, cm_nstr, cm_nbl, cm_lt, cm_le, cm_gt, cm_ge, cm_in, cm_nin, cm_isN, cm_isI, cm_isS, cm_isB, cm_isT, cm_isL, cm_snN, cm_snI, cm_snS, cm_snB, cm_snT, cm_snL, e_rt, e_nx, e_exc, w_nil, w_cons, List.map_cons, List.map_nil, List.length_cons, List.length_nil, List.cons_append, List.nil_append, List.append_nil, List.getElem?_cons_zero, List.getElem?_cons_succ, List.getElem?_nil, List.set_cons_zero, List.set_cons_succ, r_b, r_be, r_x, r_t, r_te, n_nx, n_rt, n_bk, n_ct, n_exc, u_nx, u_ct, u_bk, u_rt, u_exc, startE, List.replicate, Nat.reduceAdd, Nat.reduceSub, atI_0, atI_1, atI_2, atI_3, Bool.false_and, Bool.true_and, Bool.not_true, Bool.not_false, Bool.false_eq_true, if_false, if_true, reduceIte, Int.reduceLT, Int.reduceNeg, Nat.reduceLeDiff, Bool.or_true, Bool.true_or, Bool.true_beq, Bool.false_beq, Bool.and_true, Bool.and_false, Bool.or_false, Bool.false_or, SZ]
  congr 2
  unfold idsOf Sh.nums
  rw [List.filter_map, List.map_map]
  rfl
theorem mixed_ok (h : TM T) (x most : Int) (h0 : 0 ≤ most) (h1 : most ≤ 20) : run T G F (k + 5) 42 [.int x, .int most] = .ok (mixed x most).d := by
  have hmx : run T G F (k + 4) 40 [.int x, .int 9901, .int 3] = .ok (.int (mixI x 9901 3)) := mix_ok h.mix (by decide) (by decide) (by decide)
  obtain ⟨r0, r1⟩ := mixI_lt (x := x) (p := 9901) (m := 3) (by decide)
  unfold mixed
  generalize hn : (mixI x 9901 3).toNat = n
  have hnm : mixI x 9901 3 = (n : Int) := by omega
  have hd : run T G F (k + 4) 71 [.int x, .int most] = .ok (drawn x most).d := sheet_ok h.toTD x most h0 (by omega)
  rw [run_at h.mxd rfl]
  simp only [F_law_mixed, g0, gS, x_v, x_k, x_tup, x_lst, x_dct, x_op, x_cmp, x_chn, chn_t, chn_f, sel_t, sel_f, and_t, and_f, or_t, or_f, x_and, x_or, x_not, neg_int, x_neg, x_ite, x_ix, gD_int, gD_str, x_g, gin_str, gix_dct, gin_dct, x_gix, x_gin, slA_int, slB_int, slC_int, x_slA, x_slB, slCX_int, x_slC, rev_lst, x_rev, x_call, x_bi, x_mt, mtX_index, mtX_get, mt_index, mt_get, x_lc, lcB_f, lcG_at, lcC_s, lcR_f, lcR_t, lcR_m, z_nil, z_cons, c_nil, cnd_t, cnd_f, cnd_nil, c_cons, s_nil, s_cons, s_set, s_setI, s_setM, setM_nil, setM_dct, opt_s, tp_tup, s_tp, q_nil, q_cons, t_nm, t_tp, appX_l, s_app, extX_l, s_ext, popX_c, s_pop, s_put, s_ex, iteS_t, iteS_f, s_ite, for_f, s_for, wh_at, s_while, s_ret, s_retN, s_raise, s_brk, s_cont, s_pass, o_add, o_sub, o_addT, o_mul, sm_of, o_mod, o_div, th_bl, th_int, th_str, th_non, th_tup, th_lst, i_lst, i_tup, i_enL, i_enT, i_zL, i_zT, b_lenS, b_lenA, b_lenT, b_lenL, b_tupT, b_tupL, b_lstT, b_lstL, b_sorted, b_sset, b_dict, isi_s, b_isi, all_s, b_all, any_s, b_any, max_s, b_max, D.isTys, D.isTy, ixT, ixL, ixA, cm_int, cm_str, cm_bl, cm_nint, cm_nstr, cm_nbl, cm_lt, cm_le, cm_gt, cm_ge, cm_in, cm_nin, cm_isN, cm_isI, cm_isS, cm_isB, cm_isT, cm_isL, cm_snN, cm_snI, cm_snS, cm_snB, cm_snT, cm_snL, e_rt, e_nx, e_exc, w_nil, w_cons, List.map_cons, List.map_nil, List.length_cons, List.length_nil, List.cons_append, List.nil_append, List.append_nil, List.getElem?_cons_zero, List.getElem?_cons_succ, List.getElem?_nil, List.set_cons_zero, List.set_cons_succ, r_b, r_be, r_x, r_t, r_te, n_nx, n_rt, n_bk, n_ct, n_exc, u_nx, u_ct, u_bk, u_rt, u_exc, startE, List.replicate, Nat.reduceAdd, Nat.reduceSub, atI_0, atI_1, atI_2, atI_3, Bool.false_and, Bool.true_and, Bool.not_true, Bool.not_false, Bool.false_eq_true, if_false, if_true, reduceIte, Int.reduceLT, Int.reduceNeg, Nat.reduceLeDiff, Bool.or_true, Bool.true_or, Bool.true_beq, Bool.false_beq, Bool.and_true, Bool.and_false, Bool.or_false, Bool.false_or, SZ, hd, hmx, hnm, i_rng (n := (n : Int)) (by omega) (by omega), Int.toNat_natCast, range0]
  refine for_ix (K := fun o => endR (O.next o _) = _) (fun i env => ∃ x3 x4, env = [some (.int x), some (.int most), some (mixedS x most i).d, x3, x4]) (fun i a ha env ⟨x3, x4, e⟩ => ?_) ⟨none, none, rfl⟩ fun env ⟨x3, x4, e⟩ => ?_
  · subst e
    have hai : a = i ∧ i < n := by
      have := (List.getElem?_eq_some_iff.mp ha)
      obtain ⟨p, q⟩ := this
      rw [List.getElem_range] at q
      rw [List.length_range] at p
      exact ⟨q.symm, p⟩
    obtain ⟨rfl, hin⟩ := hai
    obtain ⟨kd, hw⟩ := mixedS_WS (x := x) h0 h1 a
    have hids : run T G F (k + 4) 23 [.int (x + 17 * (a : Int)), (mixedS x most a).d] = .ok (.tup ((idsOf (x + 17 * (a : Int)) (mixedS x most a)).map .int)) := ids_ok h _ _
    refine ⟨_, rfl, ?_⟩
    rw [mixedS_succ]
    unfold turnS
    revert hids
    generalize hi : idsOf (x + 17 * (a : Int)) (mixedS x most a) = ids
    intro hids
    cases ids with
    | nil =>
      simp only [g0, gS, x_v, x_k, x_tup, x_lst, x_dct, x_op, x_cmp, x_chn, chn_t, chn_f, sel_t, sel_f, and_t, and_f, or_t, or_f, x_and, x_or, x_not, neg_int, x_neg, x_ite, x_ix, gD_int, gD_str, x_g, gin_str, gix_dct, gin_dct, x_gix, x_gin, slA_int, slB_int, slC_int, x_slA, x_slB, slCX_int, x_slC, rev_lst, x_rev, x_call, x_bi, x_mt, mtX_index, mtX_get, mt_index, mt_get, x_lc, lcB_f, lcG_at, lcC_s, lcR_f, lcR_t, lcR_m, z_nil, z_cons, c_nil, cnd_t, cnd_f, cnd_nil, c_cons, s_nil, s_cons, s_set, s_setI, s_setM, setM_nil, setM_dct, opt_s, tp_tup, s_tp, q_nil, q_cons, t_nm, t_tp, appX_l, s_app, extX_l, s_ext, popX_c, s_pop, s_put, s_ex, iteS_t, iteS_f, s_ite, for_f, s_for, wh_at, s_while, s_ret, s_retN, s_raise, s_brk, s_cont, s_pass, o_add, o_sub, o_addT, o_mul, sm_of, o_mod, o_div, th_bl, th_int, th_str, th_non, th_tup, th_lst, i_lst, i_tup, i_enL, i_enT, i_zL, i_zT, b_lenS, b_lenA, b_lenT, b_lenL, b_tupT, b_tupL, b_lstT, b_lstL, b_sorted, b_sset, b_dict, isi_s, b_isi, all_s, b_all, any_s, b_any, max_s, b_max, D.isTys, D.isTy, ixT, ixL, ixA, cm_int, cm_str, cm_bl, cm_nint, cm_nstr, cm_nbl, cm_lt, cm_le, cm_gt, cm_ge, cm_in, cm_nin, cm_isN, cm_isI, cm_isS, cm_isB, cm_isT, cm_isL, cm_snN, cm_snI, cm_snS, cm_snB, cm_snT, cm_snL, e_rt, e_nx, e_exc, w_nil, w_cons, List.map_cons, List.map_nil, List.length_cons, List.length_nil, List.cons_append, List.nil_append, List.append_nil, List.getElem?_cons_zero, List.getElem?_cons_succ, List.getElem?_nil, List.set_cons_zero, List.set_cons_succ, r_b, r_be, r_x, r_t, r_te, n_nx, n_rt, n_bk, n_ct, n_exc, u_nx, u_ct, u_bk, u_rt, u_exc, startE, List.replicate, Nat.reduceAdd, Nat.reduceSub, atI_0, atI_1, atI_2, atI_3, Bool.false_and, Bool.true_and, Bool.not_true, Bool.not_false, Bool.false_eq_true, if_false, if_true, reduceIte, Int.reduceLT, Int.reduceNeg, Nat.reduceLeDiff, Bool.or_true, Bool.true_or, Bool.true_beq, Bool.false_beq, Bool.and_true, Bool.and_false, Bool.or_false, Bool.false_or, SZ, hids, List.isEmpty_nil]
      exact to_nx ⟨_, _, rfl⟩
    | cons i0 ids =>
      have hg : run T G F (k + 4) 22 [(mixedS x most a).d, .tup ((i0 :: ids).map .int)] = .ok ((mixedS x most a).grouped (i0 :: ids)).d := by
        refine grouped_ok h.grp _ _ ?_ hw.lw (fun w hq => ⟨?_, (hw.src w hq).2.1⟩) (by have := hw.lb; omega)
        · intro hb
          unfold idsOf Sh.nums at hi
          rw [hb] at hi
          cases hi
        · obtain ⟨⟨c, hc, e⟩, -⟩ := hw.src w hq
          have := hw.pos c hc
          omega
      simp only [List.map_cons] at hids hg
      simp only [g0, gS, x_v, x_k, x_tup, x_lst, x_dct, x_op, x_cmp, x_chn, chn_t, chn_f, sel_t, sel_f, and_t, and_f, or_t, or_f, x_and, x_or, x_not, neg_int, x_neg, x_ite, x_ix, gD_int, gD_str, x_g, gin_str, gix_dct, gin_dct, x_gix, x_gin, slA_int, slB_int, slC_int, x_slA, x_slB, slCX_int, x_slC, rev_lst, x_rev, x_call, x_bi, x_mt, mtX_index, mtX_get, mt_index, mt_get, x_lc, lcB_f, lcG_at, lcC_s, lcR_f, lcR_t, lcR_m, z_nil, z_cons, c_nil, cnd_t, cnd_f, cnd_nil, c_cons, s_nil, s_cons, s_set, s_setI, s_setM, setM_nil, setM_dct, opt_s, tp_tup, s_tp, q_nil, q_cons, t_nm, t_tp, appX_l, s_app, extX_l, s_ext, popX_c, s_pop, s_put, s_ex, iteS_t, iteS_f, s_ite, for_f, s_for, wh_at, s_while, s_ret, s_retN, s_raise, s_brk, s_cont, s_pass, o_add, o_sub, o_addT, o_mul, sm_of, o_mod, o_div, th_bl, th_int, th_str, th_non, th_tup, th_lst, i_lst, i_tup, i_enL, i_enT, i_zL, i_zT, b_lenS, b_lenA, b_lenT, b_lenL, b_tupT, b_tupL, b_lstT, b_lstL, b_sorted, b_sset, b_dict, isi_s, b_isi, all_s, b_all, any_s, b_any, max_s, b_max, D.isTys, D.isTy, ixT, ixL, ixA, cm_int, cm_str, cm_bl, cm_nint, cm_nstr, cm_nbl, cm_lt, cm_le, cm_gt, cm_ge, cm_in, cm_nin, cm_isN, cm_isI, cm_isS, cm_isB, cm_isT, cm_isL, cm_snN, cm_snI, cm_snS, cm_snB, cm_snT, cm_snL, e_rt, e_nx, e_exc, w_nil, w_cons, List.map_cons, List.map_nil, List.length_cons, List.length_nil, List.cons_append, List.nil_append, List.append_nil, List.getElem?_cons_zero, List.getElem?_cons_succ, List.getElem?_nil, List.set_cons_zero, List.set_cons_succ, r_b, r_be, r_x, r_t, r_te, n_nx, n_rt, n_bk, n_ct, n_exc, u_nx, u_ct, u_bk, u_rt, u_exc, startE, List.replicate, Nat.reduceAdd, Nat.reduceSub, atI_0, atI_1, atI_2, atI_3, Bool.false_and, Bool.true_and, Bool.not_true, Bool.not_false, Bool.false_eq_true, if_false, if_true, reduceIte, Int.reduceLT, Int.reduceNeg, Nat.reduceLeDiff, Bool.or_true, Bool.true_or, Bool.true_beq, Bool.false_beq, Bool.and_true, Bool.and_false, Bool.or_false, Bool.false_or, SZ, hids, hg, List.isEmpty_cons]
      exact to_nx ⟨_, _, rfl⟩
  · subst e
    simp only [g0, gS, x_v, x_k, x_tup, x_lst, x_dct, x_op, x_cmp, x_chn, chn_t, chn_f, sel_t, sel_f, and_t, and_f, or_t, or_f, x_and, x_or, x_not, neg_int, x_neg, x_ite, x_ix, gD_int, gD_str, x_g, gin_str, gix_dct, gin_dct, x_gix, x_gin, slA_int, slB_int, slC_int, x_slA, x_slB, slCX_int, x_slC, rev_lst, x_rev, x_call, x_bi, x_mt, mtX_index, mtX_get, mt_index, mt_get, x_lc, lcB_f, lcG_at, lcC_s, lcR_f, lcR_t, lcR_m, z_nil, z_cons, c_nil, cnd_t, cnd_f, cnd_nil, c_cons, s_nil, s_cons, s_set, s_setI, s_setM, setM_nil, setM_dct, opt_s, tp_tup, s_tp, q_nil, q_cons, t_nm, t_tp, appX_l, s_app, extX_l, s_ext, popX_c, s_pop, s_put, s_ex, iteS_t, iteS_f, s_ite, for_f, s_for, wh_at, s_while, s_ret, s_retN, s_raise, s_brk, s_cont, s_pass, o_add, o_sub, o_addT, o_mul, sm_of, o_mod, o_div, th_bl, th_int, th_str, th_non, th_tup, th_lst, i_lst, i_tup, i_enL, i_enT, i_zL, i_zT, b_lenS, b_lenA, b_lenT, b_lenL, b_tupT, b_tupL, b_lstT, b_lstL, b_sorted, b_sset, b_dict, isi_s, b_isi, all_s, b_all, any_s, b_any, max_s, b_max, D.isTys, D.isTy, ixT, ixL, ixA, cm_int, cm_str, cm_bl, cm_nint, cm_nstr, cm_nbl, cm_lt, cm_le, cm_gt, cm_ge, cm_in, cm_nin, cm_isN, cm_isI, cm_isS, cm_isB, cm_isT, cm_isL, cm_snN, cm_snI, cm_snS, cm_snB, cm_snT, cm_snL, e_rt, e_nx, e_exc, w_nil, w_cons, List.map_cons, List.map_nil, List.length_cons, List.length_nil, List.cons_append, List.nil_append, List.append_nil, List.getElem?_cons_zero, List.getElem?_cons_succ, List.getElem?_nil, List.set_cons_zero, List.set_cons_succ, r_b, r_be, r_x, r_t, r_te, n_nx, n_rt, n_bk, n_ct, n_exc, u_nx, u_ct, u_bk, u_rt, u_exc, startE, List.replicate, Nat.reduceAdd, Nat.reduceSub, atI_0, atI_1, atI_2, atI_3, Bool.false_and, Bool.true_and, Bool.not_true, Bool.not_false, Bool.false_eq_true, if_false, if_true, reduceIte, Int.reduceLT, Int.reduceNeg, Nat.reduceLeDiff, Bool.or_true, Bool.true_or, Bool.true_beq, Bool.false_beq, Bool.and_true, Bool.and_false, Bool.or_false, Bool.false_or, SZ, List.length_range]
end
end B

set_option maxHeartbeats 0
namespace K01
open PySem PySem.Spec PyProof.Rows L2 B
def F_law : Fn := ⟨1, 5, [], (.cons (.for false (.nm 1) .seq (.cons (.tup (.cons (.k (.str "const")) (.cons (.k (.str "words")) (.cons (.k (.str "add")) (.cons (.k (.str "less")) (.cons (.k (.str "pick")) (.cons (.k (.str "text")) (.cons (.k (.str "glue")) (.cons (.k (.str "size")) (.cons (.k (.str "late")) .nil)))))))))) .nil) (.cons (.set 2 (.tup (.cons (.k (.int 1)) (.cons (.v 1) (.cons (.call 69 (.cons (.call 9 (.cons (.v 0) (.cons (.k (.int 0)) .nil))) (.cons (.v 1) .nil))) .nil))))) (.cons (.ite (.not (.call 66 (.cons (.call 141 (.cons (.v 2) .nil)) (.cons (.call 30 (.cons (.v 2) .nil)) .nil)))) (.cons (.ret (.k (.bl false))) .nil) .nil) .nil))) (.cons (.for false (.nm 3) .rng1 (.cons (.k (.int 8)) .nil) (.cons (.set 4 (.call 42 (.cons (.op .add (.call 9 (.cons (.v 0) (.cons (.v 3) .nil))) (.op .mul (.k (.int 3)) (.v 3))) (.cons (.k (.int 7)) .nil)))) (.cons (.for false (.nm 2) .seq (.cons (.ix (.v 4) (.k (.int 0))) .nil) (.cons (.ite (.not (.call 66 (.cons (.call 141 (.cons (.v 2) .nil)) (.cons (.call 30 (.cons (.v 2) .nil)) .nil)))) (.cons (.ret (.k (.bl false))) .nil) .nil) .nil)) .nil))) (.cons (.ite (.cmp .ne (.call 141 (.cons (.tup (.cons (.k (.int 5)) (.cons (.k (.str "pick")) (.cons (.k .non) .nil)))) .nil)) (.tup (.cons (.tup (.cons (.k (.str "truth")) (.cons (.k (.str "number")) (.cons (.k (.str "number")) .nil)))) (.cons (.tup (.cons (.k (.str "number")) .nil)) .nil)))) (.cons (.ret (.k (.bl false))) .nil) .nil) (.cons (.ret (.cmp .eq (.call 141 (.cons (.tup (.cons (.k (.int 9)) (.cons (.k (.str "group")) (.cons (.tup (.cons (.tup .nil) (.cons (.tup .nil) (.cons (.tup (.cons (.tup .nil) (.cons (.tup .nil) .nil))) .nil)))) .nil)))) .nil)) (.tup (.cons (.tup .nil) (.cons (.tup .nil) .nil))))) .nil))))⟩
def G : List D := [.non, .non, .non, .non, .non, .non, (.dct [((.str "const"), (.tup [(.tup []), (.tup [(.str "number")])])), ((.str "words"), (.tup [(.tup []), (.tup [(.str "text")])])), ((.str "add"), (.tup [(.tup [(.str "number"), (.str "number")]), (.tup [(.str "number")])])), ((.str "less"), (.tup [(.tup [(.str "number"), (.str "number")]), (.tup [(.str "truth")])])), ((.str "pick"), (.tup [(.tup [(.str "truth"), (.str "number"), (.str "number")]), (.tup [(.str "number")])])), ((.str "text"), (.tup [(.tup [(.str "number")]), (.tup [(.str "text")])])), ((.str "glue"), (.tup [(.tup [(.str "text"), (.str "text")]), (.tup [(.str "text")])])), ((.str "size"), (.tup [(.tup [(.str "text")]), (.tup [(.str "number")])])), ((.str "late"), (.tup [(.tup [(.str "number")]), (.tup [(.str "number")])]))])]
def top (i : Nat) : Stmt := PySem.Challenge.pw_boxwire_k01_ports.main.body.getD i (.Pass ⟨0, 0, 0, 0⟩)
def d_box_in : DefS := ⟨100, "box_in", F_box_in.np, F_box_in.M, ["sheet", "number", "box"], F_box_in.body, top 2⟩
def d_kinds_in : DefS := ⟨124, "kinds_in", F_kinds_in.np, F_kinds_in.M, ["sheet", "pairs", "side", "number", "port"], F_kinds_in.body, top 3⟩
def d_ports : DefS := ⟨141, "ports", F_ports.np, F_ports.M, ["box", "ins", "outs", "inner"], F_ports.body, top 4⟩
def d_law_cell : DefS := ⟨9, "_law_cell", F_law_cell.np, F_law_cell.M, ["_law_script", "_law_k"], F_law_cell.body, top 6⟩
def d_law_mix : DefS := ⟨40, "_law_mix", F_law_mix.np, F_law_mix.M, ["_law_cell_here", "_law_prime", "_law_many", "_law_blend"], F_law_mix.body, top 7⟩
def d_law_same : DefS := ⟨66, "_law_same", F_law_same.np, F_law_same.M, ["_law_found", "_law_due", "_law_one", "_law_other"], F_law_same.body, top 8⟩
def d_law_kinds : DefS := ⟨30, "_law_kinds", F_law_kinds.np, F_law_kinds.M, ["_law_box", "_law_word", "_law_ins", "_law_outs", "_law_inner", "_law_names", "_law_takes", "_law_n", "_law_t", "_law_u", "_law_gives", "_law_number", "_law_port", "_law_one"], F_law_kinds.body, top 9⟩
def d_law_setting : DefS := ⟨69, "_law_setting", F_law_setting.np, F_law_setting.M, ["_law_cell_here", "_law_word"], F_law_setting.body, top 10⟩
def d_law_sheet : DefS := ⟨71, "_law_sheet", F_law_sheet.np, F_law_sheet.M, ["_law_cell_here", "_law_most", "_law_words", "_law_boxes", "_law_number", "_law_k", "_law_word", "_law_wires", "_law_box", "_law_port", "_law_kind", "_law_seed", "_law_free", "_law_turned", "_law_some", "_law_one"], F_law_sheet.body, top 11⟩
def d_law_ids : DefS := ⟨23, "_law_ids", F_law_ids.np, F_law_ids.M, ["_law_cell_here", "_law_sheet_here", "_law_box"], F_law_ids.body, top 12⟩
def d_law_grouped : DefS := ⟨22, "_law_grouped", F_law_grouped.np, F_law_grouped.M, ["_law_sheet_here", "_law_ids_here", "_law_number", "_law_ins", "_law_outs", "_law_inner", "_law_piece", "_law_wires", "_law_wire", "_law_boxes", "_law_box"], F_law_grouped.body, top 13⟩
def d_law_mixed : DefS := ⟨42, "_law_mixed", F_law_mixed.np, F_law_mixed.M, ["_law_cell_here", "_law_most", "_law_sheet_here", "_law_turn", "_law_ids_here"], F_law_mixed.body, top 14⟩
def d_law : DefS := ⟨0, "law", F_law.np, F_law.M, ["_law_script", "_law_word", "_law_box", "_law_k", "_law_sheet_here"], F_law.body, top 15⟩
def defs : List DefS := [d_box_in, d_kinds_in, d_ports, d_law_cell, d_law_mix, d_law_same, d_law_kinds, d_law_setting, d_law_sheet, d_law_ids, d_law_grouped, d_law_mixed, d_law]
def gn : List Str := ["DEEPEST", "FIGURES", "LETTERS", "MOST_BOXES", "MOST_DEEP", "PLAIN", "PORTS"]
def exl : List (Option Str) := [none, none, none, none, none, none, none, none, none]
theorem b_box_in : Bnd d_box_in := fun _ _ _ _ _ _ us hl => match us, hl with | [_, _], _ => rfl
theorem b_kinds_in : Bnd d_kinds_in := fun _ _ _ _ _ _ us hl => match us, hl with | [_, _, _], _ => rfl
theorem b_ports : Bnd d_ports := fun _ _ _ _ _ _ us hl => match us, hl with | [_], _ => rfl
theorem b_law_cell : Bnd d_law_cell := fun _ _ _ _ _ _ us hl => match us, hl with | [_, _], _ => rfl
theorem b_law_mix : Bnd d_law_mix := fun _ _ _ _ _ _ us hl => match us, hl with | [_, _, _], _ => rfl
theorem b_law_same : Bnd d_law_same := fun _ _ _ _ _ _ us hl => match us, hl with | [_, _], _ => rfl
theorem b_law_kinds : Bnd d_law_kinds := fun _ _ _ _ _ _ us hl => match us, hl with | [_], _ => rfl
theorem b_law_setting : Bnd d_law_setting := fun _ _ _ _ _ _ us hl => match us, hl with | [_, _], _ => rfl
theorem b_law_sheet : Bnd d_law_sheet := fun _ _ _ _ _ _ us hl => match us, hl with | [_, _], _ => rfl
theorem b_law_ids : Bnd d_law_ids := fun _ _ _ _ _ _ us hl => match us, hl with | [_, _], _ => rfl
theorem b_law_grouped : Bnd d_law_grouped := fun _ _ _ _ _ _ us hl => match us, hl with | [_, _], _ => rfl
theorem b_law_mixed : Bnd d_law_mixed := fun _ _ _ _ _ _ us hl => match us, hl with | [_, _], _ => rfl
theorem b_law : Bnd d_law := fun _ _ _ _ _ _ us hl => match us, hl with | [_], _ => rfl
theorem allB : AllB defs := ⟨b_box_in, b_kinds_in, b_ports, b_law_cell, b_law_mix, b_law_same, b_law_kinds, b_law_setting, b_law_sheet, b_law_ids, b_law_grouped, b_law_mixed, b_law, True.intro⟩
theorem t_box_in : tabOf defs 100 = some F_box_in := by rfl
theorem t_kinds_in : tabOf defs 124 = some F_kinds_in := by rfl
theorem t_ports : tabOf defs 141 = some F_ports := by rfl
theorem t_law_cell : tabOf defs 9 = some F_law_cell := by rfl
theorem t_law_mix : tabOf defs 40 = some F_law_mix := by rfl
theorem t_law_same : tabOf defs 66 = some F_law_same := by rfl
theorem t_law_kinds : tabOf defs 30 = some F_law_kinds := by rfl
theorem t_law_setting : tabOf defs 69 = some F_law_setting := by rfl
theorem t_law_sheet : tabOf defs 71 = some F_law_sheet := by rfl
theorem t_law_ids : tabOf defs 23 = some F_law_ids := by rfl
theorem t_law_grouped : tabOf defs 22 = some F_law_grouped := by rfl
theorem t_law_mixed : tabOf defs 42 = some F_law_mixed := by rfl
theorem t_law : tabOf defs 0 = some F_law := by rfl
theorem okB : defs.all (defB defs gn (exAt exl)) = true := by kernel_rfl
end K01

set_option maxHeartbeats 0
namespace K01
open PySem PySem.Spec PyProof.Rows L2 B
abbrev Rw : PySem.W.OpenRow := PySem.W.OpenLaw.row PySem.Challenge.rw_boxwire_k01_ports
def fa : List He.Fa := faOf defs exl
def fn : List He.DefD := fnD defs
def ts : List He.Tab := tabsOf gn G
def ex : PySem.W.Frag → Bool := gsB gn G
abbrev hk : PySem.W.Hook := He.hookX 4 fa fn ts [] ex
def ob (s : PySem.W.SharedT) : He.AlX := He.obsX 4 fa fn ts [] ex (HandSHeadRun.getT s)
theorem ob_eq (s : PySem.W.SharedT) : ob s = hk.obs s.abs := He.obsX_eq (HandSHeadRun.getT_eq s)
def names : List Str := ["PORTS", "box_in", "kinds_in", "ports", "_law_cell", "_law_mix", "_law_same", "_law_kinds", "_law_setting", "_law_sheet", "_law_ids", "_law_grouped", "_law_mixed"]
open HandSHeadRun PySem.W
abbrev R1 (w : World) : Prop := HandSHeadRun.RunEq Rw (PySem.W.view Rw.prog [15]) hk ob 12000 names w
theorem runF (w : World) : R1 (w.withFollow "special-get-raises" false) := by
  intro os; kernel_rfl
theorem runT (w : World) : R1 (w.withFollow "special-get-raises" true) := by
  intro os; kernel_rfl
theorem run_top (w : World) : R1 w := byRow2 "special-get-raises" runF runT w
end K01

set_option maxHeartbeats 0
namespace K01
open PySem PySem.Spec PyProof.Rows L2 B
abbrev KK : Nat := 200
abbrev FF : Nat := 100000
/-- what the law tells -/
def tells (ns : List Int) : R D := B.run (tabOf defs) G FF KK 0 [.arg ns]
theorem facts {h : Heap} {w : World} {K : PySem.W.Frag} {mg : Str → Option Value} {f : Addr} (Xk : K.In h) (Gm : h.Ns mainGlobals mg) (hfa : mg ("law" : Str) = some (.ref f)) (c : He.SaysX fa fn ts [] ex w h K) :
    ∃ fd : FuncData, (∀ (s : Shared) (v : Value), BindsTo s fd ⟨[v], []⟩ [("_law_script", v)]) ∧ ∀ base : Heap, FnOk PySem.Challenge.rw_boxwire_k01_ports.prog w K mg base CX0 KK f fd ["_law_script"] (fun vs H Q _ => spF K (fun k => He.ga K (exNm exl k)) 1 (B.run (tabOf defs) G FF KK 0) vs H Q fun _ _ _ => False) := by
  have Lf : Left defs gn (exAt exl) (fun k => He.ga K (exNm exl k)) G w K mg := left_of Xk Gm c.t c.more (by decide)
  obtain ⟨f', fd, F, e⟩ := Lf.fn d_law (by simp [defs])
  have e' : f' = f := by
    have q : mg ("law" : Str) = some (.ref f') := e
    rw [hfa] at q
    cases q
    rfl
  subst e'
  exact ⟨fd, fun s v => FunD.bindsA (ps := ["_law_script"]) F b_law s [v] rfl, fun base => fn_cx0 (defs_ok (base := base) Lf allB okB KK 0 d_law f' fd rfl F)⟩
end K01
namespace K01
open PySem PySem.W PySem.Calls PyProof.Rows
theorem holds_of (ht : ∀ ns : List Int, ns.length ≤ 63 → tells ns = .ok (.bl true)) : PySem.Challenge.rw_boxwire_k01_ports.Holds := by
  w_on; o_law
  refine HandSHeadRun.head_any (r := OpenLaw.row PySem.Challenge.rw_boxwire_k01_ports) (q := view (OpenLaw.row PySem.Challenge.rw_boxwire_k01_ports).prog [15]) (H := hk) (ob := ob) (M := 12000) (loose := names) (d := HandSHeadRun.topDef (OpenLaw.row PySem.Challenge.rw_boxwire_k01_ports).prog 15) (kwd := []) ob_eq
    (by kernel_rfl) (fun s => by kernel_rfl) run_top (by kernel_rfl) (by kernel_rfl) (by kernel_rfl) (by rfl) (by first | assumption | decide +kernel) (by decide +kernel) ⟨rfl, rfl, rfl, rfl, rfl, by decide +kernel⟩ ?hw ?hc
  case hw => w_witness2
  case hc =>
    refine L2.walk_ofE (l := PySem.Challenge.rw_boxwire_k01_ports) (n := 63) (k := KK) (x := "_law_script") (CX := L2.CX0) rfl (by decide) (by kernel_rfl) ⟨rfl, by decide, by decide⟩ ?F (fun _ _ _ _ z => z)
    intro w mg fa0 h Y Gm hmg0
    obtain ⟨K, KX, c⟩ := Y
    have hmg : mg ("law" : PySem.Str) = some (.ref fa0) := by
      rw [← (show (HandSHeadRun.topDef (OpenLaw.row PySem.Challenge.rw_boxwire_k01_ports).prog 15).name = ("law" : PySem.Str) by kernel_rfl)]
      exact hmg0
    obtain ⟨fd, hb, hF⟩ := facts (w := w) KX Gm hmg c
    exact ⟨K, fd, fun vs H Q _ => B.spF K (fun k => He.ga K (B.exNm exl k)) 1 (B.run (B.tabOf defs) G FF KK 0) vs H Q (fun _ _ _ => False), KX, hb, fun H a ns hl hO hS => B.law_sp hO hS (ht ns hl), fun base _ _ => hF base⟩
end K01

set_option maxHeartbeats 4000000
namespace K01
open PySem B
def nine : List Str := ["const", "words", "add", "less", "pick", "text", "glue", "size", "late"]
theorem nine_row : ∀ w ∈ nine, ∃ q, rowOf w = some q := by
  intro w hw
  have : nine.all (fun w => (rowOf w).isSome) = true := by decide +kernel
  exact Option.isSome_iff_exists.mp (List.all_eq_true.mp this w hw)
theorem tp : TP (tabOf defs) G := ⟨t_box_in, t_kinds_in, t_ports, rfl⟩
theorem tm : TM (tabOf defs) := ⟨⟨t_law_mix, t_law_kinds, t_law_setting, t_law_sheet⟩, t_law_ids, t_law_grouped, t_law_mixed⟩
theorem law_true (ns : List Int) : run (tabOf defs) G FF (199 + 1) 0 [.arg ns] = .ok (.bl true) := by
  have hc : ∀ j : Nat, run (tabOf defs) G FF 199 9 [.arg ns, .int (j : Nat)] = .ok (.int (cellI ns j)) := fun j => cell_ok t_law_cell ns j
  have hc0 : run (tabOf defs) G FF 199 9 [.arg ns, .int 0] = .ok (.int (cellI ns 0)) := hc 0
  have hs : ∀ (x : Int) (w : Str), run (tabOf defs) G FF 199 69 [.int x, .str w] = .ok (settD x w) := fun x w => sett_ok t_law_setting t_law_mix x w
  have hp : ∀ {b : Bx} {q : Kn}, WB 2 b q → run (tabOf defs) G FF 199 141 [b.d] = .ok (kdD q) := fun h => ports_ok (k := 198) tp h (by decide)
  have hk : ∀ {b : Bx} {q : Kn}, WB 2 b q → run (tabOf defs) G FF 199 30 [b.d] = .ok (kdD q) := fun h => lkinds_ok (k := 198) t_law_kinds h (by decide)
  have hq : ∀ q : Kn, run (tabOf defs) G FF 199 66 [kdD q, kdD q] = .ok (.bl true) := fun q => same_kd t_law_same q
  have hm : ∀ x : Int, run (tabOf defs) G FF 199 42 [.int x, .int 7] = .ok (mixed x 7).d := fun x => mixed_ok tm x 7 (by decide) (by decide)
  have r8 : D.itD .rng1 [.int 8] = .ok ((List.range 8).map fun i => D.int (i : Nat)) := by
    rw [i_rng (by decide) (by decide)]
    exact congrArg _ (range0 8)
  rw [run_at t_law rfl]
  have e9 : [D.str "const", D.str "words", D.str "add", D.str "less", D.str "pick", D.str "text", D.str "glue", D.str "size", D.str "late"] = nine.map D.str := rfl
  simp only [F_law, g0, gS, x_v, x_k, x_tup, x_lst, x_dct, x_op, x_cmp, x_chn, chn_t, chn_f, sel_t, sel_f, and_t, and_f, or_t, or_f, x_and, x_or, x_not, neg_int, x_neg, x_ite, x_ix, gD_int, gD_str, x_g, gin_str, gix_dct, gin_dct, x_gix, x_gin, slA_int, slB_int, slC_int, x_slA, x_slB, slCX_int, x_slC, rev_lst, x_rev, x_call, x_bi, x_mt, mtX_index, mtX_get, mt_index, mt_get, x_lc, lcB_f, lcG_at, lcC_s, lcR_f, lcR_t, lcR_m, z_nil, z_cons, c_nil, cnd_t, cnd_f, cnd_nil, c_cons, s_nil, s_cons, s_set, s_setI, s_setM, setM_nil, setM_dct, opt_s, tp_tup, s_tp, q_nil, q_cons, t_nm, t_tp, appX_l, s_app, extX_l, s_ext, popX_c, s_pop, s_put, s_ex, iteS_t, iteS_f, s_ite, for_f, s_for, wh_at, s_while, s_ret, s_retN, s_raise, s_brk, s_cont, s_pass, o_add, o_sub, o_addT, o_mul, sm_of, o_mod, o_div, th_bl, th_int, th_str, th_non, th_tup, th_lst, i_lst, i_tup, i_enL, i_enT, i_zL, i_zT, b_lenS, b_lenA, b_lenT, b_lenL, b_tupT, b_tupL, b_lstT, b_lstL, b_sorted, b_sset, b_dict, isi_s, b_isi, all_s, b_all, any_s, b_any, max_s, b_max, D.isTys, D.isTy, ixT, ixL, ixA, cm_int, cm_str, cm_bl, cm_nint, cm_nstr, cm_nbl, cm_lt, cm_le, cm_gt, cm_ge, cm_in, cm_nin, cm_isN, cm_isI, cm_isS, cm_isB, cm_isT, cm_isL, cm_snN, cm_snI, cm_snS, cm_snB, cm_snT, cm_snL, e_rt, e_nx, e_exc, w_nil, w_cons, List.map_cons, List.map_nil, List.length_cons, List.length_nil, List.cons_append, List.nil_append, List.append_nil, List.getElem?_cons_zero, List.getElem?_cons_succ, List.getElem?_nil, List.set_cons_zero, List.set_cons_succ, r_b, r_be, r_x, r_t, r_te, n_nx, n_rt, n_bk, n_ct, n_exc, u_nx, u_ct, u_bk, u_rt, u_exc, startE, List.replicate, Nat.reduceAdd, Nat.reduceSub, atI_0, atI_1, atI_2, atI_3, Bool.false_and, Bool.true_and, Bool.not_true, Bool.not_false, Bool.false_eq_true, if_false, if_true, reduceIte, Int.reduceLT, Int.reduceNeg, Nat.reduceLeDiff, Bool.or_true, Bool.true_or, Bool.true_beq, Bool.false_beq, Bool.and_true, Bool.and_false, Bool.or_false, Bool.false_or, SZ]
  rw [e9]
  refine for_ix (K := fun o => endR (O.next o _) = _) (fun i env => ∃ x1 x2, env = [some (.arg ns), x1, x2, none, none]) (fun i w hi env ⟨x1, x2, e⟩ => ?_) ⟨none, none, rfl⟩ fun env ⟨x1, x2, e⟩ => ?_
  · subst e
    refine ⟨_, rfl, ?_⟩
    obtain ⟨q, hr⟩ := nine_row w (List.mem_of_getElem? hi)
    have hb : WB 2 ⟨1, w, settD (cellI ns 0) w⟩ q := WB.row hr
    have h1 := hp hb
    have h2 := hk hb
    simp only [Bx.d] at h1 h2
    simp only [g0, gS, x_v, x_k, x_tup, x_lst, x_dct, x_op, x_cmp, x_chn, chn_t, chn_f, sel_t, sel_f, and_t, and_f, or_t, or_f, x_and, x_or, x_not, neg_int, x_neg, x_ite, x_ix, gD_int, gD_str, x_g, gin_str, gix_dct, gin_dct, x_gix, x_gin, slA_int, slB_int, slC_int, x_slA, x_slB, slCX_int, x_slC, rev_lst, x_rev, x_call, x_bi, x_mt, mtX_index, mtX_get, mt_index, mt_get, x_lc, lcB_f, lcG_at, lcC_s, lcR_f, lcR_t, lcR_m, z_nil, z_cons, c_nil, cnd_t, cnd_f, cnd_nil, c_cons, s_nil, s_cons, s_set, s_setI, s_setM, setM_nil, setM_dct, opt_s, tp_tup, s_tp, q_nil, q_cons, t_nm, t_tp, appX_l, s_app, extX_l, s_ext, popX_c, s_pop, s_put, s_ex, iteS_t, iteS_f, s_ite, for_f, s_for, wh_at, s_while, s_ret, s_retN, s_raise, s_brk, s_cont, s_pass, o_add, o_sub, o_addT, o_mul, sm_of, o_mod, o_div, th_bl, th_int, th_str, th_non, th_tup, th_lst, i_lst, i_tup, i_enL, i_enT, i_zL, i_zT, b_lenS, b_lenA, b_lenT, b_lenL, b_tupT, b_tupL, b_lstT, b_lstL, b_sorted, b_sset, b_dict, isi_s, b_isi, all_s, b_all, any_s, b_any, max_s, b_max, D.isTys, D.isTy, ixT, ixL, ixA, cm_int, cm_str, cm_bl, cm_nint, cm_nstr, cm_nbl, cm_lt, cm_le, cm_gt, cm_ge, cm_in, cm_nin, cm_isN, cm_isI, cm_isS, cm_isB, cm_isT, cm_isL, cm_snN, cm_snI, cm_snS, cm_snB, cm_snT, cm_snL, e_rt, e_nx, e_exc, w_nil, w_cons, List.map_cons, List.map_nil, List.length_cons, List.length_nil, List.cons_append, List.nil_append, List.append_nil, List.getElem?_cons_zero, List.getElem?_cons_succ, List.getElem?_nil, List.set_cons_zero, List.set_cons_succ, r_b, r_be, r_x, r_t, r_te, n_nx, n_rt, n_bk, n_ct, n_exc, u_nx, u_ct, u_bk, u_rt, u_exc, startE, List.replicate, Nat.reduceAdd, Nat.reduceSub, atI_0, atI_1, atI_2, atI_3, Bool.false_and, Bool.true_and, Bool.not_true, Bool.not_false, Bool.false_eq_true, if_false, if_true, reduceIte, Int.reduceLT, Int.reduceNeg, Nat.reduceLeDiff, Bool.or_true, Bool.true_or, Bool.true_beq, Bool.false_beq, Bool.and_true, Bool.and_false, Bool.or_false, Bool.false_or, SZ, hc0, hs, h1, h2, hq]
    exact to_nx ⟨_, _, rfl⟩
  · subst e
    simp only [g0, gS, x_v, x_k, x_tup, x_lst, x_dct, x_op, x_cmp, x_chn, chn_t, chn_f, sel_t, sel_f, and_t, and_f, or_t, or_f, x_and, x_or, x_not, neg_int, x_neg, x_ite, x_ix, gD_int, gD_str, x_g, gin_str, gix_dct, gin_dct, x_gix, x_gin, slA_int, slB_int, slC_int, x_slA, x_slB, slCX_int, x_slC, rev_lst, x_rev, x_call, x_bi, x_mt, mtX_index, mtX_get, mt_index, mt_get, x_lc, lcB_f, lcG_at, lcC_s, lcR_f, lcR_t, lcR_m, z_nil, z_cons, c_nil, cnd_t, cnd_f, cnd_nil, c_cons, s_nil, s_cons, s_set, s_setI, s_setM, setM_nil, setM_dct, opt_s, tp_tup, s_tp, q_nil, q_cons, t_nm, t_tp, appX_l, s_app, extX_l, s_ext, popX_c, s_pop, s_put, s_ex, iteS_t, iteS_f, s_ite, for_f, s_for, wh_at, s_while, s_ret, s_retN, s_raise, s_brk, s_cont, s_pass, o_add, o_sub, o_addT, o_mul, sm_of, o_mod, o_div, th_bl, th_int, th_str, th_non, th_tup, th_lst, i_lst, i_tup, i_enL, i_enT, i_zL, i_zT, b_lenS, b_lenA, b_lenT, b_lenL, b_tupT, b_tupL, b_lstT, b_lstL, b_sorted, b_sset, b_dict, isi_s, b_isi, all_s, b_all, any_s, b_any, max_s, b_max, D.isTys, D.isTy, ixT, ixL, ixA, cm_int, cm_str, cm_bl, cm_nint, cm_nstr, cm_nbl, cm_lt, cm_le, cm_gt, cm_ge, cm_in, cm_nin, cm_isN, cm_isI, cm_isS, cm_isB, cm_isT, cm_isL, cm_snN, cm_snI, cm_snS, cm_snB, cm_snT, cm_snL, e_rt, e_nx, e_exc, w_nil, w_cons, List.map_cons, List.map_nil, List.length_cons, List.length_nil, List.cons_append, List.nil_append, List.append_nil, List.getElem?_cons_zero, List.getElem?_cons_succ, List.getElem?_nil, List.set_cons_zero, List.set_cons_succ, r_b, r_be, r_x, r_t, r_te, n_nx, n_rt, n_bk, n_ct, n_exc, u_nx, u_ct, u_bk, u_rt, u_exc, startE, List.replicate, Nat.reduceAdd, Nat.reduceSub, atI_0, atI_1, atI_2, atI_3, Bool.false_and, Bool.true_and, Bool.not_true, Bool.not_false, Bool.false_eq_true, if_false, if_true, reduceIte, Int.reduceLT, Int.reduceNeg, Nat.reduceLeDiff, Bool.or_true, Bool.true_or, Bool.true_beq, Bool.false_beq, Bool.and_true, Bool.and_false, Bool.or_false, Bool.false_or, SZ, r8]
    refine for_ix (K := fun o => endR (O.next o _) = _) (fun i env => ∃ x1 x2 x3 x4, env = [some (.arg ns), x1, x2, x3, x4]) (fun i j hi env ⟨x1, x2, x3, x4, e⟩ => ?_) ⟨_, _, _, _, rfl⟩ fun env ⟨x1, x2, x3, x4, e⟩ => ?_
    · subst e
      refine ⟨_, rfl, ?_⟩
      obtain ⟨kd, hw⟩ := mixed_WS (x := cellI ns j + 3 * (j : Int)) (most := 7) (by decide) (by decide)
      simp only [g0, gS, x_v, x_k, x_tup, x_lst, x_dct, x_op, x_cmp, x_chn, chn_t, chn_f, sel_t, sel_f, and_t, and_f, or_t, or_f, x_and, x_or, x_not, neg_int, x_neg, x_ite, x_ix, gD_int, gD_str, x_g, gin_str, gix_dct, gin_dct, x_gix, x_gin, slA_int, slB_int, slC_int, x_slA, x_slB, slCX_int, x_slC, rev_lst, x_rev, x_call, x_bi, x_mt, mtX_index, mtX_get, mt_index, mt_get, x_lc, lcB_f, lcG_at, lcC_s, lcR_f, lcR_t, lcR_m, z_nil, z_cons, c_nil, cnd_t, cnd_f, cnd_nil, c_cons, s_nil, s_cons, s_set, s_setI, s_setM, setM_nil, setM_dct, opt_s, tp_tup, s_tp, q_nil, q_cons, t_nm, t_tp, appX_l, s_app, extX_l, s_ext, popX_c, s_pop, s_put, s_ex, iteS_t, iteS_f, s_ite, for_f, s_for, wh_at, s_while, s_ret, s_retN, s_raise, s_brk, s_cont, s_pass, o_add, o_sub, o_addT, o_mul, sm_of, o_mod, o_div, th_bl, th_int, th_str, th_non, th_tup, th_lst, i_lst, i_tup, i_enL, i_enT, i_zL, i_zT, b_lenS, b_lenA, b_lenT, b_lenL, b_tupT, b_tupL, b_lstT, b_lstL, b_sorted, b_sset, b_dict, isi_s, b_isi, all_s, b_all, any_s, b_any, max_s, b_max, D.isTys, D.isTy, ixT, ixL, ixA, cm_int, cm_str, cm_bl, cm_nint, cm_nstr, cm_nbl, cm_lt, cm_le, cm_gt, cm_ge, cm_in, cm_nin, cm_isN, cm_isI, cm_isS, cm_isB, cm_isT, cm_isL, cm_snN, cm_snI, cm_snS, cm_snB, cm_snT, cm_snL, e_rt, e_nx, e_exc, w_nil, w_cons, List.map_cons, List.map_nil, List.length_cons, List.length_nil, List.cons_append, List.nil_append, List.append_nil, List.getElem?_cons_zero, List.getElem?_cons_succ, List.getElem?_nil, List.set_cons_zero, List.set_cons_succ, r_b, r_be, r_x, r_t, r_te, n_nx, n_rt, n_bk, n_ct, n_exc, u_nx, u_ct, u_bk, u_rt, u_exc, startE, List.replicate, Nat.reduceAdd, Nat.reduceSub, atI_0, atI_1, atI_2, atI_3, Bool.false_and, Bool.true_and, Bool.not_true, Bool.not_false, Bool.false_eq_true, if_false, if_true, reduceIte, Int.reduceLT, Int.reduceNeg, Nat.reduceLeDiff, Bool.or_true, Bool.true_or, Bool.true_beq, Bool.false_beq, Bool.and_true, Bool.and_false, Bool.or_false, Bool.false_or, SZ, hc, hm, sh0]
      refine for_ix (K := fun o => (O.next o _).to _) (fun i env => ∃ x2, env = [some (.arg ns), x1, x2, some (.int (j : Nat)), some (mixed (cellI ns j + 3 * (j : Int)) 7).d]) (fun i b hi env ⟨x2, e⟩ => ?_) ⟨_, rfl⟩ fun env ⟨x2, e⟩ => ?_
      · subst e
        refine ⟨_, rfl, ?_⟩
        have hb := hw.wb b (List.mem_of_getElem? hi)
        simp only [g0, gS, x_v, x_k, x_tup, x_lst, x_dct, x_op, x_cmp, x_chn, chn_t, chn_f, sel_t, sel_f, and_t, and_f, or_t, or_f, x_and, x_or, x_not, neg_int, x_neg, x_ite, x_ix, gD_int, gD_str, x_g, gin_str, gix_dct, gin_dct, x_gix, x_gin, slA_int, slB_int, slC_int, x_slA, x_slB, slCX_int, x_slC, rev_lst, x_rev, x_call, x_bi, x_mt, mtX_index, mtX_get, mt_index, mt_get, x_lc, lcB_f, lcG_at, lcC_s, lcR_f, lcR_t, lcR_m, z_nil, z_cons, c_nil, cnd_t, cnd_f, cnd_nil, c_cons, s_nil, s_cons, s_set, s_setI, s_setM, setM_nil, setM_dct, opt_s, tp_tup, s_tp, q_nil, q_cons, t_nm, t_tp, appX_l, s_app, extX_l, s_ext, popX_c, s_pop, s_put, s_ex, iteS_t, iteS_f, s_ite, for_f, s_for, wh_at, s_while, s_ret, s_retN, s_raise, s_brk, s_cont, s_pass, o_add, o_sub, o_addT, o_mul, sm_of, o_mod, o_div, th_bl, th_int, th_str, th_non, th_tup, th_lst, i_lst, i_tup, i_enL, i_enT, i_zL, i_zT, b_lenS, b_lenA, b_lenT, b_lenL, b_tupT, b_tupL, b_lstT, b_lstL, b_sorted, b_sset, b_dict, isi_s, b_isi, all_s, b_all, any_s, b_any, max_s, b_max, D.isTys, D.isTy, ixT, ixL, ixA, cm_int, cm_str, cm_bl, cm_nint, cm_nstr, cm_nbl, cm_lt, cm_le, cm_gt, cm_ge, cm_in, cm_nin, cm_isN, cm_isI, cm_isS, cm_isB, cm_isT, cm_isL, cm_snN, cm_snI, cm_snS, cm_snB, cm_snT, cm_snL, e_rt, e_nx, e_exc, w_nil, w_cons, List.map_cons, List.map_nil, List.length_cons, List.length_nil, List.cons_append, List.nil_append, List.append_nil, List.getElem?_cons_zero, List.getElem?_cons_succ, List.getElem?_nil, List.set_cons_zero, List.set_cons_succ, r_b, r_be, r_x, r_t, r_te, n_nx, n_rt, n_bk, n_ct, n_exc, u_nx, u_ct, u_bk, u_rt, u_exc, startE, List.replicate, Nat.reduceAdd, Nat.reduceSub, atI_0, atI_1, atI_2, atI_3, Bool.false_and, Bool.true_and, Bool.not_true, Bool.not_false, Bool.false_eq_true, if_false, if_true, reduceIte, Int.reduceLT, Int.reduceNeg, Nat.reduceLeDiff, Bool.or_true, Bool.true_or, Bool.true_beq, Bool.false_beq, Bool.and_true, Bool.and_false, Bool.or_false, Bool.false_or, SZ, hp hb, hk hb, hq]
        exact to_nx ⟨_, rfl⟩
      · subst e
        simp only [g0, gS, x_v, x_k, x_tup, x_lst, x_dct, x_op, x_cmp, x_chn, chn_t, chn_f, sel_t, sel_f, and_t, and_f, or_t, or_f, x_and, x_or, x_not, neg_int, x_neg, x_ite, x_ix, gD_int, gD_str, x_g, gin_str, gix_dct, gin_dct, x_gix, x_gin, slA_int, slB_int, slC_int, x_slA, x_slB, slCX_int, x_slC, rev_lst, x_rev, x_call, x_bi, x_mt, mtX_index, mtX_get, mt_index, mt_get, x_lc, lcB_f, lcG_at, lcC_s, lcR_f, lcR_t, lcR_m, z_nil, z_cons, c_nil, cnd_t, cnd_f, cnd_nil, c_cons, s_nil, s_cons, s_set, s_setI, s_setM, setM_nil, setM_dct, opt_s, tp_tup, s_tp, q_nil, q_cons, t_nm, t_tp, appX_l, s_app, extX_l, s_ext, popX_c, s_pop, s_put, s_ex, iteS_t, iteS_f, s_ite, for_f, s_for, wh_at, s_while, s_ret, s_retN, s_raise, s_brk, s_cont, s_pass, o_add, o_sub, o_addT, o_mul, sm_of, o_mod, o_div, th_bl, th_int, th_str, th_non, th_tup, th_lst, i_lst, i_tup, i_enL, i_enT, i_zL, i_zT, b_lenS, b_lenA, b_lenT, b_lenL, b_tupT, b_tupL, b_lstT, b_lstL, b_sorted, b_sset, b_dict, isi_s, b_isi, all_s, b_all, any_s, b_any, max_s, b_max, D.isTys, D.isTy, ixT, ixL, ixA, cm_int, cm_str, cm_bl, cm_nint, cm_nstr, cm_nbl, cm_lt, cm_le, cm_gt, cm_ge, cm_in, cm_nin, cm_isN, cm_isI, cm_isS, cm_isB, cm_isT, cm_isL, cm_snN, cm_snI, cm_snS, cm_snB, cm_snT, cm_snL, e_rt, e_nx, e_exc, w_nil, w_cons, List.map_cons, List.map_nil, List.length_cons, List.length_nil, List.cons_append, List.nil_append, List.append_nil, List.getElem?_cons_zero, List.getElem?_cons_succ, List.getElem?_nil, List.set_cons_zero, List.set_cons_succ, r_b, r_be, r_x, r_t, r_te, n_nx, n_rt, n_bk, n_ct, n_exc, u_nx, u_ct, u_bk, u_rt, u_exc, startE, List.replicate, Nat.reduceAdd, Nat.reduceSub, atI_0, atI_1, atI_2, atI_3, Bool.false_and, Bool.true_and, Bool.not_true, Bool.not_false, Bool.false_eq_true, if_false, if_true, reduceIte, Int.reduceLT, Int.reduceNeg, Nat.reduceLeDiff, Bool.or_true, Bool.true_or, Bool.true_beq, Bool.false_beq, Bool.and_true, Bool.and_false, Bool.or_false, Bool.false_or, SZ]
        exact to_nx ⟨_, _, _, _, rfl⟩
    · subst e
      have h1 : run (tabOf defs) G FF 199 141 [.tup [.int 5, .str "pick", .non]] = .ok (kdD (["truth", "number", "number"], ["number"])) := hp (b := ⟨5, "pick", .non⟩) (WB.row (by decide +kernel))
      have h2 : run (tabOf defs) G FF 199 141 [.tup [.int 9, .str "group", .tup [.tup [], .tup [], .tup [.tup [], .tup []]]]] = .ok (kdD ([], [])) := by
        refine hp (b := ⟨9, "group", grp [] [] ⟨[], []⟩⟩) (.inr ⟨rfl, [], [], ⟨[], []⟩, fun _ => ([], []), rfl, ?_, ?_, ?_, ?_, rfl⟩)
        · exact List.nodup_nil
        · exact fun _ h => by cases h
        · exact fun _ h => by cases h
        · exact fun _ h => by cases h
      have c1 : D.cmD .ne (kdD (["truth", "number", "number"], ["number"])) (.tup [.tup [.str "truth", .str "number", .str "number"], .tup [.str "number"]]) = .ok false := by kernel_rfl
      have c2 : D.cmD .eq (kdD ([], [])) (.tup [.tup [], .tup []]) = .ok true := by kernel_rfl
      simp only [g0, gS, x_v, x_k, x_tup, x_lst, x_dct, x_op, x_cmp, x_chn, chn_t, chn_f, sel_t, sel_f, and_t, and_f, or_t, or_f, x_and, x_or, x_not, neg_int, x_neg, x_ite, x_ix, gD_int, gD_str, x_g, gin_str, gix_dct, gin_dct, x_gix, x_gin, slA_int, slB_int, slC_int, x_slA, x_slB, slCX_int, x_slC, rev_lst, x_rev, x_call, x_bi, x_mt, mtX_index, mtX_get, mt_index, mt_get, x_lc, lcB_f, lcG_at, lcC_s, lcR_f, lcR_t, lcR_m, z_nil, z_cons, c_nil, cnd_t, cnd_f, cnd_nil, c_cons, s_nil, s_cons, s_set, s_setI, s_setM, setM_nil, setM_dct, opt_s, tp_tup, s_tp, q_nil, q_cons, t_nm, t_tp, appX_l, s_app, extX_l, s_ext, popX_c, s_pop, s_put, s_ex, iteS_t, iteS_f, s_ite, for_f, s_for, wh_at, s_while, s_ret, s_retN, s_raise, s_brk, s_cont, s_pass, o_add, o_sub, o_addT, o_mul, sm_of, o_mod, o_div, th_bl, th_int, th_str, th_non, th_tup, th_lst, i_lst, i_tup, i_enL, i_enT, i_zL, i_zT, b_lenS, b_lenA, b_lenT, b_lenL, b_tupT, b_tupL, b_lstT, b_lstL, b_sorted, b_sset, b_dict, isi_s, b_isi, all_s, b_all, any_s, b_any, max_s, b_max, D.isTys, D.isTy, ixT, ixL, ixA, cm_int, cm_str, cm_bl, cm_nint, cm_nstr, cm_nbl, cm_lt, cm_le, cm_gt, cm_ge, cm_in, cm_nin, cm_isN, cm_isI, cm_isS, cm_isB, cm_isT, cm_isL, cm_snN, cm_snI, cm_snS, cm_snB, cm_snT, cm_snL, e_rt, e_nx, e_exc, w_nil, w_cons, List.map_cons, List.map_nil, List.length_cons, List.length_nil, List.cons_append, List.nil_append, List.append_nil, List.getElem?_cons_zero, List.getElem?_cons_succ, List.getElem?_nil, List.set_cons_zero, List.set_cons_succ, r_b, r_be, r_x, r_t, r_te, n_nx, n_rt, n_bk, n_ct, n_exc, u_nx, u_ct, u_bk, u_rt, u_exc, startE, List.replicate, Nat.reduceAdd, Nat.reduceSub, atI_0, atI_1, atI_2, atI_3, Bool.false_and, Bool.true_and, Bool.not_true, Bool.not_false, Bool.false_eq_true, if_false, if_true, reduceIte, Int.reduceLT, Int.reduceNeg, Nat.reduceLeDiff, Bool.or_true, Bool.true_or, Bool.true_beq, Bool.false_beq, Bool.and_true, Bool.and_false, Bool.or_false, Bool.false_or, SZ, h1, h2, c1, c2]
end K01
theorem PySem.Challenge.cw_boxwire_k01_ports_holds : PySem.Challenge.rw_boxwire_k01_ports.Holds :=
  K01.holds_of fun ns _ => K01.law_true ns

