import PyProof.Rows.All
import HandS.ForMost
import KE.SortData
import HandS.ForExc
import HandS.Deep
import HandS.Wide
import HandS.CallSlots
import HandS.TryMany
import HandS.Flow
import HandS.Style
import HandS.Conv
import HandS.IsInst
import HandS.Codes
import HandS.RaiseMore
import HandS.TupAny
import HandS.TupMul
import HandS.SortInts
import PySem.Challenge.RW_viewkinds_k05_arrows_and_chains
set_option Elab.async false
set_option linter.all false
/-! values, syntax and the evaluator -/
namespace VK
open PySem

/-- deep values -/
inductive D where
  | non | bl (b : Bool) | int (i : Int) | str (s : Str)
  | tup (xs : List D) | lst (xs : List D)
  | dic (kvs : List (D × D)) | set (xs : List D)
  | fn (f : Nat) | exc (c : Nat) (fs : List D)
  deriving Inhabited

abbrev Env := List (Option D)

inductive Op where
  | add | sub | mul | fdiv | mod | band | bor | shl | shr | pow | rep
  deriving DecidableEq
inductive Cm where
  | eq | ne | lt | le | gt | ge | isN | notN | inn | notin
  deriving DecidableEq
/-- built-in functions; Ty: the classes that isinstance asks for -/
inductive Ty where
  | int | bool | str | tuple | list | dict | cls (c : Nat)
  deriving DecidableEq
inductive Pr where
  | len | tuple | list | sorted | set | dict | sum | max | min | max2 | min2 | abs | int | str | all | any | isi (ts : List Ty) | repr
  deriving DecidableEq
inductive Me where
  | index | split | join | get1 | get2 | count | partition | values | items | replace
  deriving DecidableEq
inductive Mu where
  | append | extend | pop | popAt | remove
  deriving DecidableEq

mutual
inductive Tg where
  | nm (i : Nat) | tp (ts : Tgs)
inductive Tgs where
  | nil | cons (t : Tg) (ts : Tgs)
end

mutual
inductive E where
  | c (d : D) | v (i : Nat)
  | op (o : Op) (a b : E) | neg (a : E) | inv (a : E) | not (a : E) | and (a b : E) | or (a b : E)
  | cmp (o : Cm) (a b : E) | ch (o1 o2 : Cm) (a b c : E)
  | ite (c a b : E)
  | tup (es : Es) | lst (es : Es) | dic (kvs : Es)
  | sub (a i : E) | sl (a lo hi : E) | rev (a : E) | none | ai (a : E)
  | call (f : Nat) (args : As) | callv (f : E) (args : As)
  | pr (p : Pr) (args : Es) | lrg (tup : Bool) (it : It)
  | me (m : Me) (r : E) (args : Es)
  | mu0 (m : Mu) (x : Nat) (args : Es)
  | mu1 (m : Mu) (x : Nat) (j : E) (args : Es)
  | comp (own : List Nat) (cl : Cl)
  | dcomp (own : List Nat) (t : Tg) (it : It) (cond k v : E)
  | exf (i : Nat) (f : Nat)
inductive Es where
  | nil | cons (e : E) (es : Es)
inductive As where
  | nil | io (i : Nat) (r : As) | val (e : E) (r : As)
inductive It where
  | e (a : E) | rg (a : E) | rg2 (a b : E) | zip (a b : E) | enum (a : E) | items (a : E)
inductive Cl where
  | last (own : List Nat) (t : Tg) (it : It) (cond elt : E)
  | more (own : List Nat) (t : Tg) (it : It) (cond : E) (r : Cl)
end

mutual
inductive S where
  | asg (t : Tg) (e : E)
  | par (ts : Tgs) (es : Es)
  | set1 (l : Bool) (x : Nat) (i : E) (e : E)
  | set2 (x : Nat) (i j : E) (e : E)
  | augI (o : Op) (x : Nat) (i : E) (e : E)
  | aug (o : Op) (x : Nat) (e : E)
  | expr (e : E)
  | ite (c : E) (a b : Ss)
  | for_ (t : Tg) (it : It) (b : Ss)
  | whl (c : E) (b : Ss)
  | ret (e : E)
  | raise (c : Nat) (args : Es)
  | tri (b : Ss) (hs : Hs)
  | pass | brk | cnt
inductive Ss where
  | nil | cons (s : S) (ss : Ss)
inductive Hs where
  | nil | cons (c : Nat) (nm : Option Nat) (b : Ss) (r : Hs)
end

inductive R (α : Type) where
  | ok (a : α) (e : Env) | exc (x : D) (e : Env) | err
  deriving Inhabited
def R.bind {α β : Type} (r : R α) (f : α → Env → R β) : R β := match r with
  | .ok a e => f a e
  | .exc x e => .exc x e
  | .err => .err
inductive CR where
  | ok (d : D) (fin : Env) | exc (x : D) (fin : Env) | err
  deriving Inhabited
inductive Fl where
  | nx (e : Env) | ret (d : D) (e : Env) | brk (e : Env) | cnt (e : Env) | exc (x : D) (e : Env) | err
  deriving Inhabited

/-! ### data -/
mutual
def toPy : D → PyData
  | .non => .none | .bl b => .bool b | .int i => .int i | .str s => .str s
  | .tup xs => .tuple (toPys xs) | .lst xs => .list (toPys xs)
  | _ => .dict []
def toPys : List D → List PyData
  | [] => []
  | x :: xs => toPy x :: toPys xs
end
def plain (d : D) : Bool := SeqAt.shaped (toPy d)
def deq (a b : D) : Bool := PyData.eqv (toPy a) (toPy b)

def SZ : Nat := 16777216

def truth : D → Option Bool
  | .non => some false | .bl b => some b | .int i => some (i != 0) | .str s => if s.length ≤ SZ then some ((s.length : Int) != 0) else none
  | .tup xs => some (!xs.isEmpty) | .lst xs => some (!xs.isEmpty)
  | _ => none

/-! order of comparable data: ints, texts, tuples of such -/
mutual
def dlt : D → D → Option Bool
  | .int a, .int b => some (decide (a < b))
  | .str a, .str b => some (decide (a.cps.toList < b.cps.toList))
  | .tup a, .tup b => dlts a b
  | _, _ => none
def dlts : List D → List D → Option Bool
  | [], [] => some false
  | [], _ :: _ => some true
  | _ :: _, [] => some false
  | x :: xs, y :: ys => if plain x && plain y then (if deq x y then dlts xs ys else dlt x y) else none
end
def dle (a b : D) : Option Bool := (dlt b a).map (!·)

def isNonD : D → Bool
  | .non => true
  | _ => false
def anyIn (x : D) : List D → Bool
  | [] => false
  | y :: ys => deq y x || anyIn x ys
def subIn (a b : Str) : Bool := !(Builtin.Str.occurrences b a 0 b.length 1).isEmpty
/-- what may be a dict's key: ints and texts -/
def isKey : D → Bool
  | .int _ => true
  | .str _ => true
  | _ => false
def memD (x : D) : D → Option Bool
  | .tup xs => if plain x && plain (.tup xs) then some (anyIn x xs) else none
  | .lst xs => if plain x && plain (.lst xs) then some (anyIn x xs) else none
  | .str b => match x with
    | .str a => some (subIn a b)
    | _ => none
  | .dic kvs => if isKey x then some (anyIn x (kvs.map (·.1))) else none
  | _ => none
/-- the order of ints, of texts -/
def ltD : D → D → Option Bool
  | .int a, .int b => some (decide (a < b))
  | .str a, .str b => some (decide (a.cps.toList < b.cps.toList))
  | _, _ => none
def ltI : D → D → Option Bool
  | .int a, .int b => some (decide (a < b))
  | _, _ => none
def cmpD (o : Cm) (a b : D) : Option D := match o with
  | .eq => if plain a && plain b then some (.bl (deq a b)) else none
  | .ne => if plain a && plain b then some (.bl (!deq a b)) else none
  | .lt => (ltD a b).map .bl
  | .gt => (ltI b a).map .bl
  | .le => (ltI b a).map fun k => .bl (!k)
  | .ge => (ltI a b).map fun k => .bl (!k)
  | .isN => if isNonD b then some (.bl (isNonD a)) else none
  | .notN => if isNonD b then some (.bl (!isNonD a)) else none
  | .inn => (memD a b).map .bl
  | .notin => (memD a b).map fun k => .bl (!k)

def repL (xs : List D) (k : Int) : List D := (List.replicate k.toNat xs).flatten
def bigMul (i j : Int) : Bool := decide (i.natAbs.log2 + j.natAbs.log2 < 1000000)
def opD (o : Op) (a b : D) : Option D := match o, a, b with
  | .add, .int i, .int j => some (.int (i + j))
  | .add, .str x, .str y => if x.length + y.length ≤ SZ then some (.str (x ++ y)) else none
  | .add, .lst x, .lst y => if x.length + y.length ≤ SZ then some (.lst (x ++ y)) else none
  | .add, .tup x, .tup y => if x.length + y.length ≤ SZ then some (.tup (x ++ y)) else none
  | .sub, .int i, .int j => some (.int (i - j))
  | .mul, .int i, .int j => if bigMul i j then some (.int (i * j)) else none
  | .rep, .lst x, .int k => if k < 1000000 ∧ -1000000 < k ∧ x.length * k.toNat ≤ SZ then some (.lst (repL x k)) else none
  | .mul, .tup x, .int k => if 2 ≤ k ∧ k ≤ 1000 ∧ x.isEmpty = false ∧ x.length ≤ 1000 then some (.tup (repL x k)) else none
  | .fdiv, .int i, .int j => if 0 < j ∧ j.natAbs.log2 < 9000 then some (.int (i / j)) else if j ≠ 0 ∧ j.natAbs < 1073741824 then some (.int (i.fdiv j)) else none
  | .mod, .int i, .int j => if 0 < j then some (.int (i % j)) else none
  | .band, .int i, .int j => some (.int (Builtin.bitAnd i j))
  | .bor, .int i, .int j => some (.int (Builtin.bitOr i j))
  | .shl, .int i, .int j => if 0 ≤ j ∧ j ≤ 1000000 ∧ i.natAbs < 2 ^ 64 then some (.int (i * 2 ^ j.toNat)) else none
  | .shr, .int i, .int j => if 0 ≤ j then some (.int (i / 2 ^ j.toNat)) else none
  | .pow, .int i, .int j => if 0 ≤ j ∧ j ≤ 1000000 ∧ i.natAbs < 2 ^ 64 then some (.int (i ^ j.toNat)) else none
  | _, _, _ => none

/-- what op= does: ints, texts -/
def augD (o : Op) (a b : D) : Option D := match o, a, b with
  | .add, .int i, .int j => some (.int (i + j))
  | .sub, .int i, .int j => some (.int (i - j))
  | .mul, .int i, .int j => if (-(2 ^ 64) < i ∧ i < 2 ^ 64) ∨ (-(2 ^ 64) < j ∧ j < 2 ^ 64) then some (.int (i * j)) else none
  | .fdiv, .int i, .int j => if 0 < j ∧ j < 1073741824 then some (.int (i / j)) else none
  | .mod, .int i, .int j => if 0 < j then some (.int (i % j)) else none
  | .band, .int i, .int j => some (.int (Builtin.bitAnd i j))
  | .bor, .int i, .int j => some (.int (Builtin.bitOr i j))
  | .shl, .int i, .int j => if 0 ≤ j ∧ j ≤ 1000000 ∧ i.natAbs < 2 ^ 64 then some (.int (i * 2 ^ j.toNat)) else none
  | .shr, .int i, .int j => if 0 ≤ j then some (.int (i / 2 ^ j.toNat)) else none
  | .add, .str x, .str y => if x.length + y.length ≤ SZ then some (.str (x ++ y)) else none
  | _, _, _ => none
def itemsOf : D → Option (List D)
  | .tup xs => some xs | .lst xs => some xs
  | .str s => some (s.cps.toList.map fun c => .str ⟨#[c]⟩)
  | _ => none
def seqOf : D → Option (List D)
  | .tup xs => some xs | .lst xs => some xs
  | _ => none
def lookD (k : D) : List (D × D) → Option D
  | [] => none
  | (a, b) :: r => if deq a k then some b else lookD k r
def putD (k v : D) (kvs : List (D × D)) : List (D × D) :=
  if (kvs.any fun kv => deq kv.1 k) = true then kvs.map (fun kv => if deq kv.1 k = true then (kv.1, v) else kv) else kvs ++ [(k, v)]
/-- the place that an index means -/
def ixD (n : Nat) (i : Int) : Option Nat := L2.ixN n i
def subD (a i : D) : Option D := match a, i with
  | .tup xs, .int k => L2.atI xs k
  | .lst xs, .int k => L2.atI xs k
  | .str s, .int k => if s.length ≤ SZ then (L2.atI s.cps.toList k).map (fun c => .str ⟨#[c]⟩) else none
  | .dic kvs, k => if isKey k then lookD k kvs else none
  | _, _ => none
def partD : D → Option (Option Int)
  | .non => some none
  | .int i => some (some i)
  | _ => none
def cutL {α : Type} (xs : List α) (lo hi : Option Int) : List α := (xs.drop (HT.sIx xs.length 0 lo)).take (HT.sIx xs.length xs.length hi - HT.sIx xs.length 0 lo)
def slD (a lo hi : D) : Option D := do
  let l ← partD lo
  let h ← partD hi
  match a with
  | .tup xs => some (.tup (cutL xs l h))
  | .lst xs => some (.lst (cutL xs l h))
  | .str s => if s.length ≤ SZ then some (.str ⟨(cutL s.cps.toList l h).toArray⟩) else none
  | _ => none
def revD : D → Option D
  | .lst xs => some (.lst xs.reverse)
  | _ => none

/-! ### sorting (stable insertion) -/
def insD (x : D) : List D → Option (List D)
  | [] => some [x]
  | y :: ys => do
    if (← dlt x y) then some (x :: y :: ys) else do
      let r ← insD x ys
      some (y :: r)
def sortD : List D → Option (List D)
  | [] => some []
  | x :: xs => do insD x (← sortD xs)
/-- the latest item is put in first: an insertion from the right, ahead of equal ones -/
def insL (x : D) : List D → Option (List D)
  | [] => some [x]
  | y :: ys => do
    if (← dlt y x) then do
      let r ← insL x ys
      some (y :: r)
    else some (x :: y :: ys)
def sortedD : List D → Option (List D)
  | [] => some []
  | x :: xs => do insL x (← sortedD xs)
def uniqD : List D → List D
  | [] => []
  | x :: xs => x :: (uniqD xs).filter fun y => !deq x y
def extD (less : D → D → Option Bool) : D → List D → Option D
  | b, [] => some b
  | b, x :: xs => do if (← less b x) then extD less x xs else extD less b xs
def sumD : List D → Option Int
  | [] => some 0
  | .int i :: xs => (sumD xs).map (i + ·)
  | .bl b :: xs => (sumD xs).map ((if b then 1 else 0) + ·)
  | _ :: _ => none
def boolsD : List D → Option (List Bool)
  | [] => some []
  | x :: xs => do (← truth x) :: (← boolsD xs)
def isTy (sup : Nat → Nat → Bool) (d : D) : Ty → Bool
  | .int => match d with | .int _ | .bl _ => true | _ => false
  | .bool => match d with | .bl _ => true | _ => false
  | .str => match d with | .str _ => true | _ => false
  | .tuple => match d with | .tup _ => true | _ => false
  | .list => match d with | .lst _ => true | _ => false
  | .dict => match d with | .dic _ => true | _ => false
  | .cls c => match d with | .exc e _ => sup e c | _ => false
def typed : D → Bool
  | .fn _ => false
  | .set _ => false
  | .exc _ _ => false
  | _ => true
/-- all of them ints, bools, texts -/
def intsD : List D → Option (List Int)
  | [] => some []
  | .int i :: xs => (intsD xs).map (i :: ·)
  | _ :: _ => none
def blsD : List D → Option (List Bool)
  | [] => some []
  | .bl i :: xs => (blsD xs).map (i :: ·)
  | _ :: _ => none
def listOf : D → Option (List D)
  | .lst xs => some xs
  | _ => none
/-- an insertion, for ints -/
def insI (x : Int) : List Int → List Int
  | [] => [x]
  | y :: ys => if x ≤ y then x :: y :: ys else y :: insI x ys
def sortI : List Int → List Int
  | [] => []
  | x :: xs => insI x (sortI xs)
def maxI : Int → List Int → Int
  | b, [] => b
  | b, x :: xs => maxI (if b < x then x else b) xs
def minI : Int → List Int → Int
  | b, [] => b
  | b, x :: xs => minI (if x < b then x else b) xs
/-- an insertion that keeps equal ones in their order -/
def insA {α : Type} (le : α → α → Bool) (x : α) : List α → List α
  | [] => [x]
  | y :: ys => if le x y then x :: y :: ys else y :: insA le x ys
def sortA {α : Type} (le : α → α → Bool) : List α → List α
  | [] => []
  | x :: xs => insA le x (sortA le xs)
def leD (a b : D) : Bool := !PySem.W.dataLt (toPy b) (toPy a)
def tupB : D → Bool
  | .tup (_ :: _) => true
  | _ => false
def atomB : D → Bool
  | .int _ => true | .str _ => true | .bl _ => true | .lst _ => true
  | _ => false
/-- what sorted takes: plain data that compare with each other -/
def okS (xs : List D) : Bool := decide (xs.length ≤ SZ) && (xs.all fun x => plain x && decide ((toPy x).depth ≤ 60) && xs.all fun y => PySem.W.alike (toPy x) (toPy y)) && (xs.all tupB || xs.all atomB)
def primD (sup : Nat → Nat → Bool) (p : Pr) (args : List D) : Option D := match p, args with
  | .len, [.tup xs] => some (.int xs.length)
  | .len, [.lst xs] => some (.int xs.length)
  | .len, [.str s] => if s.length ≤ SZ then some (.int s.length) else none
  | .tuple, [.tup xs] => some (.tup xs)
  | .tuple, [.lst xs] => some (.tup xs)
  | .list, [.tup xs] => some (.lst xs)
  | .list, [.lst xs] => some (.lst xs)
  | .sorted, [.lst xs] => if okS xs then some (.lst (sortA leD xs)) else none
  | .sorted, [.tup xs] => if okS xs then some (.lst (sortA leD xs)) else none
  | .sum, [.lst xs] => (intsD xs).map fun ns => .int ns.sum
  | .max, [.lst xs] => (intsD xs).bind fun ns => match ns with
    | [] => none
    | n :: ns => some (.int (maxI n ns))
  | .min, [.lst xs] => (intsD xs).bind fun ns => match ns with
    | [] => none
    | n :: ns => some (.int (minI n ns))
  | .max2, [.int a, .int b] => some (.int (if b > a then b else a))
  | .min2, [.int a, .int b] => some (.int (if b < a then b else a))
  | .abs, [.int i] => some (.int (if i < 0 then -i else i))
  | .int, [.int i] => some (.int i)
  | .int, [.bl b] => some (.int (if b then 1 else 0))
  | .int, [.str s] => if s.length ≤ 640 then (intText? s).map .int else none
  | .str, [.int i] => if i.natAbs.log2 < 1920 then some (.str (toString i)) else none
  | .str, [.str s] => some (.str s)
  | .all, [.lst xs] => (blsD xs).map fun bs => .bl (bs.all id)
  | .any, [.lst xs] => (blsD xs).map fun bs => .bl (bs.any id)
  | .isi ts, [x] => if typed x then some (.bl (ts.any (isTy sup x))) else none
  | _, _ => none

def strsD : List D → Option (List Str)
  | [] => some []
  | .str s :: xs => (strsD xs).map (s :: ·)
  | _ :: _ => none
def findIx (x : D) : List D → Option Nat
  | [] => none
  | y :: ys => if deq y x then some 0 else (findIx x ys).map (· + 1)
def countIn (x : D) : List D → Nat
  | [] => 0
  | y :: ys => (if deq y x then 1 else 0) + countIn x ys
def methD (m : Me) (r : D) (args : List D) : Option D := match m, r, args with
  | .index, .lst xs, [x] => if plain x && plain (.lst xs) then (findIx x xs).map fun (n : Nat) => D.int (n : Int) else none
  | .split, .str a, [.str b] => if b.length ≠ 0 ∧ a.length + 2 ≤ SZ then some (.lst ((Txt.split a b).map .str)) else none
  | .partition, .str a, [.str b] => if b.length ≠ 0 ∧ a.length ≤ SZ then some (match Txt.partition a b with | (x, y, z) => .tup [.str x, .str y, .str z]) else none
  | .join, .str a, [x] => do
    let ys ← strsD (← seqOf x)
    if (ys.map (·.length)).sum + ys.length * a.length ≤ 16777216 then some (.str (Txt.join a ys)) else none
  | .get1, .dic kvs, [k] => if isKey k then some ((lookD k kvs).getD .non) else none
  | .get2, .dic kvs, [k, z] => if isKey k then some ((lookD k kvs).getD z) else none
  | _, _, _ => none
/-- whose method it is -/
def recvD : Me → D → Bool
  | .index, .lst _ => true
  | .split, .str _ => true
  | .partition, .str _ => true
  | .join, .str _ => true
  | .get1, .dic _ => true
  | .get2, .dic _ => true
  | _, _ => false
/-- a method that changes a list: the answer, the list behind -/
def mutD (m : Mu) (r : D) (args : List D) : Option (D × D) := match m, r, args with
  | .append, .lst xs, [x] => if xs.length < SZ then some (.non, .lst (xs ++ [x])) else none
  | .extend, .lst xs, [.lst ys] => if xs.length + ys.length ≤ SZ then some (.non, .lst (xs ++ ys)) else none
  | .pop, .lst xs, [] => (xs[xs.length - 1]?).map fun x => (x, .lst xs.dropLast)
  | .popAt, .lst xs, [.int i] => if -(2 ^ 63) ≤ i ∧ i < 2 ^ 63 then (ixD xs.length i).bind fun k => (xs[k]?).map fun x => (x, .lst (xs.eraseIdx k)) else none
  | _, _, _ => none

/-- x[i] = new -/
def setIt (d i new : D) : Option D := match d, i with
  | .lst xs, .int k => (ixD xs.length k).map fun j => .lst (xs.set j new)
  | .dic kvs, k => if isKey k ∧ kvs.length < SZ then some (.dic (putD k new kvs)) else none
  | _, _ => none
def isLst : D → Bool
  | .lst _ => true
  | _ => false

/-! ### names -/
def getV (i : Nat) (e : Env) : Option D := (e[i]?).bind id
mutual
def bindT : Tg → D → Env → Option Env
  | .nm i, d, e => if i < e.length then some (e.set i (some d)) else none
  | .tp ts, d, e => do bindTs ts (← seqOf d) e
def bindTs : Tgs → List D → Env → Option Env
  | .nil, [], e => some e
  | .cons t ts, d :: ds, e => do bindTs ts ds (← bindT t d e)
  | _, _, _ => none
end
def wipe (own : List Nat) (e : Env) : Env := own.foldr (fun i e => e.set i none) e
def back (own : List Nat) (e₀ e : Env) : Env := own.foldr (fun i e => e.set i ((e₀[i]?).getD none)) e

def liftO {α : Type} (o : Option α) (e : Env) : R α := match o with
  | some a => .ok a e
  | none => .err
/-- a comprehension's turns: f gives the items that the turn adds -/
def turns (f : D → Env → R (List D)) : List D → Env → R (List D)
  | [], e => .ok [] e
  | x :: xs, e => (f x e).bind fun ys e1 => (turns f xs e1).bind fun zs e2 => .ok (ys ++ zs) e2
def turnsD (f : D → Env → R (List (D × D))) : List D → Env → R (List (D × D))
  | [], e => .ok [] e
  | x :: xs, e => (f x e).bind fun ys e1 => (turnsD f xs e1).bind fun zs e2 => .ok (ys ++ zs) e2
/-- nothing is raised within -/
def noExc {α : Type} (r : R α) : R α := match r with
  | .exc _ _ => .err
  | r => r
def fits (r : R (List D)) : R (List D) := match r with
  | .ok xs e => if xs.length ≤ SZ then .ok xs e else .err
  | r => r

structure Tab where
  call : Nat → List D → CR
  sup : Nat → Nat → Bool
  wf : Nat

def gatherA : As → List D → Env → Option (List D)
  | .nil, _, _ => some []
  | .io i r, ds, e => do
    let d ← getV i e
    let m ← gatherA r ds e
    some (d :: m)
  | .val _ r, d :: ds, e => do
    let m ← gatherA r ds e
    some (d :: m)
  | .val _ _, [], _ => none
def putA : As → Env → Env → Env
  | .io i r, f :: fs, e => putA r fs (e.set i f)
  | .val _ r, _ :: fs, e => putA r fs e
  | _, _, e => e
def dropA : As → Env → Env
  | .io i r, e => dropA r (e.set i none)
  | .val _ r, e => dropA r e
  | .nil, e => e
def callR (T : Tab) (f : Nat) (args : As) (ds : List D) (e : Env) : R D := match gatherA args ds e with
  | none => .err
  | some vs => match T.call f vs with
    | .ok d fin => .ok d (putA args fin (dropA args e))
    | .exc x _ => .exc x (dropA args e)
    | .err => .err

def rangeL (lo hi : Int) : List D := (List.range (hi - lo).toNat).map fun k => .int (lo + (k : Nat))
def zipL : List D → List D → List D
  | x :: xs, y :: ys => .tup [x, y] :: zipL xs ys
  | _, _ => []
def zipD : D → D → Option (List D)
  | .lst xs, .lst ys => some (zipL xs ys)
  | .tup xs, .tup ys => some (zipL xs ys)
  | _, _ => none
def enumL : Nat → List D → List D
  | _, [] => []
  | k, x :: xs => .tup [.int k, x] :: enumL (k + 1) xs
def pairsD : List D → Option (List (D × D))
  | [] => some []
  | k :: v :: r => (pairsD r).map ((k, v) :: ·)
  | _ => none
def rgOk (lo hi : Int) : Bool := decide (-1000000000 ≤ lo ∧ lo < 1000000000 ∧ -1000000000 ≤ hi ∧ hi < 1000000000)

def tr (f : Env → R D) (env : Env) : R Bool := (f env).bind fun x e1 => liftO (truth x) e1
/-- a turn of a comprehension -/
def turnR (own : List Nat) (t : Tg) (fc : Env → R Bool) (fe : Env → R (List D)) (x : D) (e2 : Env) : R (List D) := match bindT t x (wipe own e2) with
  | none => .err
  | some e3 => (fc e3).bind fun b e4 => if b then fe e4 else .ok [] e4
def eltR (fe : Env → R D) (e : Env) : R (List D) := (fe e).bind fun y e5 => .ok [y] e5
def compR (own : List Nat) (t : Tg) (fi : Env → R (List D)) (fc : Env → R Bool) (fe : Env → R (List D)) (e : Env) : R D :=
  (fi e).bind fun xs e1 => (fits (noExc (turns (turnR own t fc fe) xs e1))).bind fun ys e2 => .ok (.lst ys) (back own e1 e2)
def clR (own : List Nat) (t : Tg) (fi : Env → R (List D)) (fc : Env → R Bool) (fe : Env → R (List D)) (e : Env) : R (List D) :=
  (fi e).bind fun xs e1 => turns (turnR own t fc fe) xs e1
def callvR (cr : Nat → As → List D → Env → R D) (ff : Env → R D) (args : As) (fs : Env → R (List D)) (e : Env) : R D := (ff e).bind fun x e0 => match x with
  | .fn g => (fs e0).bind fun ds e1 => cr g args ds e1
  | _ => .err
def mu0R (m : Mu) (x : Nat) (fs : Env → R (List D)) (e : Env) : R D := match getV x e with
  | some (.lst _) => (fs e).bind fun xs e1 => match getV x e1 with
    | some d => match mutD m d xs with
      | some ar => .ok ar.1 (e1.set x (some ar.2))
      | none => .err
    | none => .err
  | _ => .err
mutual
def ev (T : Tab) : E → Env → R D
  | .c d, e => .ok d e
  | .v i, e => liftO (getV i e) e
  | .op o a b, e => (ev T a e).bind fun x e1 => (ev T b e1).bind fun y e2 => liftO (opD o x y) e2
  | .neg a, e => (ev T a e).bind fun x e1 => match x with
    | .int i => .ok (.int (-i)) e1
    | _ => .err
  | .inv a, e => (ev T a e).bind fun x e1 => match x with
    | .int i => .ok (.int (Builtin.bitNot i)) e1
    | _ => .err
  | .not a, e => (ev T a e).bind fun x e1 => liftO ((truth x).map fun k => .bl (!k)) e1
  | .and a b, e => (ev T a e).bind fun x e1 => match truth x with
    | some true => ev T b e1
    | some false => .ok x e1
    | none => .err
  | .or a b, e => (ev T a e).bind fun x e1 => match truth x with
    | some true => .ok x e1
    | some false => ev T b e1
    | none => .err
  | .cmp o a b, e => (ev T a e).bind fun x e1 => (ev T b e1).bind fun y e2 => liftO (cmpD o x y) e2
  | .ch o1 o2 a b c, e => (ev T a e).bind fun x e1 => (ev T b e1).bind fun y e2 => match cmpD o1 x y with
    | some (.bl true) => (ev T c e2).bind fun z e3 => liftO (cmpD o2 y z) e3
    | some (.bl false) => .ok (.bl false) e2
    | _ => .err
  | .ite c a b, e => (ev T c e).bind fun x e1 => match truth x with
    | some true => ev T a e1
    | some false => ev T b e1
    | none => .err
  | .tup es, e => (evs T es e).bind fun xs e1 => .ok (.tup xs) e1
  | .lst es, e => (evs T es e).bind fun xs e1 => .ok (.lst xs) e1
  | .dic es, e => (evs T es e).bind fun xs e1 => match pairsD xs with
    | some kvs => if kvs.all (fun kv => isKey kv.1) && decide (kvs.length ≤ 15) then .ok (.dic (kvs.foldl (fun acc kv => putD kv.1 kv.2 acc) [])) e1 else .err
    | none => .err
  | .sub a i, e => (ev T a e).bind fun x e1 => (ev T i e1).bind fun y e2 => liftO (subD x y) e2
  | .sl a lo hi, e => (ev T a e).bind fun x e1 => (ev T lo e1).bind fun l e2 => (ev T hi e2).bind fun h e3 => liftO (slD x l h) e3
  | .rev a, e => (ev T a e).bind fun x e1 => liftO (revD x) e1
  | .none, e => .ok .non e
  | .ai a, e => (ev T a e).bind fun x e1 => match x with
    | .int i => .ok (.int i) e1
    | _ => .err
  | .call f args, e => (evA T args e).bind fun ds e1 => callR T f args ds e1
  | .callv f args, e => callvR (callR T) (ev T f) args (evA T args) e
  | .pr p es, e => (evs T es e).bind fun xs e1 => liftO (primD T.sup p xs) e1
  | .lrg tup it, e => (evI T it e).bind fun xs e1 => if xs.length ≤ SZ then .ok (if tup then .tup xs else .lst xs) e1 else .err
  | .me m r es, e => (ev T r e).bind fun x e0 => if recvD m x then (evs T es e0).bind fun xs e1 => liftO (methD m x xs) e1 else .err
  | .mu0 m x es, e => mu0R m x (evs T es) e
  | .mu1 m x j es, e => match getV x e with
    | some _ => (ev T j e).bind fun jd e0 => match getV x e0 with
      | some (.lst ds) => match subD (.lst ds) jd with
        | some (.lst _) => (evs T es e0).bind fun xs e1 => match getV x e1 with
          | some d => match subD d jd with
            | some r => match mutD m r xs with
              | some ar => match setIt d jd ar.2 with
                | some d' => .ok ar.1 (e1.set x (some d'))
                | none => .err
              | none => .err
            | none => .err
          | none => .err
        | _ => .err
      | _ => .err
    | none => .err
  | .comp own (.last _ t it cond elt), e => compR own t (evI T it) (tr (ev T cond)) (eltR (ev T elt)) e
  | .comp own (.more _ t it cond r), e => compR own t (evI T it) (tr (ev T cond)) (evC T r) e
  | .dcomp own t it cond k v, e => (noExc ((evI T it e).bind fun xs e1 => turnsD (fun x e2 => match bindT t x (wipe own e2) with
      | none => .err
      | some e3 => (ev T cond e3).bind fun c e4 => match truth c with
        | some true => (ev T k e4).bind fun kd e5 => (ev T v e5).bind fun vd e6 => if isKey kd then .ok [(kd, vd)] e6 else .err
        | some false => .ok [] e4
        | none => .err) xs e1)).bind fun kvs e1 => if kvs.length ≤ SZ then .ok (.dic (kvs.foldl (fun acc kv => putD kv.1 kv.2 acc) [])) (back own e e1) else .err
  | .exf i f, e => match getV i e with
    | some (.exc _ fs) => liftO (fs[f]?) e
    | _ => .err
def evs (T : Tab) : Es → Env → R (List D)
  | .nil, e => .ok [] e
  | .cons a es, e => (ev T a e).bind fun x e1 => (evs T es e1).bind fun xs e2 => .ok (x :: xs) e2
def evA (T : Tab) : As → Env → R (List D)
  | .nil, e => .ok [] e
  | .io i r, e => match getV i e with
    | some _ => evA T r e
    | none => .err
  | .val a r, e => (ev T a e).bind fun x e1 => (evA T r e1).bind fun xs e2 => .ok (x :: xs) e2
def evI (T : Tab) : It → Env → R (List D)
  | .e a, e => (ev T a e).bind fun x e1 => liftO (itemsOf x) e1
  | .rg a, e => (ev T a e).bind fun x e1 => match x with
    | .int n => if rgOk 0 n then .ok (rangeL 0 n) e1 else .err
    | _ => .err
  | .rg2 a b, e => (ev T a e).bind fun x e1 => (ev T b e1).bind fun y e2 => match x, y with
    | .int m, .int n => if rgOk m n then .ok (rangeL m n) e2 else .err
    | _, _ => .err
  | .zip a b, e => (ev T a e).bind fun x e1 => (ev T b e1).bind fun y e2 => liftO (zipD x y) e2
  | .enum a, e => (ev T a e).bind fun x e1 => match x with
    | .lst xs => .ok (enumL 0 xs) e1
    | _ => .err
  | .items a, e => (ev T a e).bind fun x e1 => match x with
    | .dic kvs => .ok (kvs.map fun kv => .tup [kv.1, kv.2]) e1
    | _ => .err
def evC (T : Tab) : Cl → Env → R (List D)
  | .last own t it cond elt, e => clR own t (evI T it) (tr (ev T cond)) (eltR (ev T elt)) e
  | .more own t it cond r, e => clR own t (evI T it) (tr (ev T cond)) (evC T r) e
end

/-! ### statements -/
def ofR {α : Type} (r : R α) (f : α → Env → Fl) : Fl := match r with
  | .ok a e => f a e
  | .exc x e => .exc x e
  | .err => .err
def Fl.next (f : Fl) (g : Env → Fl) : Fl := match f with
  | .nx e => g e
  | f => f
def forL (f : D → Env → Fl) : List D → Env → Fl
  | [], e => .nx e
  | x :: xs, e => match f x e with
    | .nx e1 => forL f xs e1
    | .cnt e1 => forL f xs e1
    | .brk e1 => .nx e1
    | r => r
def whlL (c : Env → R Bool) (b : Env → Fl) : Nat → Env → Fl
  | 0, _ => .err
  | n + 1, e => ofR (c e) fun k e1 => if k then (match b e1 with
    | .nx e2 => whlL c b n e2
    | .cnt e2 => whlL c b n e2
    | .brk e2 => .nx e2
    | r => r) else .nx e1

mutual
def ex (T : Tab) : S → Env → Fl
  | .asg t a, e => ofR (ev T a e) fun x e1 => match bindT t x e1 with
    | some e2 => .nx e2
    | none => .err
  | .par ts es, e => ofR (evs T es e) fun xs e1 => match bindTs ts xs e1 with
    | some e2 => .nx e2
    | none => .err
  | .set1 l x i a, e => ofR (ev T a e) fun y e1 => match getV x e1 with
    | none => .err
    | some _ => ofR (ev T i e1) fun j e2 => match getV x e2 with
      | none => .err
      | some d => if l && !isLst d then .err else match setIt d j y with
        | none => .err
        | some d' => .nx (e2.set x (some d'))
  | .set2 x i j a, e => ofR (ev T a e) fun y e1 => match getV x e1 with
    | none => .err
    | some _ => ofR (ev T i e1) fun i1 e2 => match getV x e2 with
      | some (.lst ds) => match subD (.lst ds) i1 with
        | some (.lst _) => ofR (ev T j e2) fun j1 e3 => match getV x e3 with
          | none => .err
          | some d => match subD d i1 with
            | none => .err
            | some r => match setIt r j1 y with
              | none => .err
              | some r' => match setIt d i1 r' with
                | none => .err
                | some d' => .nx (e3.set x (some d'))
        | _ => .err
      | _ => .err
  | .augI o x i a, e => match getV x e with
    | none => .err
    | some _ => ofR (ev T i e) fun j e1 => match getV x e1 with
      | none => .err
      | some d => match subD d j with
        | none => .err
        | some old => ofR (ev T a e1) fun y e2 => match augD o old y with
          | none => .err
          | some z => match setIt d j z with
            | none => .err
            | some d3 => .nx (e2.set x (some d3))
  | .aug o x a, e => match getV x e with
    | none => .err
    | some old => ofR (ev T a e) fun y e1 => match augD o old y with
      | none => .err
      | some z => .nx (e1.set x (some z))
  | .expr a, e => ofR (ev T a e) fun _ e1 => .nx e1
  | .ite c a b, e => ofR (tr (ev T c) e) fun k e1 => if k then exs T a e1 else exs T b e1
  | .for_ t it b, e => ofR (evI T it e) fun xs e1 => forL (fun x e2 => match bindT t x e2 with
    | some e3 => exs T b e3
    | none => .err) xs e1
  | .whl c b, e => whlL (tr (ev T c)) (exs T b) T.wf e
  | .ret a, e => ofR (ev T a e) fun x e1 => .ret x e1
  | .raise c es, e => ofR (evs T es e) fun xs e1 => .exc (.exc c xs) e1
  | .tri b hs, e => match exs T b e with
    | .exc x e1 => exh T hs x e1
    | r => r
  | .pass, e => .nx e
  | .brk, e => .brk e
  | .cnt, e => .cnt e
def exs (T : Tab) : Ss → Env → Fl
  | .nil, e => .nx e
  | .cons s ss, e => (ex T s e).next fun e1 => exs T ss e1
def exh (T : Tab) : Hs → D → Env → Fl
  | .nil, x, e => .exc x e
  | .cons c nm b r, x, e => match x with
    | .exc k _ => if T.sup k c then (match nm with
        | none => exs T b e
        | some i => match exs T b (e.set i (some x)) with
          | .nx e1 => .nx (e1.set i none)
          | .brk e1 => .brk (e1.set i none)
          | .cnt e1 => .cnt (e1.set i none)
          | r => r) else exh T r x e
    | _ => .err
end

/-- a def: parameters first among its slots -/
structure Fn where
  np : Nat
  ns : Nat
  body : Ss
structure Prog where
  fns : List Fn
  sup : Nat → Nat → Bool
  wf : Nat
def start (f : Fn) (ds : List D) : Env := ds.map some ++ List.replicate (f.ns - ds.length) none
def runFn (T : Tab) (f : Fn) (ds : List D) : CR := if ds.length = f.np then (match exs T f.body (start f ds) with
  | .nx e => .ok .non (e.take f.np)
  | .ret d e => .ok d (e.take f.np)
  | .exc x e => .exc x (e.take f.np)
  | _ => .err) else .err
def callN (P : Prog) : Nat → Nat → List D → CR
  | 0, _, _ => .err
  | n + 1, f, ds => match P.fns[f]? with
    | none => .err
    | some fn => runFn ⟨callN P n, P.sup, P.wf⟩ fn ds
end VK
set_option Elab.async false
set_option linter.all false
/-! the program's text, read into the small syntax -/
namespace VK
open PySem

/-- what a global name of the module means -/
inductive GV where
  | fn (i : Nat) (io : List Bool) | cls (c : Nat) | cst (d : D)
  deriving Inhabited
structure Ctx where
  N : List Str
  G : List (Str × GV)
  sc : Scope
  deep : List Nat := []
def ixOf (x : Str) : List Str → Option Nat
  | [] => none
  | y :: ys => if x = y then some 0 else (ixOf x ys).map (· + 1)
abbrev X (α : Type) := Except Unit α
def no {α : Type} : X α := .error ()
def ofO {α : Type} : Option α → X α
  | some a => .ok a
  | none => no
def isLoc (Γ : Ctx) (x : Str) : Bool := match Γ.sc.names.lookup x with
  | some .local => true | some .cell => true | some .free => true
  | _ => false
def slot (Γ : Ctx) (x : Str) : X Nat := if isLoc Γ x then ofO (ixOf x Γ.N) else no
/-- a built-in name that the module does not bind -/
def isBlt (Γ : Ctx) (x : Str) : Bool := !isLoc Γ x && (Γ.G.lookup x).isNone && (Γ.sc.names.lookup x == some .globalImplicit)
def cOp : Operator → X Op
  | .Add => .ok .add | .Sub => .ok .sub | .Mult => .ok .mul | .FloorDiv => .ok .fdiv | .Mod => .ok .mod
  | .BitAnd => .ok .band | .BitOr => .ok .bor | .LShift => .ok .shl | .RShift => .ok .shr | .Pow => .ok .pow
  | _ => no
def cCm (o : CmpOp) (b : Expr) : X Cm := match o with
  | .Eq => .ok .eq | .NotEq => .ok .ne | .Lt => .ok .lt | .LtE => .ok .le | .Gt => .ok .gt | .GtE => .ok .ge
  | .In => .ok .inn | .NotIn => .ok .notin
  | .Is => match b with | .Constant .none _ _ => .ok .isN | _ => no
  | .IsNot => match b with | .Constant .none _ _ => .ok .notN | _ => no
def cTy (Γ : Ctx) : Expr → X Ty
  | .Name x _ => if isBlt Γ x then (if x = "int" then .ok .int else if x = "bool" then .ok .bool else if x = "str" then .ok .str
      else if x = "tuple" then .ok .tuple else if x = "list" then .ok .list else if x = "dict" then .ok .dict else no)
    else match Γ.G.lookup x with
      | some (.cls c) => if isLoc Γ x then no else .ok (.cls c)
      | _ => no
  | _ => no
def cTys (Γ : Ctx) : List Expr → X (List Ty)
  | [] => .ok []
  | e :: es => do
    let t ← cTy Γ e
    let ts ← cTys Γ es
    .ok (t :: ts)
def prOf (x : Str) (n : Nat) : X Pr :=
  if x = "len" ∧ n = 1 then .ok .len else if x = "tuple" ∧ n ≤ 1 then .ok .tuple else if x = "list" ∧ n = 1 then .ok .list
  else if x = "sorted" ∧ n = 1 then .ok .sorted else if x = "set" ∧ n = 1 then .ok .set else if x = "dict" ∧ n = 1 then .ok .dict
  else if x = "sum" ∧ n = 1 then .ok .sum else if x = "max" ∧ n = 1 then .ok .max else if x = "min" ∧ n = 1 then .ok .min
  else if x = "max" ∧ n = 2 then .ok .max2 else if x = "min" ∧ n = 2 then .ok .min2 else if x = "abs" ∧ n = 1 then .ok .abs
  else if x = "int" ∧ n = 1 then .ok .int else if x = "str" ∧ n = 1 then .ok .str else if x = "all" ∧ n = 1 then .ok .all
  else if x = "any" ∧ n = 1 then .ok .any else if x = "repr" ∧ n = 1 then .ok .repr else no
def meOf (x : Str) (n : Nat) : X Me :=
  if x = "index" ∧ n = 1 then .ok .index else if x = "split" ∧ n = 1 then .ok .split else if x = "join" ∧ n = 1 then .ok .join
  else if x = "get" ∧ n = 1 then .ok .get1 else if x = "get" ∧ n = 2 then .ok .get2 else if x = "count" ∧ n = 1 then .ok .count
  else if x = "partition" ∧ n = 1 then .ok .partition else if x = "values" ∧ n = 0 then .ok .values else if x = "items" ∧ n = 0 then .ok .items
  else if x = "replace" ∧ n = 2 then .ok .replace else no
def muOf (x : Str) (n : Nat) : Option Mu :=
  if x = "append" ∧ n = 1 then some .append else if x = "extend" ∧ n = 1 then some .extend else if x = "pop" ∧ n = 0 then some .pop
  else if x = "pop" ∧ n = 1 then some .popAt else if x = "remove" ∧ n = 1 then some .remove else none
def esOf : List E → Es
  | [] => .nil
  | e :: es => .cons e (esOf es)
def foldE (f : E → E → E) : List E → X E
  | [] => no
  | [e] => .ok e
  | e :: es => do
    let r ← foldE f es
    .ok (f e r)
/-- the places of a comprehension's own names -/
def ownOf (N : List Str) (sc : Scope) : X (List Nat) :=
  (sc.names.filter fun y => y.2 == .local || y.2 == .cell).mapM fun y => ofO (ixOf y.1 N)
mutual
def tgOf (Γ : Ctx) : Nat → Expr → X Tg
  | 0, _ => no
  | n + 1, .Name x _ => do
    let i ← slot Γ x
    .ok (.nm i)
  | n + 1, .Tuple es _ _ => do
    let ts ← tgsOf Γ n es
    .ok (.tp ts)
  | _, _ => no
def tgsOf (Γ : Ctx) : Nat → List Expr → X Tgs
  | 0, _ => no
  | n + 1, [] => .ok .nil
  | n + 1, e :: es => do
    let t ← tgOf Γ n e
    let ts ← tgsOf Γ n es
    .ok (.cons t ts)
end
/-- the slots that a target binds -/
def names1 : Expr → List Str
  | .Name x _ => [x]
  | .Tuple es _ _ => es.flatMap fun e => match e with
    | .Name x _ => [x]
    | .Tuple es _ _ => es.flatMap fun e => match e with
      | .Name x _ => [x]
      | _ => []
    | _ => []
  | _ => []
mutual
def cE (Γ : Ctx) : Nat → Expr → X E
  | 0, _ => no
  | n + 1, e => match e with
    | .Constant .none _ _ => .ok (.c .non)
    | .Constant (.bool b) _ _ => .ok (.c (.bl b))
    | .Constant (.int i) _ _ => .ok (.c (.int i))
    | .Constant (.str s) _ _ => .ok (.c (.str s))
    | .Name x _ => if isLoc Γ x then (do .ok (.v (← slot Γ x))) else match Γ.G.lookup x with
      | some (.fn i _) => .ok (.c (.fn i))
      | some (.cst d) => .ok (.c d)
      | _ => no
    | .BinOp (.List es _) .Mult b _ => do
      let es ← cEs Γ n es
      let b ← cE Γ n b
      .ok (.op .rep (.lst (esOf es)) b)
    | .BinOp a o b _ => do
      let o ← cOp o
      let a ← cE Γ n a
      let b ← cE Γ n b
      .ok (.op o a b)
    | .UnaryOp .USub a _ => do .ok (.neg (← cE Γ n a))
    | .UnaryOp .Invert a _ => do .ok (.inv (← cE Γ n a))
    | .UnaryOp .Not a _ => do .ok (.not (← cE Γ n a))
    | .BoolOp .And vs _ => do foldE .and (← cEs Γ n vs)
    | .BoolOp .Or vs _ => do foldE .or (← cEs Γ n vs)
    | .Compare a [o] [b] _ => do
      let o ← cCm o b
      let a ← cE Γ n a
      let b ← cE Γ n b
      .ok (.cmp o a b)
    | .Compare a [o1, o2] [b, c] _ => do
      let o1 ← cCm o1 b
      let o2 ← cCm o2 c
      let a ← cE Γ n a
      let b ← cE Γ n b
      let c ← cE Γ n c
      .ok (.ch o1 o2 a b c)
    | .IfExp c a b _ => do
      let c ← cE Γ n c
      let a ← cE Γ n a
      let b ← cE Γ n b
      .ok (.ite c a b)
    | .Tuple es _ _ => do .ok (.tup (esOf (← cEs Γ n es)))
    | .List es _ => do .ok (.lst (esOf (← cEs Γ n es)))
    | .Dict ks vs _ => do
      let kvs ← cKV Γ n ks vs
      .ok (.dic (esOf kvs))
    | .Subscript a (.Slice none none (some (.UnaryOp .USub (.Constant (.int 1) _ _) _)) _) _ => do .ok (.rev (← cE Γ n a))
    | .Subscript a (.Slice lo hi none _) _ => do
      let a ← cE Γ n a
      let lo ← cO Γ n lo
      let hi ← cO Γ n hi
      .ok (.sl a lo hi)
    | .Subscript a i _ => do
      let a ← cE Γ n a
      let i ← cE Γ n i
      .ok (.sub a i)
    | .Attribute (.Name x _) f _ => do
      let i ← slot Γ x
      if f = "at" ∨ f = "reason" then .ok (.exf i 0) else no
    | .ListComp elt gens sc _ => do
      let Γ' : Ctx := { Γ with sc := L2.relS sc Γ.sc }
      let own ← ownOf Γ.N sc
      match gens with
      | [⟨t, it, ifs, 0⟩] => do
        let it ← cI Γ n it
        let t ← tgOf Γ' 8 t
        let c ← cIfs Γ' n ifs
        let elt ← cE Γ' n elt
        .ok (.comp own (.last own t it c elt))
      | [⟨t, it, ifs, 0⟩, ⟨t1, it1, ifs1, 0⟩] => do
        let it ← cI Γ n it
        let own1 ← (names1 t1).mapM fun y => ofO (ixOf y Γ.N)
        let t ← tgOf Γ' 8 t
        let c ← cIfs Γ' n ifs
        let it1 ← cI Γ' n it1
        let t1 ← tgOf Γ' 8 t1
        let c1 ← cIfs Γ' n ifs1
        let elt ← cE Γ' n elt
        .ok (.comp own (.more own t it c (.last own1 t1 it1 c1 elt)))
      | _ => no
    | .DictComp k v gens sc _ => do
      let Γ' : Ctx := { Γ with sc := L2.relS sc Γ.sc }
      let own ← ownOf Γ.N sc
      match gens with
      | [⟨t, it, ifs, 0⟩] => do
        let it ← cI Γ n it
        let t ← tgOf Γ' 8 t
        let c ← cIfs Γ' n ifs
        let k ← cE Γ' n k
        let v ← cE Γ' n v
        .ok (.dcomp own t it c k v)
      | _ => no
    | .Call (.Name x _) [.Call (.Name y _) zs [] _] [] _ => if (x = "list" ∨ x = "tuple") ∧ (y = "range" ∨ y = "zip" ∨ y = "enumerate") ∧ isBlt Γ x = true ∧ isBlt Γ y = true then (do
          let it ← cIc Γ n y zs
          .ok (.lrg (x = "tuple") it))
        else cCall Γ n x [.Call (.Name y ⟨0, 0, 0, 0⟩) zs [] ⟨0, 0, 0, 0⟩]
    | .Call (.Name x _) es [] _ => cCall Γ n x es
    | .Call (.Attribute r m _) es [] _ => match muOf m es.length, r with
      | some k, .Name x _ => do
        let i ← slot Γ x
        let es ← cEs Γ n es
        .ok (.mu0 k i (esOf es))
      | some k, .Subscript (.Name x _) j _ => do
        let i ← slot Γ x
        let j ← cE Γ n j
        let es ← cEs Γ n es
        .ok (.mu1 k i j (esOf es))
      | some _, _ => no
      | none, _ => do
        let k ← meOf m es.length
        let r ← cE Γ n r
        let es ← cEs Γ n es
        .ok (.me k r (esOf es))
    | .Call f es [] _ => do
      let f ← cE Γ n f
      let as ← cAs Γ n es []
      .ok (.callv f as)
    | _ => no
def cEs (Γ : Ctx) : Nat → List Expr → X (List E)
  | 0, _ => no
  | n + 1, [] => .ok []
  | n + 1, e :: es => do
    let a ← cE Γ n e
    let r ← cEs Γ n es
    .ok (a :: r)
def cKV (Γ : Ctx) : Nat → List (Option Expr) → List Expr → X (List E)
  | 0, _, _ => no
  | n + 1, [], [] => .ok []
  | n + 1, some k :: ks, v :: vs => do
    let a ← cE Γ n k
    let b ← cE Γ n v
    let r ← cKV Γ n ks vs
    .ok (a :: b :: r)
  | _, _, _ => no
def cO (Γ : Ctx) : Nat → Option Expr → X E
  | 0, _ => no
  | n + 1, none => .ok .none
  | n + 1, some e => do .ok (.ai (← cE Γ n e))
def cIfs (Γ : Ctx) : Nat → List Expr → X E
  | 0, _ => no
  | n + 1, [] => .ok (.c (.bl true))
  | n + 1, [e] => cE Γ n e
  | n + 1, _ => no
def cIc (Γ : Ctx) : Nat → Str → List Expr → X It
  | 0, _, _ => no
  | n + 1, x, es => match es with
    | [a] => if x = "range" then (do .ok (.rg (← cE Γ n a))) else if x = "enumerate" then (do .ok (.enum (← cE Γ n a))) else no
    | [a, b] => if x = "range" then (do
        let a ← cE Γ n a
        let b ← cE Γ n b
        .ok (.rg2 a b))
      else if x = "zip" then (do
        let a ← cE Γ n a
        let b ← cE Γ n b
        .ok (.zip a b))
      else no
    | _ => no
def cI (Γ : Ctx) : Nat → Expr → X It
  | 0, _ => no
  | n + 1, e => match e with
    | .Call (.Name x _) es [] _ => if isBlt Γ x ∧ (x = "range" ∨ x = "zip" ∨ x = "enumerate") then cIc Γ n x es else (do .ok (.e (← cE Γ n e)))
    | .Call (.Attribute r m _) [] [] _ => if m = "items" then (do .ok (.items (← cE Γ n r))) else (do .ok (.e (← cE Γ n e)))
    | _ => do .ok (.e (← cE Γ n e))
def cAs (Γ : Ctx) : Nat → List Expr → List Bool → X As
  | 0, _, _ => no
  | n + 1, [], _ => .ok .nil
  | n + 1, e :: es, io => match e, io with
    | .Name x _, true :: io => do
      let i ← slot Γ x
      let r ← cAs Γ n es io
      .ok (.io i r)
    | e, io => do
      let a ← cE Γ n e
      let r ← cAs Γ n es io.tail
      .ok (.val a r)
def cCall (Γ : Ctx) : Nat → Str → List Expr → X E
  | 0, _, _ => no
  | n + 1, x, es => if isLoc Γ x then (do
      let i ← slot Γ x
      let as ← cAs Γ n es []
      .ok (.callv (.v i) as))
    else match Γ.G.lookup x with
    | some (.fn i io) => do
      let as ← cAs Γ n es io
      .ok (.call i as)
    | some _ => no
    | none => if isBlt Γ x = true then (if x = "isinstance" then (match es with
        | [a, .Tuple ts _ _] => do
          let a ← cE Γ n a
          let ts ← cTys Γ ts
          .ok (.pr (.isi ts) (.cons a .nil))
        | [a, t] => do
          let a ← cE Γ n a
          let t ← cTy Γ t
          .ok (.pr (.isi [t]) (.cons a .nil))
        | _ => no)
      else (do
        let p ← prOf x es.length
        let es ← cEs Γ n es
        .ok (.pr p (esOf es)))) else no
end

mutual
def cS (Γ : Ctx) : Nat → Stmt → X S
  | 0, _ => no
  | n + 1, s => match s with
    | .Pass _ => .ok .pass
    | .Break _ => .ok .brk
    | .Continue _ => .ok .cnt
    | .Expr e _ => do .ok (.expr (← cE Γ n e))
    | .Return none _ => .ok (.ret (.c .non))
    | .Return (some e) _ => do .ok (.ret (← cE Γ n e))
    | .If c a b _ => do
      let c ← cE Γ n c
      let a ← cSs Γ n a
      let b ← cSs Γ n b
      .ok (.ite c a b)
    | .While c b [] _ => do
      let c ← cE Γ n c
      let b ← cSs Γ n b
      .ok (.whl c b)
    | .For t it b [] _ => do
      let t ← tgOf Γ 8 t
      let it ← cI Γ n it
      let b ← cSs Γ n b
      .ok (.for_ t it b)
    | .Assign [.Tuple ts _ _] (.Tuple es _ _) _ => if ts.length = es.length then (do
        let ts ← tgsOf Γ 8 ts
        let es ← cEs Γ n es
        .ok (.par ts (esOf es))) else no
    | .Assign [.Subscript (.Name x _) i _] e _ => do
      let j ← slot Γ x
      let i ← cE Γ n i
      let e ← cE Γ n e
      .ok (.set1 (Γ.deep.contains j) j i e)
    | .Assign [.Subscript (.Subscript (.Name x _) i _) k _] e _ => do
      let j ← slot Γ x
      let i ← cE Γ n i
      let k ← cE Γ n k
      let e ← cE Γ n e
      .ok (.set2 j i k e)
    | .Assign [t] e _ => do
      let t ← tgOf Γ 8 t
      let e ← cE Γ n e
      .ok (.asg t e)
    | .AugAssign (.Name x _) o e _ => do
      let o ← cOp o
      let i ← slot Γ x
      let e ← cE Γ n e
      .ok (.aug o i e)
    | .AugAssign (.Subscript (.Name x _) i _) o e _ => do
      let o ← cOp o
      let j ← slot Γ x
      let i ← cE Γ n i
      let e ← cE Γ n e
      .ok (.augI o j i e)
    | .Raise (some (.Call (.Name x _) es [] _)) none _ => do
      if isLoc Γ x then no else match Γ.G.lookup x with
      | some (.cls c) => do
        let es ← cEs Γ n es
        .ok (.raise c (esOf es))
      | _ => no
    | .Try b hs [] [] _ => do
      let b ← cSs Γ n b
      let hs ← cHs Γ n hs
      .ok (.tri b hs)
    | _ => no
def cSs (Γ : Ctx) : Nat → List Stmt → X Ss
  | 0, _ => no
  | n + 1, [] => .ok .nil
  | n + 1, s :: ss => do
    let a ← cS Γ n s
    let r ← cSs Γ n ss
    .ok (.cons a r)
def cHs (Γ : Ctx) : Nat → List ExceptHandler → X Hs
  | 0, _ => no
  | n + 1, [] => .ok .nil
  | n + 1, .ExceptHandler (some (.Name x _)) nm b _ :: hs => do
    if isLoc Γ x then no else match Γ.G.lookup x with
    | some (.cls c) => do
      let i ← (match nm with
        | none => (.ok none : X (Option Nat))
        | some y => do .ok (some (← slot Γ y)))
      let b ← cSs Γ n b
      let r ← cHs Γ n hs
      .ok (.cons c i b r)
    | _ => no
  | _, _ => no
end

end VK
set_option Elab.async false
set_option linter.all false
set_option maxHeartbeats 1000000
/-! how deep values lie in the abstract heap; what one owns -/
namespace VK
open PySem PySem.Spec PyProof.Rows L2

abbrev GF := Nat → Addr → Prop

/-- a list that nothing changes any more -/
def FzL (K : PySem.W.Frag) (H : Hp) (a : Addr) (xs : List V) : Prop :=
  (∃ o, H a = some (.frz o (.lst xs))) ∨
    ∃ (o : Obj) (its : Array Value) (n : Nat), K.lookup a = some o ∧ o.cls = .type "list" ∧ o.dict = none ∧ o.data = .seq its n ∧ its.size ≤ sizeLine ∧ Vals xs its.toList
theorem FzL.sq {K : PySem.W.Frag} {H : Hp} {a : Addr} {xs : List V} (h : FzL K H a xs) : SqL K H a xs := by
  rcases h with ⟨o, h⟩ | h
  · exact .inl (.inr ⟨o, h⟩)
  · exact .inr h
/-- a key as a deep value -/
def kD : Key → D
  | .inl i => .int i
  | .inr s => .str s

mutual
inductive Rep (K : PySem.W.Frag) (g : GF) (H : Hp) : D → V → Prop
  | non : Rep K g H .non .non
  | bl (b : Bool) : Rep K g H (.bl b) (.bl b)
  | int (i : Int) : Rep K g H (.int i) (.int i)
  | str (s : Str) : Rep K g H (.str s) (.str s)
  | tup {a : Addr} {xs : List V} {ds : List D} (h : SqT K H a xs) (r : Reps K g H ds xs) : Rep K g H (.tup ds) (.ref a)
  | lst {a : Addr} {xs : List V} {ds : List D} (h : FzL K H a xs) (r : Reps K g H ds xs) : Rep K g H (.lst ds) (.ref a)
  | dic {a : Addr} {o : Obj} {kvs : List (Key × V)} {es : List (D × D)} (h : H a = some (.frz o (.dK kvs))) (r : RepK K g H es kvs) : Rep K g H (.dic es) (.ref a)
  | fn {f : Nat} {a : Addr} (h : g f a) : Rep K g H (.fn f) (.ref a)
inductive Reps (K : PySem.W.Frag) (g : GF) (H : Hp) : List D → List V → Prop
  | nil : Reps K g H [] []
  | cons {d : D} {v : V} {ds : List D} {vs : List V} (h : Rep K g H d v) (r : Reps K g H ds vs) : Reps K g H (d :: ds) (v :: vs)
inductive RepK (K : PySem.W.Frag) (g : GF) (H : Hp) : List (D × D) → List (Key × V) → Prop
  | nil : RepK K g H [] []
  | cons {k : Key} {d : D} {v : V} {es : List (D × D)} {kvs : List (Key × V)} (h : Rep K g H d v) (r : RepK K g H es kvs) : RepK K g H ((kD k, d) :: es) ((k, v) :: kvs)
end

/-- what may be changed -/
def Mu1 : HO → Prop
  | .lst _ => True
  | .dK _ => True
  | _ => False
/-- from H to H' nothing but what A has is changed -/
structure Step (A : Addr → Prop) (H H' : Hp) : Prop where
  keep : ∀ a o, H a = some o → ¬ A a → H' a = some o
  dom : ∀ a, H a ≠ none → H' a ≠ none
theorem Step.refl (A : Addr → Prop) (H : Hp) : Step A H H := ⟨fun _ _ h _ => h, fun _ h => h⟩
theorem Step.mono {A B : Addr → Prop} {H H' : Hp} (s : Step A H H') (h : ∀ a, A a → B a) : Step B H H' := ⟨fun a o e n => s.keep a o e fun z => n (h a z), s.dom⟩
theorem Step.trans {A B : Addr → Prop} {H H1 H2 : Hp} (s : Step A H H1) (t : Step B H1 H2) (h : ∀ a, B a → A a ∨ H a = none) : Step A H H2 :=
  ⟨fun a o e n => t.keep a o (s.keep a o e n) fun z => (h a z).elim n fun q => (by rw [e] at q; cases q), fun a n => t.dom a (s.dom a n)⟩
theorem Step.new {A : Addr → Prop} {H : Hp} {p : Addr} {o : HO} (n : H p = none) : Step A H (upd H p o) :=
  ⟨fun a u e _ => (by rw [upd_ne (ne_of_none e n)]; exact e), fun a z => (by
    by_cases h : a = p
    · subst h; rw [upd_same]; simp
    · rw [upd_ne h]; exact z)⟩

section
variable {K : PySem.W.Frag} {g : GF} {H H' : Hp}
/-- what frozen things lean on stays -/
structure Stays (H H' : Hp) : Prop where
  tup : ∀ a xs, H a = some (.tup xs) → H' a = some (.tup xs)
  frz : ∀ a o u, H a = some (.frz o u) → H' a = some (.frz o u)
theorem Stays.sqT {a : Addr} {xs : List V} (s : Stays H H') (h : SqT K H a xs) : SqT K H' a xs := by
  rcases h with (h | ⟨o, h⟩) | h
  · exact .inl (.inl (s.tup _ _ h))
  · exact .inl (.inr ⟨o, s.frz _ _ _ h⟩)
  · exact .inr h
theorem Stays.fzL {a : Addr} {xs : List V} (s : Stays H H') (h : FzL K H a xs) : FzL K H' a xs := by
  rcases h with ⟨o, h⟩ | h
  · exact .inl ⟨o, s.frz _ _ _ h⟩
  · exact .inr h
mutual
theorem Rep.stay (s : Stays H H') : ∀ {d : D} {v : V}, Rep K g H d v → Rep K g H' d v
  | _, _, .non => .non
  | _, _, .bl b => .bl b
  | _, _, .int i => .int i
  | _, _, .str x => .str x
  | _, _, .tup h r => .tup (s.sqT h) (Reps.stay s r)
  | _, _, .lst h r => .lst (s.fzL h) (Reps.stay s r)
  | _, _, .dic h r => .dic (s.frz _ _ _ h) (RepK.stay s r)
  | _, _, .fn h => .fn h
theorem Reps.stay (s : Stays H H') : ∀ {ds : List D} {vs : List V}, Reps K g H ds vs → Reps K g H' ds vs
  | _, _, .nil => .nil
  | _, _, .cons h r => .cons (Rep.stay s h) (Reps.stay s r)
theorem RepK.stay (s : Stays H H') : ∀ {es : List (D × D)} {kvs : List (Key × V)}, RepK K g H es kvs → RepK K g H' es kvs
  | _, _, .nil => .nil
  | _, _, .cons h r => .cons (Rep.stay s h) (RepK.stay s r)
end
theorem Step.stays {A : Addr → Prop} (s : Step A H H') (m : ∀ a, A a → ∃ o, H a = some o ∧ Mu1 o) : Stays H H' :=
  ⟨fun a xs e => s.keep a _ e fun z => by obtain ⟨o, e', q⟩ := m a z; rw [e] at e'; cases e'; exact q,
   fun a o u e => s.keep a _ e fun z => by obtain ⟨o', e', q⟩ := m a z; rw [e] at e'; cases e'; exact q⟩
theorem Stays.new {p : Addr} {o : HO} (n : H p = none) : Stays H (upd H p o) :=
  ⟨fun a xs e => by rw [upd_ne (ne_of_none e n)]; exact e, fun a o u e => by rw [upd_ne (ne_of_none e n)]; exact e⟩
theorem Stays.refl : Stays H H := ⟨fun _ _ e => e, fun _ _ _ e => e⟩
theorem Stays.trans {H1 H2 : Hp} (s : Stays H H1) (t : Stays H1 H2) : Stays H H2 := ⟨fun a xs e => t.tup a xs (s.tup a xs e), fun a o u e => t.frz a o u (s.frz a o u e)⟩
theorem Stays.upd_mu {a : Addr} {o u : HO} (e : H a = some o) (m : Mu1 o) : Stays H (upd H a u) :=
  ⟨fun b xs eb => (by
    by_cases h : b = a
    · subst h; rw [e] at eb; cases eb; exact m.elim
    · rw [upd_ne h]; exact eb), fun b o' u' eb => (by
    by_cases h : b = a
    · subst h; rw [e] at eb; cases eb; exact m.elim
    · rw [upd_ne h]; exact eb)⟩

/-! ### lists of such -/
theorem Reps.length : ∀ {ds : List D} {vs : List V}, Reps K g H ds vs → ds.length = vs.length
  | _, _, .nil => rfl
  | _, _, .cons _ r => by simp [Reps.length r]
theorem Reps.get : ∀ {ds : List D} {vs : List V} {i : Nat} {d : D}, Reps K g H ds vs → ds[i]? = some d → ∃ v, vs[i]? = some v ∧ Rep K g H d v
  | _, _, _, _, .nil, e => by simp at e
  | _, _, 0, _, .cons h _, e => by simp at e; subst e; exact ⟨_, rfl, h⟩
  | _, _, i + 1, d, .cons _ r, e => by
    obtain ⟨v, h1, h2⟩ := Reps.get (i := i) (d := d) r (by simpa using e)
    exact ⟨v, by simpa using h1, h2⟩
theorem Reps.getV : ∀ {ds : List D} {vs : List V} {i : Nat} {v : V}, Reps K g H ds vs → vs[i]? = some v → ∃ d, ds[i]? = some d ∧ Rep K g H d v
  | _, _, _, _, .nil, e => by simp at e
  | _, _, 0, _, .cons h _, e => by simp at e; subst e; exact ⟨_, rfl, h⟩
  | _, _, i + 1, v, .cons _ r, e => by
    obtain ⟨d, h1, h2⟩ := Reps.getV (i := i) (v := v) r (by simpa using e)
    exact ⟨d, by simpa using h1, h2⟩
theorem Reps.append : ∀ {ds es : List D} {vs ws : List V}, Reps K g H ds vs → Reps K g H es ws → Reps K g H (ds ++ es) (vs ++ ws)
  | _, _, _, _, .nil, s => s
  | _, _, _, _, .cons h r, s => .cons h (Reps.append r s)
theorem Reps.take : ∀ {ds : List D} {vs : List V} (n : Nat), Reps K g H ds vs → Reps K g H (ds.take n) (vs.take n)
  | _, _, 0, _ => by simp; exact .nil
  | _, _, n + 1, .nil => by simp; exact .nil
  | _, _, n + 1, .cons h r => by simp; exact .cons h (Reps.take n r)
theorem Reps.drop : ∀ {ds : List D} {vs : List V} (n : Nat), Reps K g H ds vs → Reps K g H (ds.drop n) (vs.drop n)
  | _, _, 0, r => by simpa using r
  | _, _, n + 1, .nil => by simp; exact .nil
  | _, _, n + 1, .cons h r => by simpa using Reps.drop n r
theorem Reps.set {d : D} {v : V} (h : Rep K g H d v) : ∀ {ds : List D} {vs : List V} (i : Nat), Reps K g H ds vs → Reps K g H (ds.set i d) (vs.set i v)
  | _, _, i, .nil => by simp; exact .nil
  | _, _, 0, .cons _ r => by simpa using .cons h r
  | _, _, i + 1, .cons q r => by simpa using .cons q (Reps.set h i r)
theorem Reps.eraseIdx : ∀ {ds : List D} {vs : List V} (i : Nat), Reps K g H ds vs → Reps K g H (ds.eraseIdx i) (vs.eraseIdx i)
  | _, _, i, .nil => by simp; exact .nil
  | _, _, 0, .cons _ r => by simpa using r
  | _, _, i + 1, .cons q r => by simpa using .cons q (Reps.eraseIdx i r)
theorem Reps.reverse {ds : List D} {vs : List V} (h : Reps K g H ds vs) : Reps K g H ds.reverse vs.reverse := by
  induction ds generalizing vs with
  | nil => cases h; exact .nil
  | cons d ds ih =>
    cases h with
    | cons h r =>
      rw [List.reverse_cons, List.reverse_cons]
      exact (ih r).append (.cons h .nil)
theorem Reps.dropLast {ds : List D} {vs : List V} (h : Reps K g H ds vs) : Reps K g H ds.dropLast vs.dropLast := by
  rw [List.dropLast_eq_take, List.dropLast_eq_take, h.length]
  exact h.take _
theorem Reps.rep {ds : List D} {vs : List V} (h : Reps K g H ds vs) : ∀ k : Nat, Reps K g H (List.replicate k ds).flatten (List.replicate k vs).flatten
  | 0 => by simp; exact .nil
  | k + 1 => by
    rw [List.replicate_succ, List.replicate_succ, List.flatten_cons, List.flatten_cons]
    exact h.append (h.rep k)
theorem Reps.ints : ∀ (ns : List Int), Reps K g H (ns.map .int) (ns.map V.int)
  | [] => .nil
  | n :: ns => .cons (.int n) (Reps.ints ns)
theorem Reps.strs : ∀ (ns : List Str), Reps K g H (ns.map .str) (ns.map V.str)
  | [] => .nil
  | n :: ns => .cons (.str n) (Reps.strs ns)

/-! ### owned values -/
def OwnL (P : D → V → List Addr → Prop) : List D → List V → List (List Addr) → Prop
  | [], [], [] => True
  | d :: ds, v :: vs, S :: Ss => P d v S ∧ OwnL P ds vs Ss
  | _, _, _ => False
def Own (K : PySem.W.Frag) (g : GF) (H : Hp) : Nat → D → V → List Addr → Prop
  | 0, d, v, S => S = [] ∧ Rep K g H d v
  | k + 1, d, v, S => match d with
    | .lst ds => ∃ a xs Ss, v = .ref a ∧ H a = some (.lst xs) ∧ OwnL (Own K g H k) ds xs Ss ∧ S = a :: Ss.flatten
    | .dic es => ∃ a kvs, v = .ref a ∧ H a = some (.dK kvs) ∧ RepK K g H es kvs ∧ S = [a]
    | _ => S = [] ∧ Rep K g H d v
theorem OwnL.imp {P Q : D → V → List Addr → Prop} : ∀ {ds : List D} {vs : List V} {Ss : List (List Addr)}, (∀ d v S, S ∈ Ss → P d v S → Q d v S) → OwnL P ds vs Ss → OwnL Q ds vs Ss
  | [], [], [], _, _ => trivial
  | d :: ds, v :: vs, S :: Ss, f, h => ⟨f d v S List.mem_cons_self h.1, OwnL.imp (fun d v S m => f d v S (List.mem_cons_of_mem _ m)) h.2⟩
  | [], [], _ :: _, _, h => h.elim
  | [], _ :: _, [], _, h => h.elim
  | [], _ :: _, _ :: _, _, h => h.elim
  | _ :: _, [], [], _, h => h.elim
  | _ :: _, [], _ :: _, _, h => h.elim
  | _ :: _, _ :: _, [], _, h => h.elim
theorem OwnL.length {P : D → V → List Addr → Prop} : ∀ {ds : List D} {vs : List V} {Ss : List (List Addr)}, OwnL P ds vs Ss → ds.length = vs.length ∧ Ss.length = vs.length
  | [], [], [], _ => ⟨rfl, rfl⟩
  | d :: ds, v :: vs, S :: Ss, h => by
    obtain ⟨h1, h2⟩ := OwnL.length h.2
    simp [h1, h2]
  | [], [], _ :: _, h => h.elim
  | [], _ :: _, [], h => h.elim
  | [], _ :: _, _ :: _, h => h.elim
  | _ :: _, [], [], h => h.elim
  | _ :: _, [], _ :: _, h => h.elim
  | _ :: _, _ :: _, [], h => h.elim
theorem OwnL.get {P : D → V → List Addr → Prop} : ∀ {ds : List D} {vs : List V} {Ss : List (List Addr)} {i : Nat} {d : D}, OwnL P ds vs Ss → ds[i]? = some d → ∃ v S, vs[i]? = some v ∧ Ss[i]? = some S ∧ P d v S
  | [], [], [], _, _, _, e => by simp at e
  | d :: ds, v :: vs, S :: Ss, 0, _, h, e => by simp at e; subst e; exact ⟨v, S, rfl, rfl, h.1⟩
  | d :: ds, v :: vs, S :: Ss, i + 1, d', h, e => by
    obtain ⟨v, S, h1, h2, h3⟩ := OwnL.get (i := i) h.2 (by simpa using e)
    exact ⟨v, S, by simpa using h1, by simpa using h2, h3⟩
  | [], [], _ :: _, _, _, h, _ => h.elim
  | [], _ :: _, [], _, _, h, _ => h.elim
  | [], _ :: _, _ :: _, _, _, h, _ => h.elim
  | _ :: _, [], [], _, _, h, _ => h.elim
  | _ :: _, [], _ :: _, _, _, h, _ => h.elim
  | _ :: _, _ :: _, [], _, _, h, _ => h.elim
theorem OwnL.of_reps : ∀ {ds : List D} {vs : List V}, Reps K g H ds vs → OwnL (Own K g H 0) ds vs (ds.map fun _ => [])
  | _, _, .nil => trivial
  | _, _, .cons h r => ⟨⟨rfl, h⟩, OwnL.of_reps r⟩
theorem OwnL.reps : ∀ {ds : List D} {vs : List V} {Ss : List (List Addr)}, OwnL (Own K g H 0) ds vs Ss → Reps K g H ds vs ∧ Ss.flatten = []
  | [], [], [], _ => ⟨.nil, rfl⟩
  | d :: ds, v :: vs, S :: Ss, h => by
    obtain ⟨h1, h2⟩ := OwnL.reps h.2
    exact ⟨.cons h.1.2 h1, by simp [h.1.1, h2]⟩
  | [], [], _ :: _, h => h.elim
  | [], _ :: _, [], h => h.elim
  | [], _ :: _, _ :: _, h => h.elim
  | _ :: _, [], [], h => h.elim
  | _ :: _, [], _ :: _, h => h.elim
  | _ :: _, _ :: _, [], h => h.elim
theorem OwnL.mem {P : D → V → List Addr → Prop} {T : List Addr} : ∀ {ds : List D} {vs : List V} {Ss : List (List Addr)}, OwnL P ds vs Ss → T ∈ Ss → ∃ d v, P d v T
  | [], [], [], _, m => by cases m
  | d :: ds, v :: vs, S :: Ss, h, m => by
    rcases List.mem_cons.mp m with rfl | m
    · exact ⟨d, v, h.1⟩
    · exact OwnL.mem h.2 m
  | [], [], _ :: _, h, _ => h.elim
  | [], _ :: _, [], h, _ => h.elim
  | [], _ :: _, _ :: _, h, _ => h.elim
  | _ :: _, [], [], h, _ => h.elim
  | _ :: _, [], _ :: _, h, _ => h.elim
  | _ :: _, _ :: _, [], h, _ => h.elim
theorem flat_nil : ∀ ds : List D, (ds.map fun _ => ([] : List Addr)).flatten = []
  | [] => rfl
  | _ :: ds => by simp [flat_nil ds]
/-- a list of frozen things, owned -/
theorem Own.one {a : Addr} {xs : List V} {ds : List D} (e : H a = some (.lst xs)) (r : Reps K g H ds xs) : Own K g H 1 (.lst ds) (.ref a) [a] :=
  ⟨a, xs, _, rfl, e, OwnL.of_reps r, by rw [flat_nil]⟩
theorem Own.mut : ∀ {k : Nat} {d : D} {v : V} {S : List Addr}, Own K g H k d v S → ∀ a ∈ S, ∃ o, H a = some o ∧ Mu1 o
  | 0, d, v, S, h, a, ha => by rw [h.1] at ha; cases ha
  | k + 1, .lst ds, v, S, ⟨b, xs, Ss, _, e, r, es⟩, a, ha => by
    rw [es] at ha
    rcases List.mem_cons.mp ha with rfl | ha
    · exact ⟨_, e, trivial⟩
    · obtain ⟨T, hT, haT⟩ := List.mem_flatten.mp ha
      obtain ⟨d, v, q⟩ := OwnL.mem r hT
      exact Own.mut q a haT
  | k + 1, .dic es, v, S, ⟨b, kvs, _, e, r, q⟩, a, ha => by
    rw [q] at ha
    obtain rfl := List.mem_singleton.mp ha
    exact ⟨_, e, trivial⟩
  | k + 1, .non, v, S, h, a, ha => by rw [h.1] at ha; cases ha
  | k + 1, .bl _, v, S, h, a, ha => by rw [h.1] at ha; cases ha
  | k + 1, .int _, v, S, h, a, ha => by rw [h.1] at ha; cases ha
  | k + 1, .str _, v, S, h, a, ha => by rw [h.1] at ha; cases ha
  | k + 1, .tup _, v, S, h, a, ha => by rw [h.1] at ha; cases ha
  | k + 1, .set _, v, S, h, a, ha => by rw [h.1] at ha; cases ha
  | k + 1, .fn _, v, S, h, a, ha => by rw [h.1] at ha; cases ha
  | k + 1, .exc _ _, v, S, h, a, ha => by rw [h.1] at ha; cases ha
theorem Own.stay (s : Stays H H') : ∀ {k : Nat} {d : D} {v : V} {S : List Addr}, (∀ a ∈ S, ∀ o, H a = some o → H' a = some o) → Own K g H k d v S → Own K g H' k d v S
  | 0, d, v, S, _, h => ⟨h.1, h.2.stay s⟩
  | k + 1, .lst ds, v, S, f, ⟨b, xs, Ss, ev, e, r, es⟩ => by
    refine ⟨b, xs, Ss, ev, f b (by rw [es]; exact List.mem_cons_self) _ e, OwnL.imp (fun d v T hT q => Own.stay s (fun a ha => f a (by rw [es]; exact List.mem_cons_of_mem _ (List.mem_flatten.mpr ⟨T, hT, ha⟩))) q) r, es⟩
  | k + 1, .dic es, v, S, f, ⟨b, kvs, ev, e, r, q⟩ => ⟨b, kvs, ev, f b (by rw [q]; exact List.mem_cons_self) _ e, r.stay s, q⟩
  | k + 1, .non, v, S, f, h => ⟨h.1, h.2.stay s⟩
  | k + 1, .bl _, v, S, f, h => ⟨h.1, h.2.stay s⟩
  | k + 1, .int _, v, S, f, h => ⟨h.1, h.2.stay s⟩
  | k + 1, .str _, v, S, f, h => ⟨h.1, h.2.stay s⟩
  | k + 1, .tup _, v, S, f, h => ⟨h.1, h.2.stay s⟩
  | k + 1, .set _, v, S, f, h => ⟨h.1, h.2.stay s⟩
  | k + 1, .fn _, v, S, f, h => ⟨h.1, h.2.stay s⟩
  | k + 1, .exc _ _, v, S, f, h => ⟨h.1, h.2.stay s⟩
end
end VK
set_option Elab.async false
set_option linter.all false
set_option maxHeartbeats 1000000
/-! freezing; the state of a frame -/
namespace VK
open PySem PySem.Spec PyProof.Rows L2

section
variable {X : Cx} {g : GF} {pins : List (Addr × Obj)} {σ : L2.St} {H : Hp} {s : Shared}
/-- a tracked thing is known from now on -/
theorem frz_one {a : Addr} {u : HO} (I : Inv X pins σ H s) (e : H a = some u) (m : Mu1 u) : ∃ o, Inv X pins σ (upd H a (.frz o u)) s := by
  have mu : Mut (H a) := by
    rw [e]
    cases u <;> first | exact trivial | exact m.elim
  have ho : ∃ o, s.heap.get? a = some o := by
    have h := I.hok a _ e
    cases u with
    | lst xs => obtain ⟨_, its, n, _, h⟩ := h; exact ⟨_, h⟩
    | dK kvs => obtain ⟨_, _, vs, _, o, es, ep, h, _⟩ := h; exact ⟨o, h⟩
    | _ => exact m.elim
  obtain ⟨o, ho⟩ := ho
  refine ⟨o, I.un (h' := s.heap) (t' := s.toks) (Un.write mu (.inl rfl) (fun b u _ e => e) ⟨o, ho⟩) (I.hok.write mu (.inl rfl) (fun b u _ e => e) ⟨o, ho⟩ ?_)⟩
  refine ⟨ho, ?_⟩
  have h := I.hok a _ e
  cases u with
  | lst xs => exact h
  | dK kvs => exact h
  | _ => exact m.elim

/-- what a freezing leaves -/
structure Fzd (S S' : List Addr) (H H' : Hp) : Prop where
  sub : S'.Sublist S
  out : ∀ a, a ∉ S → H' a = H a
  same : ∀ a ∈ S', H' a = H a
  frz : ∀ a ∈ S, a ∉ S' → ∃ o u, H' a = some (.frz o u)
theorem Fzd.stays {S S' : List Addr} {H' : Hp} (f : Fzd S S' H H') (m : ∀ a ∈ S, ∃ o, H a = some o ∧ Mu1 o) : Stays H H' :=
  ⟨fun a xs e => (by
    rw [f.out a fun z => ?_]; exact e
    obtain ⟨o, e', q⟩ := m a z; rw [e] at e'; cases e'; exact q), fun a o u e => (by
    rw [f.out a fun z => ?_]; exact e
    obtain ⟨o, e', q⟩ := m a z; rw [e] at e'; cases e'; exact q)⟩
theorem Fzd.step {S S' : List Addr} {H' : Hp} (f : Fzd S S' H H') : Step (fun a => a ∈ S) H H' :=
  ⟨fun a o e n => (f.out a n).trans e, fun a n => (by
    by_cases h : a ∈ S
    · by_cases h' : a ∈ S'
      · rw [f.same a h']; exact n
      · obtain ⟨o, u, e⟩ := f.frz a h h'; rw [e]; simp
    · rw [f.out a h]; exact n)⟩
theorem Fzd.refl (S : List Addr) (H : Hp) : Fzd S S H H := ⟨List.Sublist.refl _, fun _ _ => rfl, fun _ _ => rfl, fun a h n => absurd h n⟩
theorem Fzd.nil (H : Hp) : Fzd [] [] H H := Fzd.refl _ _

/-- all of a list of owned things, each by f -/
theorem cap_list {k m : Nat} (one : ∀ (H : Hp) (d : D) (v : V) (S : List Addr), Inv X pins σ H s → S.Nodup → Own X.K g H k d v S → ∃ H' S', Inv X pins σ H' s ∧ Own X.K g H' m d v S' ∧ Fzd S S' H H') :
    ∀ (ds : List D) (vs : List V) (Ss : List (List Addr)) (H : Hp), Inv X pins σ H s → Ss.flatten.Nodup → OwnL (Own X.K g H k) ds vs Ss →
      ∃ H' Ss', Inv X pins σ H' s ∧ OwnL (Own X.K g H' m) ds vs Ss' ∧ Fzd Ss.flatten Ss'.flatten H H'
  | [], [], [], H, I, _, _ => ⟨H, [], I, trivial, Fzd.refl _ _⟩
  | d :: ds, v :: vs, S :: Ss, H, I, nd, h => by
    rw [List.flatten_cons] at nd
    obtain ⟨nd1, nd2, dj⟩ := List.nodup_append.mp nd
    obtain ⟨H1, S1, I1, o1, f1⟩ := one H d v S I nd1 h.1
    have st1 := f1.stays (fun a ha => Own.mut h.1 a ha)
    have h2 : OwnL (Own X.K g H1 k) ds vs Ss := OwnL.imp (fun d v T hT q => Own.stay st1 (fun a ha o e => (f1.out a fun z => dj a z a (List.mem_flatten.mpr ⟨T, hT, ha⟩) rfl).trans e) q) h.2
    obtain ⟨H2, Ss2, I2, o2, f2⟩ := cap_list one ds vs Ss H1 I1 nd2 h2
    have m2 : ∀ a ∈ Ss.flatten, ∃ o, H1 a = some o ∧ Mu1 o := fun a ha => by
      obtain ⟨T, hT, haT⟩ := List.mem_flatten.mp ha
      obtain ⟨d, v, q⟩ := OwnL.mem h2 hT
      exact Own.mut q a haT
    have st2 := f2.stays m2
    refine ⟨H2, S1 :: Ss2, I2, ⟨Own.stay st2 (fun a ha o e => (f2.out a fun z => dj a (f1.sub.subset ha) a z rfl).trans e) o1, o2⟩, ?_⟩
    refine ⟨by rw [List.flatten_cons, List.flatten_cons]; exact f1.sub.append f2.sub, fun a ha => ?_, fun a ha => ?_, fun a ha na => ?_⟩
    · rw [List.flatten_cons, List.mem_append, not_or] at ha
      rw [f2.out a ha.2, f1.out a ha.1]
    · rw [List.flatten_cons, List.mem_append] at ha
      rcases ha with ha | ha
      · rw [f2.out a fun z => dj a (f1.sub.subset ha) a z rfl, f1.same a ha]
      · rw [f2.same a ha, f1.out a fun z => dj a z a (f2.sub.subset ha) rfl]
    · rw [List.flatten_cons, List.mem_append] at ha
      rw [List.flatten_cons, List.mem_append, not_or] at na
      rcases ha with ha | ha
      · obtain ⟨o, u, e⟩ := f1.frz a ha na.1
        exact ⟨o, u, by rw [f2.out a fun z => dj a ha a z rfl]; exact e⟩
      · exact f2.frz a ha na.2
  | [], [], _ :: _, _, _, _, h => h.elim
  | [], _ :: _, [], _, _, _, h => h.elim
  | [], _ :: _, _ :: _, _, _, _, h => h.elim
  | _ :: _, [], [], _, _, _, h => h.elim
  | _ :: _, [], _ :: _, _, _, _, h => h.elim
  | _ :: _, _ :: _, [], _, _, _, h => h.elim

/-- below the depth m all is frozen -/
theorem Own.cap : ∀ (k m : Nat) (H : Hp) (d : D) (v : V) (S : List Addr), Inv X pins σ H s → S.Nodup → Own X.K g H k d v S → ∃ H' S', Inv X pins σ H' s ∧ Own X.K g H' (min k m) d v S' ∧ Fzd S S' H H'
  | 0, m, H, d, v, S, I, nd, h => ⟨H, S, I, by rw [Nat.zero_min]; exact h, Fzd.refl _ _⟩
  | k + 1, 0, H, .lst ds, v, S, I, nd, ⟨a, xs, Ss, ev, e, r, es⟩ => by
    subst es
    obtain ⟨na, nd'⟩ := List.nodup_cons.mp nd
    obtain ⟨H1, Ss1, I1, o1, f1⟩ := cap_list (m := min k 0) (fun H d v S I n h => Own.cap k 0 H d v S I n h) ds xs Ss H I nd' r
    rw [Nat.min_zero] at o1
    obtain ⟨r1, _⟩ := OwnL.reps o1
    have e1 : H1 a = some (.lst xs) := (f1.out a na).trans e
    obtain ⟨o, I2⟩ := frz_one I1 e1 trivial
    refine ⟨_, [], I2, ?_, List.nil_sublist _, fun b hb => ?_, fun b hb => absurd hb (by simp), fun b hb _ => ?_⟩
    · rw [Nat.min_zero]
      subst ev
      exact ⟨rfl, .lst (.inl ⟨o, upd_same⟩) (r1.stay (Stays.upd_mu e1 trivial))⟩
    · rw [List.mem_cons, not_or] at hb
      rw [upd_ne hb.1, f1.out b hb.2]
    · rcases List.mem_cons.mp hb with rfl | hb
      · exact ⟨o, _, upd_same⟩
      · have hba : b ≠ a := fun z => na (z ▸ hb)
        have hno : Ss1.flatten = [] := (OwnL.reps o1).2
        obtain ⟨o', u, e'⟩ := f1.frz b hb (by rw [hno]; simp)
        exact ⟨o', u, by rw [upd_ne hba]; exact e'⟩
  | k + 1, m + 1, H, .lst ds, v, S, I, nd, ⟨a, xs, Ss, ev, e, r, es⟩ => by
    subst es
    obtain ⟨na, nd'⟩ := List.nodup_cons.mp nd
    obtain ⟨H1, Ss1, I1, o1, f1⟩ := cap_list (m := min k m) (fun H d v S I n h => Own.cap k m H d v S I n h) ds xs Ss H I nd' r
    have e1 : H1 a = some (.lst xs) := (f1.out a na).trans e
    refine ⟨H1, a :: Ss1.flatten, I1, ?_, f1.sub.cons₂ a, fun b hb => ?_, fun b hb => ?_, fun b hb nb => ?_⟩
    · rw [Nat.succ_min_succ]
      exact ⟨a, xs, Ss1, ev, e1, o1, rfl⟩
    · rw [List.mem_cons, not_or] at hb
      exact f1.out b hb.2
    · rcases List.mem_cons.mp hb with rfl | hb
      · exact f1.out _ na
      · exact f1.same b hb
    · rw [List.mem_cons, not_or] at nb
      rcases List.mem_cons.mp hb with rfl | hb
      · exact absurd rfl nb.1
      · exact f1.frz b hb nb.2
  | k + 1, 0, H, .dic es, v, S, I, nd, ⟨a, kvs, ev, e, r, q⟩ => by
    subst q ev
    obtain ⟨o, I2⟩ := frz_one I e trivial
    refine ⟨_, [], I2, ?_, List.nil_sublist _, fun b hb => ?_, fun b hb => absurd hb (by simp), fun b hb _ => ?_⟩
    · rw [Nat.min_zero]
      exact ⟨rfl, .dic upd_same (r.stay (Stays.upd_mu e trivial))⟩
    · exact upd_ne (fun z => hb (by rw [z]; exact List.mem_cons_self))
    · obtain rfl := List.mem_singleton.mp hb
      exact ⟨o, _, upd_same⟩
  | k + 1, m + 1, H, .dic es, v, S, I, nd, h => ⟨H, S, I, by rw [Nat.succ_min_succ]; exact h, Fzd.refl _ _⟩
  | k + 1, 0, H, .non, v, S, I, nd, h => ⟨H, S, I, by rw [Nat.min_zero]; exact h, Fzd.refl _ _⟩
  | k + 1, 0, H, .bl _, v, S, I, nd, h => ⟨H, S, I, by rw [Nat.min_zero]; exact h, Fzd.refl _ _⟩
  | k + 1, 0, H, .int _, v, S, I, nd, h => ⟨H, S, I, by rw [Nat.min_zero]; exact h, Fzd.refl _ _⟩
  | k + 1, 0, H, .str _, v, S, I, nd, h => ⟨H, S, I, by rw [Nat.min_zero]; exact h, Fzd.refl _ _⟩
  | k + 1, 0, H, .tup _, v, S, I, nd, h => ⟨H, S, I, by rw [Nat.min_zero]; exact h, Fzd.refl _ _⟩
  | k + 1, 0, H, .set _, v, S, I, nd, h => ⟨H, S, I, by rw [Nat.min_zero]; exact h, Fzd.refl _ _⟩
  | k + 1, 0, H, .fn _, v, S, I, nd, h => ⟨H, S, I, by rw [Nat.min_zero]; exact h, Fzd.refl _ _⟩
  | k + 1, 0, H, .exc _ _, v, S, I, nd, h => ⟨H, S, I, by rw [Nat.min_zero]; exact h, Fzd.refl _ _⟩
  | k + 1, m + 1, H, .non, v, S, I, nd, h => ⟨H, S, I, by rw [Nat.succ_min_succ]; exact h, Fzd.refl _ _⟩
  | k + 1, m + 1, H, .bl _, v, S, I, nd, h => ⟨H, S, I, by rw [Nat.succ_min_succ]; exact h, Fzd.refl _ _⟩
  | k + 1, m + 1, H, .int _, v, S, I, nd, h => ⟨H, S, I, by rw [Nat.succ_min_succ]; exact h, Fzd.refl _ _⟩
  | k + 1, m + 1, H, .str _, v, S, I, nd, h => ⟨H, S, I, by rw [Nat.succ_min_succ]; exact h, Fzd.refl _ _⟩
  | k + 1, m + 1, H, .tup _, v, S, I, nd, h => ⟨H, S, I, by rw [Nat.succ_min_succ]; exact h, Fzd.refl _ _⟩
  | k + 1, m + 1, H, .set _, v, S, I, nd, h => ⟨H, S, I, by rw [Nat.succ_min_succ]; exact h, Fzd.refl _ _⟩
  | k + 1, m + 1, H, .fn _, v, S, I, nd, h => ⟨H, S, I, by rw [Nat.succ_min_succ]; exact h, Fzd.refl _ _⟩
  | k + 1, m + 1, H, .exc _ _, v, S, I, nd, h => ⟨H, S, I, by rw [Nat.succ_min_succ]; exact h, Fzd.refl _ _⟩
end

/-! ### a thing inside an owned one -/
def AtP (H : Hp) : List Nat → D → V → D → V → Prop
  | [], dx, vx, d, v => d = dx ∧ v = vx
  | j :: js, dx, vx, d, v => ∃ ds a xs d1 v1, dx = .lst ds ∧ vx = .ref a ∧ H a = some (.lst xs) ∧ ds[j]? = some d1 ∧ xs[j]? = some v1 ∧ AtP H js d1 v1 d v
section
variable {K : PySem.W.Frag} {g : GF} {H H' : Hp}
theorem AtP.own {k : Nat} {d : D} {v : V} : ∀ {js : List Nat} {dx : D} {vx : V} {Sx : List Addr}, AtP H js dx vx d v → Own K g H (js.length + k) dx vx Sx → ∃ S, (∀ a ∈ S, a ∈ Sx) ∧ Own K g H k d v S
  | [], dx, vx, Sx, h, o => by
    obtain ⟨rfl, rfl⟩ := h
    exact ⟨Sx, fun _ h => h, by simpa using o⟩
  | j :: js, dx, vx, Sx, h, o => by
    obtain ⟨ds, a, xs, d1, v1, rfl, rfl, e, e1, e2, h⟩ := h
    rw [List.length_cons, Nat.add_right_comm] at o
    obtain ⟨a', xs', Ss, ev, e', r, es⟩ := o
    cases ev
    rw [e] at e'; cases e'
    obtain ⟨v', S, g1, g2, q⟩ := r.get e1
    rw [e2] at g1; cases g1
    obtain ⟨T, hT, oT⟩ := AtP.own h q
    exact ⟨T, fun b hb => by rw [es]; exact List.mem_cons_of_mem _ (List.mem_flatten.mpr ⟨S, List.mem_of_getElem? g2, hT b hb⟩), oT⟩
theorem AtP.keep {k : Nat} {d : D} {v : V} : ∀ {js : List Nat} {dx : D} {vx : V} {Sx : List Addr}, AtP H js dx vx d v → Own K g H' (js.length + k) dx vx Sx → (∀ a ∈ Sx, H' a = H a) → AtP H' js dx vx d v
  | [], dx, vx, Sx, h, o, f => h
  | j :: js, dx, vx, Sx, h, o, f => by
    obtain ⟨ds, a, xs, d1, v1, rfl, rfl, e, e1, e2, h⟩ := h
    rw [List.length_cons, Nat.add_right_comm] at o
    obtain ⟨a', xs', Ss, ev, e', r, es⟩ := o
    cases ev
    have ea : H' a = H a := f a (by rw [es]; exact List.mem_cons_self)
    rw [ea, e] at e'; cases e'
    obtain ⟨v', S, g1, g2, q⟩ := r.get e1
    rw [e2] at g1; cases g1
    exact ⟨ds, a, xs, d1, v1, rfl, rfl, ea.trans e, e1, e2, AtP.keep h q fun b hb => f b (by rw [es]; exact List.mem_cons_of_mem _ (List.mem_flatten.mpr ⟨S, List.mem_of_getElem? g2, hb⟩))⟩
theorem AtP.snoc {j : Nat} {d d1 : D} {v v1 : V} {a : Addr} {ds : List D} {xs : List V} : ∀ {js : List Nat} {dx : D} {vx : V}, AtP H js dx vx d v → d = .lst ds → v = .ref a → H a = some (.lst xs) → ds[j]? = some d1 → xs[j]? = some v1 → AtP H (js ++ [j]) dx vx d1 v1
  | [], dx, vx, h, ed, ev, e, e1, e2 => by
    obtain ⟨rfl, rfl⟩ := h
    exact ⟨ds, a, xs, d1, v1, ed, ev, e, e1, e2, rfl, rfl⟩
  | i :: js, dx, vx, h, ed, ev, e, e1, e2 => by
    obtain ⟨ds', a', xs', d1', v1', h1, h2, h3, h4, h5, h⟩ := h
    exact ⟨ds', a', xs', d1', v1', h1, h2, h3, h4, h5, AtP.snoc h ed ev e e1 e2⟩
end

/-! ### a frame's state -/
/-- foot: the owned addresses of each slot; ω: how deep each slot is owned -/
structure Sf (K : PySem.W.Frag) (g : GF) (ω : List Nat) (σ : L2.St) (H : Hp) (env : Env) (foot : List (List Addr)) : Prop where
  len : σ.length = env.length
  lenF : foot.length = env.length
  slot : ∀ (i : Nat) (d : D), env[i]? = some (some d) → ∃ v S, σ[i]? = some (some v) ∧ foot[i]? = some S ∧ Own K g H (ω.getD i 0) d v S
  dead : ∀ (i : Nat), env[i]? = some none → foot[i]? = some []
  nd : foot.flatten.Nodup
/-- the addresses that may be changed: those of the slots that are not locked -/
def Av (lk : List Nat) (foot : List (List Addr)) (a : Addr) : Prop := ∃ i S, i ∉ lk ∧ foot[i]? = some S ∧ a ∈ S
theorem Av.mem {lk : List Nat} {foot : List (List Addr)} {a : Addr} (h : Av lk foot a) : a ∈ foot.flatten := by
  obtain ⟨i, S, _, e, ha⟩ := h
  exact List.mem_flatten.mpr ⟨S, List.mem_of_getElem? e, ha⟩
theorem Av.sub {lk lk' : List Nat} {foot : List (List Addr)} {a : Addr} (h : Av lk foot a) (s : ∀ i ∈ lk', i ∈ lk) : Av lk' foot a := by
  obtain ⟨i, S, n, e, ha⟩ := h
  exact ⟨i, S, fun z => n (s i z), e, ha⟩
theorem Sf.mut {K : PySem.W.Frag} {g : GF} {ω : List Nat} {σ : L2.St} {H : Hp} {env : Env} {foot : List (List Addr)} (t : Sf K g ω σ H env foot) : ∀ a ∈ foot.flatten, ∃ o, H a = some o ∧ Mu1 o := fun a ha => by
  obtain ⟨S, hS, ha⟩ := List.mem_flatten.mp ha
  obtain ⟨i, hi⟩ := List.getElem?_of_mem hS
  cases e : env[i]? with
  | none =>
    have h1 := List.getElem?_eq_none_iff.mp e
    have h2 := (List.getElem?_eq_some_iff.mp hi).1
    rw [t.lenF] at h2
    exact absurd h2 (by omega)
  | some o =>
    cases o with
    | none =>
      rw [t.dead i e] at hi
      cases hi
      cases ha
    | some d =>
      obtain ⟨v, S', _, h2, q⟩ := t.slot i d e
      rw [hi] at h2
      cases h2
      exact q.mut a ha
theorem foot_disj {foot : List (List Addr)} (nd : foot.flatten.Nodup) : ∀ {i j : Nat} {S T : List Addr} {a : Addr}, foot[i]? = some S → foot[j]? = some T → a ∈ S → a ∈ T → i = j := by
  induction foot with
  | nil => intro i j S T a h; simp at h
  | cons F foot ih =>
    intro i j S T a h1 h2 hS hT
    rw [List.flatten_cons] at nd
    obtain ⟨n1, n2, dj⟩ := List.nodup_append.mp nd
    cases i with
    | zero =>
      simp at h1; subst h1
      cases j with
      | zero => rfl
      | succ j =>
        have h2 : foot[j]? = some T := by simpa using h2
        exact absurd rfl (dj a hS a (List.mem_flatten.mpr ⟨T, List.mem_of_getElem? h2, hT⟩))
    | succ i =>
      have h1 : foot[i]? = some S := by simpa using h1
      cases j with
      | zero =>
        simp at h2; subst h2
        exact absurd rfl (dj a hT a (List.mem_flatten.mpr ⟨S, List.mem_of_getElem? h1, hS⟩))
      | succ j =>
        have h2 : foot[j]? = some T := by simpa using h2
        rw [ih n2 h1 h2 hS hT]
/-- from one state of a frame to another one -/
structure Chg (lk : List Nat) (foot : List (List Addr)) (env : Env) (H : Hp) (foot' : List (List Addr)) (env' : Env) (H' : Hp) : Prop where
  step : Step (Av lk foot) H H'
  own : ∀ a, Av lk foot' a → Av lk foot a ∨ H a = none
  lkd : ∀ i ∈ lk, foot'[i]? = foot[i]? ∧ env'[i]? = env[i]?
  len : env'.length = env.length
theorem Chg.refl {lk : List Nat} {foot : List (List Addr)} {env : Env} {H : Hp} : Chg lk foot env H foot env H := ⟨Step.refl _ _, fun _ h => .inl h, fun _ _ => ⟨rfl, rfl⟩, rfl⟩
theorem Chg.none_of {lk : List Nat} {foot foot' : List (List Addr)} {env env' : Env} {H H' : Hp} (c : Chg lk foot env H foot' env' H') {a : Addr} (h : H' a = none) : H a = none := by
  cases e : H a with
  | none => rfl
  | some o => exact absurd h (c.step.dom a (by rw [e]; simp))
theorem Chg.trans {lk lk' : List Nat} {f f1 f2 : List (List Addr)} {e e1 e2 : Env} {H H1 H2 : Hp} (c : Chg lk f e H f1 e1 H1) (d : Chg lk' f1 e1 H1 f2 e2 H2) (hs : ∀ i ∈ lk, i ∈ lk') (hl : ∀ i ∈ lk', i ∉ lk → f2[i]? = f1[i]?) : Chg lk f e H f2 e2 H2 := by
  have h1 : ∀ a, Av lk' f1 a → Av lk f a ∨ H a = none := fun a h => c.own a (h.sub hs)
  refine ⟨c.step.trans d.step h1, fun a h => ?_, fun i hi => ?_, d.len.trans c.len⟩
  · obtain ⟨i, S, ni, hS, ha⟩ := h
    by_cases hi : i ∈ lk'
    · rw [hl i hi ni] at hS
      exact c.own a ⟨i, S, ni, hS, ha⟩
    · rcases d.own a ⟨i, S, hi, hS, ha⟩ with h | h
      · exact h1 a h
      · exact .inr (c.none_of h)
  · obtain ⟨x1, x2⟩ := d.lkd i (hs i hi)
    obtain ⟨y1, y2⟩ := c.lkd i hi
    exact ⟨x1.trans y1, x2.trans y2⟩

theorem flat_set {foot : List (List Addr)} {x : Nat} {S S' : List Addr} (e : foot[x]? = some S) (h : S'.Sublist S) : (foot.set x S').flatten.Sublist foot.flatten := by
  induction foot generalizing x with
  | nil => simp at e
  | cons F foot ih =>
    cases x with
    | zero => simp at e; subst e; simp only [List.set_cons_zero, List.flatten_cons]; exact h.append (List.Sublist.refl _)
    | succ x => simp only [List.set_cons_succ, List.flatten_cons]; exact (List.Sublist.refl _).append (ih (by simpa using e))
theorem getD_set (ω : List Nat) (x n i : Nat) (h : x < ω.length) : (ω.set x n).getD i 0 = if i = x then n else ω.getD i 0 := by
  rw [List.getD_eq_getElem?_getD, List.getD_eq_getElem?_getD]
  by_cases hi : i = x
  · subst hi; rw [List.getElem?_set_self h, if_pos rfl]; rfl
  · rw [List.getElem?_set_ne (fun z => hi z.symm), if_neg hi]
theorem getD_out {ω : List Nat} {i : Nat} (h : ¬ i < ω.length) : ω.getD i 0 = 0 := by
  rw [List.getD_eq_getElem?_getD, List.getElem?_eq_none (by omega)]; rfl
section
variable {X : Cx} {g : GF} {pins : List (Addr × Obj)} {σ : L2.St} {H : Hp} {s : Shared}
/-- one slot is owned less deep from now on -/
theorem Sf.capX {ω : List Nat} {env : Env} {foot : List (List Addr)} (I : Inv X pins σ H s) (t : Sf X.K g ω σ H env foot) (x n : Nat) (hn : n ≤ ω.getD x 0) :
    ∃ H' foot', Inv X pins σ H' s ∧ Sf X.K g (ω.set x n) σ H' env foot' ∧ (∀ lk, x ∉ lk → Chg lk foot env H foot' env H') ∧
      (∀ js dx vx d v, env[x]? = some (some dx) → σ[x]? = some (some vx) → js.length ≤ n → AtP H js dx vx d v → AtP H' js dx vx d v) ∧ Stays H H' ∧
      (∀ i, i ≠ x → foot'[i]? = foot[i]?) ∧ (∀ a, a ∈ foot'.flatten → a ∈ foot.flatten) := by
  by_cases hx : x < ω.length
  · cases e : env[x]? with
    | none =>
      refine ⟨H, foot, I, ⟨t.len, t.lenF, fun i d ei => ?_, t.dead, t.nd⟩, fun _ _ => Chg.refl, fun _ _ _ _ _ h => (by cases h), Stays.refl, fun _ _ => rfl, fun _ h => h⟩
      have : i ≠ x := fun z => by rw [z, e] at ei; cases ei
      rw [getD_set ω x n i hx, if_neg this]
      exact t.slot i d ei
    | some o =>
      cases o with
      | none =>
        refine ⟨H, foot, I, ⟨t.len, t.lenF, fun i d ei => ?_, t.dead, t.nd⟩, fun _ _ => Chg.refl, fun _ _ _ _ _ h => (by cases h), Stays.refl, fun _ _ => rfl, fun _ h => h⟩
        have : i ≠ x := fun z => by rw [z, e] at ei; cases ei
        rw [getD_set ω x n i hx, if_neg this]
        exact t.slot i d ei
      | some d =>
        obtain ⟨v, S, hv, hS, o⟩ := t.slot x d e
        have hSf : ∀ a ∈ S, a ∈ foot.flatten := fun a ha => List.mem_flatten.mpr ⟨S, List.mem_of_getElem? hS, ha⟩
        have ndS : S.Nodup := (List.sublist_flatten_of_mem (List.mem_of_getElem? hS)).nodup t.nd
        obtain ⟨H', S', I', o', f⟩ := Own.cap (g := g) (ω.getD x 0) n H d v S I ndS o
        rw [Nat.min_eq_right hn] at o'
        have st := f.stays (fun a ha => o.mut a ha)
        have hxl : x < foot.length := (List.getElem?_eq_some_iff.mp hS).1
        have other : ∀ {i : Nat} {T : List Addr}, i ≠ x → foot[i]? = some T → ∀ a ∈ T, H' a = H a := fun {i T} hi hT a ha => f.out a fun z => hi (foot_disj t.nd hT hS ha z)
        refine ⟨H', foot.set x S', I', ⟨t.len, by rw [List.length_set]; exact t.lenF, fun i d' ei => ?_, fun i ei => ?_, (flat_set hS f.sub).nodup t.nd⟩, fun lk hl => ⟨⟨fun a u ea na => ?_, fun a na => ?_⟩, fun a ha => ?_, fun i hi => ⟨?_, rfl⟩, rfl⟩, fun js dx vx d1 v1 e1 e2 hl h => ?_, st, fun i hi => ?_, fun a ha => (flat_set hS f.sub).subset ha⟩
        · rw [getD_set ω x n i hx]
          by_cases hi : i = x
          · subst hi
            rw [e] at ei; cases ei
            rw [if_pos rfl]
            exact ⟨v, S', hv, List.getElem?_set_self hxl, o'⟩
          · rw [if_neg hi]
            obtain ⟨w, T, h1, h2, q⟩ := t.slot i d' ei
            exact ⟨w, T, h1, by rw [List.getElem?_set_ne (fun z => hi z.symm)]; exact h2, q.stay st fun a ha u eu => (other hi h2 a ha).trans eu⟩
        · have hi : i ≠ x := fun z => by rw [z, e] at ei; cases ei
          rw [List.getElem?_set_ne (fun z => hi z.symm)]
          exact t.dead i ei
        · exact (f.out a fun z => na ⟨x, S, hl, hS, z⟩).trans ea
        · exact f.step.dom a na
        · obtain ⟨i, T, ni, hT, ha⟩ := ha
          by_cases hi : i = x
          · subst hi
            rw [List.getElem?_set_self hxl] at hT; cases hT
            exact .inl ⟨i, S, ni, hS, f.sub.subset ha⟩
          · rw [List.getElem?_set_ne (fun z => hi z.symm)] at hT
            exact .inl ⟨i, T, ni, hT, ha⟩
        · exact List.getElem?_set_ne (fun z => hl (by rw [z]; exact hi))
        · cases e1
          rw [hv] at e2; cases e2
          refine AtP.keep (K := X.K) (g := g) (k := n - js.length) h (Sx := S') ?_ f.same
          rw [Nat.add_sub_cancel' hl]
          exact o'
        · exact List.getElem?_set_ne (fun z => hi z.symm)
  · have e0 : ω.set x n = ω := List.set_eq_of_length_le (by omega)
    rw [e0]
    exact ⟨H, foot, I, t, fun _ _ => Chg.refl, fun _ _ _ _ _ _ _ _ h => h, Stays.refl, fun _ _ => rfl, fun _ h => h⟩
/-- several slots -/
def lowerAt (ω ω' : List Nat) : List Nat → List Nat
  | [] => ω
  | x :: xs => (lowerAt ω ω' xs).set x (ω'.getD x 0)
theorem lowerAt_getD (ω ω' : List Nat) : ∀ (xs : List Nat) (i : Nat), (∀ x ∈ xs, x < ω.length) → (lowerAt ω ω' xs).getD i 0 = if i ∈ xs then ω'.getD i 0 else ω.getD i 0
  | [], i, _ => by simp [lowerAt]
  | x :: xs, i, h => by
    have hl : (lowerAt ω ω' xs).length = ω.length := by
      clear h
      induction xs with
      | nil => rfl
      | cons y ys ih => show ((lowerAt ω ω' ys).set y _).length = _; rw [List.length_set]; exact ih
    show ((lowerAt ω ω' xs).set x (ω'.getD x 0)).getD i 0 = _
    rw [getD_set _ _ _ _ (by rw [hl]; exact h x List.mem_cons_self), lowerAt_getD ω ω' xs i (fun y hy => h y (List.mem_cons_of_mem _ hy))]
    by_cases hi : i = x
    · subst hi; simp
    · simp [hi]
theorem Sf.cong {K : PySem.W.Frag} {ω ω' : List Nat} {env : Env} {foot : List (List Addr)} (t : Sf K g ω σ H env foot) (h : ∀ i, ω'.getD i 0 = ω.getD i 0) : Sf K g ω' σ H env foot :=
  ⟨t.len, t.lenF, fun i d e => by rw [h i]; exact t.slot i d e, t.dead, t.nd⟩
theorem Sf.lowers {ω ω' : List Nat} {env : Env} (hle : ∀ i, ω'.getD i 0 ≤ ω.getD i 0) : ∀ (xs : List Nat) {H : Hp} {foot : List (List Addr)}, Inv X pins σ H s → Sf X.K g ω σ H env foot → (∀ x ∈ xs, x < ω.length) →
    ∃ H' foot', Inv X pins σ H' s ∧ Sf X.K g (lowerAt ω ω' xs) σ H' env foot' ∧ (∀ lk, (∀ x ∈ xs, x ∉ lk) → Chg lk foot env H foot' env H') ∧ Stays H H' ∧ (∀ a, a ∈ foot'.flatten → a ∈ foot.flatten)
  | [], H, foot, I, t, _ => ⟨H, foot, I, t, fun _ _ => Chg.refl, Stays.refl, fun _ h => h⟩
  | x :: xs, H, foot, I, t, hl => by
    obtain ⟨H1, f1, I1, t1, c1, s1, m1⟩ := Sf.lowers hle xs I t (fun y hy => hl y (List.mem_cons_of_mem _ hy))
    obtain ⟨H2, f2, I2, t2, c2, _, s2, o2, m2⟩ := Sf.capX I1 t1 x (ω'.getD x 0) (by
      rw [lowerAt_getD ω ω' xs x (fun y hy => hl y (List.mem_cons_of_mem _ hy))]
      split
      · exact Nat.le_refl _
      · exact hle x)
    exact ⟨H2, f2, I2, t2, fun lk h => (c1 lk fun y hy => h y (List.mem_cons_of_mem _ hy)).trans (c2 lk (h x List.mem_cons_self)) (fun _ h => h) fun i hi n => absurd hi n, s1.trans s2, fun a ha => m1 a (m2 a ha)⟩
/-- to any lesser depths; nothing is changed at the locked slots -/
theorem Sf.lower {ω ω' : List Nat} {env : Env} {foot : List (List Addr)} {lk : List Nat} (I : Inv X pins σ H s) (t : Sf X.K g ω σ H env foot) (hle : ∀ i, ω'.getD i 0 ≤ ω.getD i 0) (hlk : ∀ i ∈ lk, ω'.getD i 0 = ω.getD i 0) :
    ∃ H' foot', Inv X pins σ H' s ∧ Sf X.K g ω' σ H' env foot' ∧ Chg lk foot env H foot' env H' ∧ Stays H H' ∧ (∀ a, a ∈ foot'.flatten → a ∈ foot.flatten) := by
  let xs := (List.range ω.length).filter fun i => decide (i ∉ lk)
  obtain ⟨H', f', I', t', c, st, m⟩ := Sf.lowers hle xs I t (fun x hx => by
    have := (List.mem_filter.mp hx).1
    exact List.mem_range.mp this)
  refine ⟨H', f', I', t'.cong fun i => ?_, c lk (fun x hx => by simpa using (List.mem_filter.mp hx).2), st, m⟩
  rw [lowerAt_getD ω ω' xs i (fun x hx => List.mem_range.mp (List.mem_filter.mp hx).1)]
  split
  · rfl
  · rename_i h
    by_cases hi : i < ω.length
    · have : i ∈ lk := by
        by_cases hl : i ∈ lk
        · exact hl
        · exact absurd (List.mem_filter.mpr ⟨List.mem_range.mpr hi, by simpa using hl⟩) h
      exact hlk i this
    · have h1 : ω.getD i 0 = 0 := getD_out hi
      have h2 := hle i
      omega
end
end VK
set_option Elab.async false
set_option linter.all false
set_option maxHeartbeats 1000000
/-! judgements about expressions, over deep values -/
namespace VK
open PySem PySem.Spec PyProof.Rows L2

/-- what an exception is: its class's address, its fields' names -/
abbrev EC := Nat → Addr → List Str → Prop
def ExR (K : PySem.W.Frag) (g : GF) (ec : EC) (H : Hp) (x : D) (cls : Value) (dd : Option Addr) : Prop :=
  ∃ c fs C fl, x = .exc c fs ∧ ec c C fl ∧ cls = .ref C ∧ (fl = [] ∨ ∃ a vs, dd = some a ∧ H a = some (.xd (fl.zip vs)) ∧ Reps K g H fs vs ∧ fl.length = vs.length)

def Val (K : PySem.W.Frag) (g : GF) (lk : List Nat) (foot : List (List Addr)) (H : Hp) (foot' : List (List Addr)) (env' : Env) (H' : Hp) (ω' : List Nat) (σ : L2.St) (k : Nat) (base : Option Nat) (d : D) (v : V) : Prop := match base with
  | none => ∃ S, Own K g H' k d v S ∧ S.Nodup ∧ (∀ a ∈ S, a ∉ foot'.flatten) ∧ ∀ a ∈ S, Av lk foot a ∨ H a = none
  | some x => Rep K g H' d v ∨ ∃ js dx vx, env'[x]? = some (some dx) ∧ σ[x]? = some (some vx) ∧ AtP H' js dx vx d v ∧ js.length + k = ω'.getD x 0
/-- an exception's post -/
def PX (K : PySem.W.Frag) (g : GF) (ec : EC) (lk ω : List Nat) (σ : L2.St) (H : Hp) (foot : List (List Addr)) (env : Env) (x : D) (env' : Env) (cls : Value) (dd : Option Addr) (H' : Hp) : Prop :=
  ∃ ω' foot', (∀ i ∈ lk, ω'.getD i 0 = ω.getD i 0) ∧ Sf K g ω' σ H' env' foot' ∧ Chg lk foot env H foot' env' H' ∧ ExR K g ec H' x cls dd

/-- what is wanted of an answer -/
def Out {α : Type} (r : R α) (P : α → Env → Prop) (E : D → Env → Prop) : Prop := match r with
  | .ok a e => P a e
  | .exc x e => E x e
  | .err => False
theorem Out.imp {α : Type} {r : R α} {P P' : α → Env → Prop} {E E' : D → Env → Prop} (h : Out r P E) (hP : ∀ a e, r = .ok a e → P a e → P' a e) (hE : ∀ x e, E x e → E' x e) : Out r P' E' := by
  cases r with
  | ok a e => exact hP a e rfl h
  | exc x e => exact hE x e h
  | err => exact h
theorem Out.bind {α β : Type} {r : R α} {f : α → Env → R β} {P : β → Env → Prop} {E : D → Env → Prop} : Out (r.bind f) P E ↔ Out r (fun a e => Out (f a e) P E) E := by
  cases r <;> exact Iff.rfl
theorem Out.lift {α : Type} {o : Option α} {env : Env} {P : α → Env → Prop} {E : D → Env → Prop} (h : Out (liftO o env) P E) : ∃ a, o = some a ∧ P a env := by
  cases o with
  | none => exact h.elim
  | some a => exact ⟨a, rfl, h⟩
section
variable (K : PySem.W.Frag) (g : GF) (ec : EC) (W : WX)
/-- the reading of an expression whose answer is R.ok d env': Pv says what is told of the value -/
def tG {α : Type} {β : Type} (Pv : List Nat → L2.St → Hp → List (List Addr) → Env → α → Env → β → Hp → Prop) (lk ω : List Nat) (f : Env → R α) : L2.St → Hp → (β → Hp → Prop) → Prop := fun σ H Q =>
  ∃ env foot, Sf K g ω σ H env foot ∧ Out (f env) (fun d env' => ∀ v H', Pv lk σ H foot env d env' v H' → Q v H')
    (fun x env' => ∀ cls dd H', PX K g ec lk ω σ H foot env x env' cls dd H' → W cls dd σ H')
/-- a thing with its base -/
def PvP (ω' : List Nat) (k : Nat) (base : Option Nat) (lk : List Nat) (σ : L2.St) (H : Hp) (foot : List (List Addr)) (env : Env) (d : D) (env' : Env) (v : V) (H' : Hp) : Prop :=
  ∃ foot', Sf K g ω' σ H' env' foot' ∧ Chg lk foot env H foot' env' H' ∧ Val K g lk foot H foot' env' H' ω' σ k base d v
/-- a frozen thing -/
def PvV (ω' : List Nat) (lk : List Nat) (σ : L2.St) (H : Hp) (foot : List (List Addr)) (env : Env) (d : D) (env' : Env) (v : V) (H' : Hp) : Prop :=
  ∃ foot', Sf K g ω' σ H' env' foot' ∧ Chg lk foot env H foot' env' H' ∧ Rep K g H' d v
/-- a thing that is looked at: owned at most m deep; it stays while lk' is locked -/
def PvK (ω' : List Nat) (m : Nat) (lk' : List Nat) (lk : List Nat) (σ : L2.St) (H : Hp) (foot : List (List Addr)) (env : Env) (d : D) (env' : Env) (v : V) (H' : Hp) : Prop :=
  ∃ foot', Sf K g ω' σ H' env' foot' ∧ Chg lk foot env H foot' env' H' ∧ ∃ k S, k ≤ m ∧ Own K g H' k d v S ∧ ∀ a ∈ S, ¬ Av lk' foot' a
abbrev tP (lk ω ω' : List Nat) (k : Nat) (base : Option Nat) (f : Env → R D) : TE := tG K g ec W (PvP K g ω' k base) lk ω f
abbrev tV (lk ω ω' : List Nat) (f : Env → R D) : TE := tG K g ec W (PvV K g ω') lk ω f
abbrev tK (m : Nat) (lk' lk ω ω' : List Nat) (f : Env → R D) : TE := tG K g ec W (PvK K g ω' m lk') lk ω f
end

section
variable {X : Cx} {e : Expr}
theorem pe_imp {t t' : TE} (h : PE X e t) (i : ∀ σ H Q, t' σ H Q → t σ H Q) : PE X e t' := ⟨fun pins s σ H Q I q => h.run pins s σ H Q I (i σ H Q q)⟩
/-- what is told of the value may be told anew, in a heap where more is frozen -/
theorem pe_ghost {t t' : TE} (h : PE X e t) (i : ∀ σ H Q, t' σ H Q → t σ H fun v H1 => ∀ pins s, Inv X pins σ H1 s → ∃ H2, Inv X pins σ H2 s ∧ Q v H2) : PE X e t' :=
  ⟨fun pins s σ H Q I q => thn (h.run pins s σ H _ I (i σ H Q q)) fun u s' ⟨v, H', I', r, q'⟩ => by
    obtain ⟨H2, I2, q2⟩ := q' pins s' I'
    exact ⟨v, H2, I2, r, q2⟩⟩
variable {g : GF} {ec : EC} {W : WX} {lk ω : List Nat} {f : Env → R D}
/-- the general move: f's post Pv is turned into Pv' by a freezing -/
theorem pe_turn {Pv Pv' : List Nat → L2.St → Hp → List (List Addr) → Env → D → Env → V → Hp → Prop} (h : PE X e (tG X.K g ec W Pv lk ω f))
    (i : ∀ σ H foot env d env' v H1, Sf X.K g ω σ H env foot → Pv lk σ H foot env d env' v H1 → ∀ pins s, Inv X pins σ H1 s → ∃ H2, Inv X pins σ H2 s ∧ Pv' lk σ H foot env d env' v H2) : PE X e (tG X.K g ec W Pv' lk ω f) := by
  refine pe_ghost h fun σ H Q hq => ?_
  obtain ⟨env, foot, sf, hq⟩ := hq
  refine ⟨env, foot, sf, hq.imp (fun d env' _ hq v H1 pv pins s I => ?_) fun _ _ h => h⟩
  obtain ⟨H2, I2, q2⟩ := i σ H foot env d env' v H1 sf pv pins s I
  exact ⟨H2, I2, hq v H2 q2⟩

/-! ### turning a thing with its base -/
/-- frozen: the base loses what lay below -/
def valO (lk : List Nat) (r : List Nat × Nat × Option Nat) : Option (List Nat) := match r with
  | (ω', _, none) => some ω'
  | (ω', k, some x) => if x ∈ lk then none else some (ω'.set x (ω'.getD x 0 - k))
theorem Own.flat {K : PySem.W.Frag} {H : Hp} {d : D} {v : V} (r : Rep K g H d v) (hl : ∀ ds, d ≠ .lst ds) (hd : ∀ es, d ≠ .dic es) (k : Nat) : Own K g H k d v [] := by
  cases k with
  | zero => exact ⟨rfl, r⟩
  | succ k =>
    cases d with
    | lst ds => exact absurd rfl (hl ds)
    | dic es => exact absurd rfl (hd es)
    | _ => exact ⟨rfl, r⟩
theorem pe_val {ω' ω'' : List Nat} {k : Nat} {base : Option Nat} (h : PE X e (tP X.K g ec W lk ω ω' k base f)) (hv : valO lk (ω', k, base) = some ω'') : PE X e (tV X.K g ec W lk ω ω'' f) := by
  refine pe_turn h fun σ H foot env d env' v H1 sf0 ⟨f1, sf, c, val⟩ pins s I => ?_
  cases base with
  | none =>
    obtain ⟨S, o, nd, dj, own⟩ := val
    simp only [valO, Option.some.injEq] at hv
    subst hv
    obtain ⟨H2, S', I2, o2, fz⟩ := Own.cap (g := g) k 0 H1 d v S I nd o
    rw [Nat.min_zero] at o2
    have st := fz.stays (fun a ha => o.mut a ha)
    refine ⟨H2, I2, f1, ⟨sf.len, sf.lenF, fun i d' ei => ?_, sf.dead, sf.nd⟩, ?_, o2.2⟩
    · obtain ⟨w, T, h1, h2, q⟩ := sf.slot i d' ei
      exact ⟨w, T, h1, h2, q.stay st fun a ha u eu => (fz.out a fun z => dj a z (List.mem_flatten.mpr ⟨T, List.mem_of_getElem? h2, ha⟩)).trans eu⟩
    · refine ⟨⟨fun a u ea na => ?_, fun a na => fz.step.dom a (c.step.dom a na)⟩, c.own, c.lkd, c.len⟩
      have e1 := c.step.keep a u ea na
      rw [fz.out a fun z => ?_]
      · exact e1
      · rcases own a z with q | q
        · exact na q
        · rw [q] at ea; cases ea
  | some x =>
    simp only [valO] at hv
    split at hv
    · cases hv
    · rename_i hx
      simp only [Option.some.injEq] at hv
      subst hv
      obtain ⟨H2, f2, I2, sf2, c2, at2, st2, _, _⟩ := Sf.capX (g := g) I sf x (ω'.getD x 0 - k) (Nat.sub_le _ _)
      refine ⟨H2, I2, f2, sf2, c.trans (c2 lk hx) (fun _ h => h) (fun i hi n => absurd hi n), ?_⟩
      rcases val with r | ⟨js, dx, vx, e1, e2, ap, el⟩
      · exact r.stay st2
      · have hl : ω'.getD x 0 - k = js.length := by omega
        have ap2 := at2 js dx vx d v e1 e2 (by omega) ap
        obtain ⟨vx', S, h1, _, o⟩ := sf2.slot x dx e1
        rw [e2] at h1; cases h1
        by_cases hxl : x < ω'.length
        · rw [getD_set ω' x _ x hxl, if_pos rfl, hl] at o
          exact (AtP.own (k := 0) ap2 o).choose_spec.2.2
        · have : ω'.getD x 0 = 0 := getD_out hxl
          have h0 : js.length = 0 := by omega
          have o' : Own X.K g H2 (js.length + 0) dx vx S := by
            rw [h0]
            rw [List.set_eq_of_length_le (by omega), this] at o
            exact o
          exact (AtP.own (k := 0) ap2 o').choose_spec.2.2
end
end VK
set_option Elab.async false
set_option linter.all false
set_option maxHeartbeats 1000000
/-! operators -/
namespace VK
open PySem PySem.Spec PyProof.Rows L2

section
variable {X : Cx} {e : Expr} {g : GF} {ec : EC} {W : WX} {lk ω : List Nat} {f : Env → R D}
theorem no_mem {P : Addr → Prop} : ∀ a ∈ ([] : List Addr), P a := fun a h => by cases h
/-- a peek: what is locked meanwhile, how deep the base is left -/
def pkO (m : Nat) (lk : List Nat) (r : List Nat × Nat × Option Nat) : Option (List Nat × List Nat) := match r with
  | (ω', _, none) => some (ω', lk)
  | (ω', k, some x) => if x ∈ lk then (if k ≤ m then some (ω', lk) else none) else some (if k ≤ m then ω' else ω'.set x (ω'.getD x 0 - (k - m)), x :: lk)
theorem pe_peek {ω' ω'' lk' : List Nat} {k m : Nat} {base : Option Nat} (h : PE X e (tP X.K g ec W lk ω ω' k base f)) (hv : pkO m lk (ω', k, base) = some (ω'', lk')) : PE X e (tK X.K g ec W m lk' lk ω ω'' f) := by
  refine pe_turn h fun σ H foot env d env' v H1 sf0 ⟨f1, sf, c, val⟩ pins s I => ?_
  cases base with
  | none =>
    obtain ⟨S, o, nd, dj, own⟩ := val
    simp only [pkO, Option.some.injEq, Prod.mk.injEq] at hv
    obtain ⟨rfl, rfl⟩ := hv
    obtain ⟨H2, S', I2, o2, fz⟩ := Own.cap (g := g) k m H1 d v S I nd o
    have st := fz.stays (fun a ha => o.mut a ha)
    refine ⟨H2, I2, f1, ⟨sf.len, sf.lenF, fun i d' ei => ?_, sf.dead, sf.nd⟩, ?_, _, S', Nat.min_le_right _ _, o2, fun a ha z => dj a (fz.sub.subset ha) z.mem⟩
    · obtain ⟨w, T, h1, h2, q⟩ := sf.slot i d' ei
      exact ⟨w, T, h1, h2, q.stay st fun a ha u eu => (fz.out a fun z => dj a z (List.mem_flatten.mpr ⟨T, List.mem_of_getElem? h2, ha⟩)).trans eu⟩
    · refine ⟨⟨fun a u ea na => ?_, fun a na => fz.step.dom a (c.step.dom a na)⟩, c.own, c.lkd, c.len⟩
      have e1 := c.step.keep a u ea na
      rw [fz.out a fun z => ?_]
      · exact e1
      · rcases own a z with q | q
        · exact na q
        · rw [q] at ea; cases ea
  | some x =>
    have key : ∀ {H2 : Hp} {f2 : List (List Addr)} {ω2 : List Nat} {k' : Nat}, Sf X.K g ω2 σ H2 env' f2 → x ∈ lk' → (Rep X.K g H2 d v ∨ ∃ js dx vx, env'[x]? = some (some dx) ∧ σ[x]? = some (some vx) ∧ AtP H2 js dx vx d v ∧ js.length + k' = ω2.getD x 0) → k' ≤ m →
        ∃ k S, k ≤ m ∧ Own X.K g H2 k d v S ∧ ∀ a ∈ S, ¬ Av lk' f2 a := fun {H2 f2 ω2 k'} sf2 hx val hk => by
      rcases val with r | ⟨js, dx, vx, e1, e2, ap, el⟩
      · exact ⟨0, [], Nat.zero_le _, ⟨rfl, r⟩, no_mem⟩
      · obtain ⟨vx', S, h1, h2, o⟩ := sf2.slot x dx e1
        rw [e2] at h1; cases h1
        rw [← el] at o
        obtain ⟨T, hT, oT⟩ := AtP.own ap o
        refine ⟨k', T, hk, oT, fun a ha z => ?_⟩
        obtain ⟨i, U, ni, hU, haU⟩ := z
        exact ni (by rw [foot_disj sf2.nd hU h2 haU (hT a ha)]; exact hx)
    simp only [pkO] at hv
    split at hv
    · rename_i hx
      split at hv
      · rename_i hk
        simp only [Option.some.injEq, Prod.mk.injEq] at hv
        obtain ⟨rfl, rfl⟩ := hv
        exact ⟨H1, I, f1, sf, c, key sf hx val hk⟩
      · cases hv
    · rename_i hx
      simp only [Option.some.injEq, Prod.mk.injEq] at hv
      obtain ⟨rfl, rfl⟩ := hv
      by_cases hk : k ≤ m
      · rw [if_pos hk]
        exact ⟨H1, I, f1, sf, c, key sf List.mem_cons_self val hk⟩
      · rw [if_neg hk]
        obtain ⟨H2, f2, I2, sf2, c2, at2, st2, _, _⟩ := Sf.capX (g := g) I sf x (ω'.getD x 0 - (k - m)) (Nat.sub_le _ _)
        refine ⟨H2, I2, f2, sf2, c.trans (c2 lk hx) (fun _ h => h) (fun i hi n => absurd hi n), key (k' := m) sf2 List.mem_cons_self ?_ (Nat.le_refl _)⟩
        rcases val with r | ⟨js, dx, vx, e1, e2, ap, el⟩
        · exact .inl (r.stay st2)
        · refine .inr ⟨js, dx, vx, e1, e2, at2 js dx vx d v e1 e2 (by omega) ap, ?_⟩
          by_cases hxl : x < ω'.length
          · rw [getD_set ω' x _ x hxl, if_pos rfl]; omega
          · have : ω'.getD x 0 = 0 := getD_out hxl
            omega
/-- a frozen thing is a thing without a base, owned not at all -/
theorem pe_ofV {ω' : List Nat} (h : PE X e (tV X.K g ec W lk ω ω' f)) : PE X e (tP X.K g ec W lk ω ω' 0 none f) :=
  pe_turn h fun σ H foot env d env' v H1 sf0 ⟨f1, sf, c, r⟩ pins s I => ⟨H1, I, f1, sf, c, [], ⟨rfl, r⟩, .nil, no_mem, no_mem⟩
/-- owned less deep -/
theorem pe_capT {ω' : List Nat} {k m : Nat} (hm : m ≤ k) (h : PE X e (tP X.K g ec W lk ω ω' k none f)) : PE X e (tP X.K g ec W lk ω ω' m none f) := by
  refine pe_turn h fun σ H foot env d env' v H1 sf0 ⟨f1, sf, c, S, o, nd, dj, own⟩ pins s I => ?_
  obtain ⟨H2, S', I2, o2, fz⟩ := Own.cap (g := g) k m H1 d v S I nd o
  rw [Nat.min_eq_right hm] at o2
  have st := fz.stays (fun a ha => o.mut a ha)
  refine ⟨H2, I2, f1, ⟨sf.len, sf.lenF, fun i d' ei => ?_, sf.dead, sf.nd⟩, ?_, S', o2, fz.sub.nodup nd, fun a ha => dj a (fz.sub.subset ha), fun a ha => own a (fz.sub.subset ha)⟩
  · obtain ⟨w, T, h1, h2, q⟩ := sf.slot i d' ei
    exact ⟨w, T, h1, h2, q.stay st fun a ha u eu => (fz.out a fun z => dj a z (List.mem_flatten.mpr ⟨T, List.mem_of_getElem? h2, ha⟩)).trans eu⟩
  · refine ⟨⟨fun a u ea na => ?_, fun a na => fz.step.dom a (c.step.dom a na)⟩, c.own, c.lkd, c.len⟩
    have e1 := c.step.keep a u ea na
    rw [fz.out a fun z => ?_]
    · exact e1
    · rcases own a z with q | q
      · exact na q
      · rw [q] at ea; cases ea
/-- less depths from now on -/
theorem pe_lowerP {ω' ω'' : List Nat} {k : Nat} (hle : ∀ i, ω''.getD i 0 ≤ ω'.getD i 0) (hlk : ∀ i ∈ lk, ω''.getD i 0 = ω'.getD i 0) (h : PE X e (tP X.K g ec W lk ω ω' k none f)) : PE X e (tP X.K g ec W lk ω ω'' k none f) := by
  refine pe_turn h fun σ H foot env d env' v H1 sf0 ⟨f1, sf, c, S, o, nd, dj, own⟩ pins s I => ?_
  obtain ⟨H2, f2, I2, sf2, c2, st, mm⟩ := Sf.lower (g := g) I sf hle hlk
  refine ⟨H2, I2, f2, sf2, c.trans c2 (fun _ h => h) (fun i hi n => absurd hi n), S, o.stay st fun a ha u eu => ?_, nd, fun a ha z => dj a ha (mm a z), own⟩
  exact c2.step.keep a u eu fun z => dj a ha z.mem
theorem pe_lowerV {ω' ω'' : List Nat} (hle : ∀ i, ω''.getD i 0 ≤ ω'.getD i 0) (hlk : ∀ i ∈ lk, ω''.getD i 0 = ω'.getD i 0) (h : PE X e (tV X.K g ec W lk ω ω' f)) : PE X e (tV X.K g ec W lk ω ω'' f) := by
  refine pe_turn h fun σ H foot env d env' v H1 sf0 ⟨f1, sf, c, r⟩ pins s I => ?_
  obtain ⟨H2, f2, I2, sf2, c2, st, mm⟩ := Sf.lower (g := g) I sf hle hlk
  exact ⟨H2, I2, f2, sf2, c.trans c2 (fun _ h => h) (fun i hi n => absurd hi n), r.stay st⟩
end

/-! ### new things -/
section
variable {K : PySem.W.Frag} {g : GF} {ω lk : List Nat} {σ : L2.St} {H : Hp} {env env' : Env} {foot foot' : List (List Addr)}
theorem Sf.new (t : Sf K g ω σ H env foot) {p : Addr} {o : HO} (n : H p = none) : Sf K g ω σ (upd H p o) env foot :=
  ⟨t.len, t.lenF, fun i d e => by
    obtain ⟨v, S, h1, h2, q⟩ := t.slot i d e
    exact ⟨v, S, h1, h2, q.stay (Stays.new n) fun a ha u eu => by rw [upd_ne (ne_of_none eu n)]; exact eu⟩, t.dead, t.nd⟩
theorem Chg.new {H0 : Hp} (c : Chg lk foot env H0 foot' env' H) {p : Addr} {o : HO} (n : H p = none) : Chg lk foot env H0 foot' env' (upd H p o) :=
  ⟨⟨fun a u e na => by
    have e1 := c.step.keep a u e na
    rw [upd_ne (ne_of_none e1 n)]; exact e1, fun a na => (Step.new (A := fun _ => False) n).dom a (c.step.dom a na)⟩, c.own, c.lkd, c.len⟩
theorem Sf.notFoot (t : Sf K g ω σ H env foot) {p : Addr} (n : H p = none) : p ∉ foot.flatten := fun z => by
  obtain ⟨o, e, _⟩ := t.mut p z
  rw [n] at e; cases e

/-- the answer is a flat thing, or a new list or tuple -/
inductive New (K : PySem.W.Frag) (g : GF) (H : Hp) : D → V → Hp → Prop
  | flat {d : D} {v : V} (r : Rep K g H d v) (hl : ∀ ds, d ≠ .lst ds) (hd : ∀ es, d ≠ .dic es) : New K g H d v H
  | lst {p : Addr} {ds : List D} {xs : List V} (n : H p = none) (r : Reps K g H ds xs) : New K g H (.lst ds) (.ref p) (upd H p (.lst xs))
  | tup {p : Addr} {ds : List D} {xs : List V} (n : H p = none) (r : Reps K g H ds xs) : New K g H (.tup ds) (.ref p) (upd H p (.tup xs))
theorem New.post {H0 H' : Hp} {d : D} {v : V} (w : New K g H d v H') (t : Sf K g ω σ H env' foot') (c : Chg lk foot env H0 foot' env' H) : PvP K g ω 1 none lk σ H0 foot env d env' v H' := by
  cases w with
  | flat r hl hd => exact ⟨foot', t, c, [], Own.flat r hl hd 1, .nil, no_mem, no_mem⟩
  | lst n r =>
    rename_i p ds xs
    refine ⟨foot', t.new n, c.new n, [p], Own.one upd_same (r.stay (Stays.new n)), (by simp), fun a ha => ?_, fun a ha => ?_⟩
    · obtain rfl := List.mem_singleton.mp ha
      exact t.notFoot n
    · obtain rfl := List.mem_singleton.mp ha
      exact .inr (c.none_of n)
  | tup n r => exact ⟨foot', t.new n, c.new n, [], ⟨rfl, .tup (SqT.of upd_same) (r.stay (Stays.new n))⟩, .nil, no_mem, no_mem⟩
/-- a readable thing with frozen parts -/
def Vw (K : PySem.W.Frag) (g : GF) (H : Hp) (m : Nat) (d : D) (v : V) : Prop := ∃ k S, k ≤ m ∧ Own K g H k d v S
theorem Vw.lst {ds : List D} {v : V} (h : Vw K g H 1 (.lst ds) v) : ∃ a xs, v = .ref a ∧ SqL K H a xs ∧ Reps K g H ds xs := by
  obtain ⟨k, S, hk, o⟩ := h
  cases k with
  | zero =>
    obtain ⟨_, r⟩ := o
    cases r with
    | lst h r => exact ⟨_, _, rfl, h.sq, r⟩
  | succ k =>
    obtain rfl : k = 0 := by omega
    obtain ⟨a, xs, Ss, ev, e, r, _⟩ := o
    exact ⟨a, xs, ev, SqL.of e, (OwnL.reps r).1⟩
theorem Vw.rep {m : Nat} {d : D} {v : V} (h : Vw K g H m d v) (hl : ∀ ds, d ≠ .lst ds) (hd : ∀ es, d ≠ .dic es) : Rep K g H d v := by
  obtain ⟨k, S, hk, o⟩ := h
  cases k with
  | zero => exact o.2
  | succ k =>
    cases d with
    | lst ds => exact absurd rfl (hl ds)
    | dic es => exact absurd rfl (hd es)
    | _ => exact o.2
theorem Vw.int {m : Nat} {i : Int} {v : V} (h : Vw K g H m (.int i) v) : v = .int i := by
  cases h.rep (fun _ z => nomatch z) (fun _ z => nomatch z); rfl
theorem Vw.str {m : Nat} {i : Str} {v : V} (h : Vw K g H m (.str i) v) : v = .str i := by
  cases h.rep (fun _ z => nomatch z) (fun _ z => nomatch z); rfl
theorem Vw.bl {m : Nat} {i : Bool} {v : V} (h : Vw K g H m (.bl i) v) : v = .bl i := by
  cases h.rep (fun _ z => nomatch z) (fun _ z => nomatch z); rfl
theorem Vw.non {m : Nat} {v : V} (h : Vw K g H m .non v) : v = .non := by
  cases h.rep (fun _ z => nomatch z) (fun _ z => nomatch z); rfl
theorem Vw.tup {m : Nat} {ds : List D} {v : V} (h : Vw K g H m (.tup ds) v) : ∃ a xs, v = .ref a ∧ SqT K H a xs ∧ Reps K g H ds xs := by
  have h0 := h.rep (fun _ z => nomatch z) (fun _ z => nomatch z)
  cases h0 with
  | tup h' r' => exact ⟨_, _, rfl, h', r'⟩
end

/-! ### data as the library's data: for == and in -/
section
variable {K : PySem.W.Frag} {g : GF} {H : Hp}
mutual
theorem Rep.dp : ∀ {d : D} {v : V}, Rep K g H d v → (toPy d).canLay0 = true → Dp K H v (toPy d)
  | _, _, .non, _ => .non
  | _, _, .bl b, _ => .bl b
  | _, _, .int i, _ => .int i
  | _, _, .str s, _ => .str s
  | _, _, .tup h r, c => .tup h (Reps.dp r c)
  | _, _, .lst h r, c => .lst h.sq (Reps.dp r c)
  | _, _, .dic _ _, c => by cases c
  | _, _, .fn _, c => by cases c
theorem Reps.dp : ∀ {ds : List D} {vs : List V}, Reps K g H ds vs → PyData.canLayAll0 (toPys ds) = true → DpAll K H vs (toPys ds)
  | _, _, .nil, _ => .nil
  | _, _, .cons h r, c => by
    have c' := Bool.and_eq_true_iff.mp (show ((toPy _).canLay0 && PyData.canLayAll0 (toPys _)) = true from c)
    exact .cons (h.dp c'.1) (Reps.dp r c'.2)
end
theorem OwnL.dp {P : D → V → List Addr → Prop} (f : ∀ d v S, P d v S → (toPy d).canLay0 = true → Dp K H v (toPy d)) : ∀ {ds : List D} {vs : List V} {Ss : List (List Addr)}, OwnL P ds vs Ss → PyData.canLayAll0 (toPys ds) = true → DpAll K H vs (toPys ds)
  | [], [], [], _, _ => .nil
  | d :: ds, v :: vs, S :: Ss, h, c => by
    have c' := Bool.and_eq_true_iff.mp (show ((toPy d).canLay0 && PyData.canLayAll0 (toPys ds)) = true from c)
    exact .cons (f d v S h.1 c'.1) (OwnL.dp f h.2 c'.2)
  | [], [], _ :: _, h, _ => h.elim
  | [], _ :: _, [], h, _ => h.elim
  | [], _ :: _, _ :: _, h, _ => h.elim
  | _ :: _, [], [], h, _ => h.elim
  | _ :: _, [], _ :: _, h, _ => h.elim
  | _ :: _, _ :: _, [], h, _ => h.elim
theorem Own.dp : ∀ {k : Nat} {d : D} {v : V} {S : List Addr}, Own K g H k d v S → (toPy d).canLay0 = true → Dp K H v (toPy d)
  | 0, d, v, S, h, c => h.2.dp c
  | k + 1, .lst ds, v, S, ⟨a, xs, Ss, ev, e, r, _⟩, c => by
    subst ev
    exact .lst (SqL.of e) (OwnL.dp (fun d v S h c => Own.dp h c) r c)
  | k + 1, .dic es, v, S, h, c => by cases c
  | k + 1, .non, v, S, h, c => h.2.dp c
  | k + 1, .bl _, v, S, h, c => h.2.dp c
  | k + 1, .int _, v, S, h, c => h.2.dp c
  | k + 1, .str _, v, S, h, c => h.2.dp c
  | k + 1, .tup _, v, S, h, c => h.2.dp c
  | k + 1, .set _, v, S, h, c => by cases c
  | k + 1, .fn _, v, S, h, c => by cases c
  | k + 1, .exc _ _, v, S, h, c => by cases c
theorem Vw.dp {m : Nat} {d : D} {v : V} (h : Vw K g H m d v) (c : plain d = true) : Dp K H v (toPy d) := by
  obtain ⟨k, S, _, o⟩ := h
  exact o.dp (SeqAt.canLay_of_shaped c)
theorem anyIn_eq (x : D) : ∀ ds : List D, ((toPys ds).any fun z => PyData.eqv z (toPy x)) = anyIn x ds
  | [] => rfl
  | d :: ds => by
    show (PyData.eqv (toPy d) (toPy x) || (toPys ds).any fun z => PyData.eqv z (toPy x)) = (deq d x || anyIn x ds)
    rw [anyIn_eq x ds]; rfl
end
end VK
set_option Elab.async false
set_option linter.all false
set_option maxHeartbeats 1000000
/-! operators by values -/
namespace VK
open PySem PySem.Spec PyProof.Rows L2
def opOf : Op → Operator
  | .add => .Add | .sub => .Sub | .mul => .Mult | .fdiv => .FloorDiv | .mod => .Mod | .band => .BitAnd | .bor => .BitOr | .shl => .LShift | .shr => .RShift | .pow => .Pow | .rep => .Mult
section
variable {X : Cx} {g : GF}
/-- a list and a list -/
theorem op_catL : OpR X (binaryOp .Add) (fun x y H Q => ∃ a b xs zs, x = .ref a ∧ y = .ref b ∧ SqL X.K H a xs ∧ SqL X.K H b zs ∧ xs.length + zs.length ≤ sizeLine ∧ ∀ p, H p = none → Q (.ref p) (upd H p (.lst (xs ++ zs)))) := by
  intro pins s σ H x y v u Q I rx ry h
  obtain ⟨l, b, xs, zs, rfl, rfl, hH, hB, hz, q⟩ := h
  cases rx
  cases ry
  obtain ⟨its, r, ⟨⟨cls, dd, data, sl⟩, n, ho, hc, hdd, hd⟩, z⟩ := I.list hH
  obtain ⟨its2, r2, ⟨⟨cls2, dd2, data2, sl2⟩, n2, ho2, hc2, hdd2, hd2⟩, z2⟩ := I.list hB
  simp only at hc hd hc2 hd2
  subst hc hd hc2 hd2
  have hl := r.length
  have hl2 := r2.length
  have e : its.toArray ++ its2.toArray = (its ++ its2).toArray := by simp
  refine concat_meets ⟨_, ho, rfl⟩ ⟨_, ho2, rfl⟩ noFill_list_add seq_list_add PySem.F.slot_list_add PySem.F.entry_list_add (PySem.F.args_list_add_2 _ _) (list_addW l b its.toArray its2.toArray n n2 dd dd2 sl sl2 (by simp only [List.size_toArray]; omega)) ⟨ho, ho2, ?_⟩
  rw [e]
  exact ⟨.ref _, _, I.lnew (t' := s.toks) (r.append r2) (by rw [List.length_append]; omega), rfl, q _ I.fresh⟩

def rOpD (K : PySem.W.Frag) (g : GF) (o : Op) : R2 := fun x y H Q => ∃ d1 d2 d, Vw K g H 1 d1 x ∧ Vw K g H 1 d2 y ∧ opD o d1 d2 = some d ∧ ∀ v H', New K g H d v H' → Q v H'
theorem New.int {K : PySem.W.Frag} {H : Hp} (i : Int) : New K g H (.int i) (.int i) H := .flat (.int i) (fun _ z => nomatch z) fun _ z => nomatch z
theorem New.bl {K : PySem.W.Frag} {H : Hp} (i : Bool) : New K g H (.bl i) (.bl i) H := .flat (.bl i) (fun _ z => nomatch z) fun _ z => nomatch z
theorem New.str {K : PySem.W.Frag} {H : Hp} (i : Str) : New K g H (.str i) (.str i) H := .flat (.str i) (fun _ z => nomatch z) fun _ z => nomatch z
theorem New.non {K : PySem.W.Frag} {H : Hp} : New K g H .non .non H := .flat .non (fun _ z => nomatch z) fun _ z => nomatch z
theorem New.oldT {K : PySem.W.Frag} {H : Hp} {a : Addr} {xs : List V} {ds : List D} (h : SqT K H a xs) (r : Reps K g H ds xs) : New K g H (.tup ds) (.ref a) H := .flat (.tup h r) (fun _ z => nomatch z) fun _ z => nomatch z
theorem SZ_eq : SZ = sizeLine := sizeLine_eq.symm
theorem op_all (o : Op) (ho : o ≠ .rep) : OpR X (binaryOp (opOf o)) (rOpD X.K g o) := by
  intro pins s σ H x y v u Q I rx ry h
  obtain ⟨d1, d2, d, w1, w2, he, q⟩ := h
  have ii : ∀ {i j : Int}, d1 = .int i → d2 = .int j → x = .int i ∧ y = .int j := fun e1 e2 => by subst e1 e2; exact ⟨w1.int, w2.int⟩
  cases o with
  | rep => exact absurd rfl ho
  | add =>
    cases d1 <;> cases d2 <;> simp only [opD, reduceCtorEq, Option.some.injEq] at he
    · obtain ⟨e1, e2⟩ := ii rfl rfl
      subst he
      exact op_add pins s σ H _ _ v u Q I rx ry ⟨_, _, e1, e2, q _ _ (.int _)⟩
    · split at he <;> cases he
      rename_i hz
      rw [SZ_eq] at hz
      exact op_add_str pins s σ H _ _ v u Q I rx ry ⟨_, _, w1.str, w2.str, hz, q _ _ (.str _)⟩
    · split at he <;> cases he
      rename_i hz
      rw [SZ_eq] at hz
      obtain ⟨a, xs, e1, h1, r1⟩ := w1.tup
      obtain ⟨b, ys, e2, h2, r2⟩ := w2.tup
      have l1 := r1.length
      have l2 := r2.length
      refine op_catA pins s σ H _ _ v u Q I rx ry ⟨a, b, xs, ys, e1, e2, h1, h2, by omega, fun z => ?_, fun _ z => ?_, fun _ _ p n => ?_⟩
      · subst z
        cases r1
        exact q _ _ (.oldT h2 r2)
      · subst z
        cases r2
        rw [List.append_nil] at q
        exact q _ _ (.oldT h1 r1)
      · exact q _ _ (.tup n (r1.append r2))
    · split at he <;> cases he
      rename_i hz
      rw [SZ_eq] at hz
      obtain ⟨a, xs, e1, h1, r1⟩ := w1.lst
      obtain ⟨b, ys, e2, h2, r2⟩ := w2.lst
      have l1 := r1.length
      have l2 := r2.length
      exact op_catL pins s σ H _ _ v u Q I rx ry ⟨a, b, xs, ys, e1, e2, h1, h2, by omega, fun p n => q _ _ (.lst n (r1.append r2))⟩
  | sub =>
    cases d1 <;> cases d2 <;> simp only [opD, reduceCtorEq, Option.some.injEq] at he
    obtain ⟨e1, e2⟩ := ii rfl rfl
    subst he
    exact op_sub pins s σ H _ _ v u Q I rx ry ⟨_, _, e1, e2, q _ _ (.int _)⟩
  | mul =>
    cases d1 <;> cases d2 <;> simp only [opD, reduceCtorEq, Option.some.injEq] at he
    · split at he <;> cases he
      rename_i hz
      obtain ⟨e1, e2⟩ := ii rfl rfl
      exact op_mulW pins s σ H _ _ v u Q I rx ry ⟨_, _, e1, e2, (by have z := hz; simp [bigMul] at z; exact z), q _ _ (.int _)⟩
    · split at he <;> cases he
      rename_i hz
      obtain ⟨a, xs, e1, h1, r1⟩ := w1.tup
      have l1 := r1.length
      refine op_repT pins s σ H _ _ v u Q I rx ry ⟨a, _, xs, e1, w2.int, h1, fun z => ?_, hz.1, hz.2.1, by omega, fun p n => q _ _ (.tup n (r1.rep _))⟩
      subst z
      cases r1
      exact absurd hz.2.2.1 (by simp)
  | fdiv =>
    cases d1 <;> cases d2 <;> simp only [opD, reduceCtorEq, Option.some.injEq] at he
    obtain ⟨e1, e2⟩ := ii rfl rfl
    split at he
    · rename_i hz
      cases he
      exact op_fdivW pins s σ H _ _ v u Q I rx ry ⟨_, _, e1, e2, hz, q _ _ (.int _)⟩
    · split at he <;> cases he
      rename_i hz
      exact op_fdivN pins s σ H _ _ v u Q I rx ry ⟨_, _, e1, e2, hz, q _ _ (.int _)⟩
  | mod =>
    cases d1 <;> cases d2 <;> simp only [opD, reduceCtorEq, Option.some.injEq] at he
    obtain ⟨e1, e2⟩ := ii rfl rfl
    split at he <;> cases he
    rename_i hz
    exact op_mod pins s σ H _ _ v u Q I rx ry ⟨_, _, e1, e2, hz, q _ _ (.int _)⟩
  | band =>
    cases d1 <;> cases d2 <;> simp only [opD, reduceCtorEq, Option.some.injEq] at he
    obtain ⟨e1, e2⟩ := ii rfl rfl
    subst he
    exact op_and pins s σ H _ _ v u Q I rx ry ⟨_, _, e1, e2, q _ _ (.int _)⟩
  | bor =>
    cases d1 <;> cases d2 <;> simp only [opD, reduceCtorEq, Option.some.injEq] at he
    obtain ⟨e1, e2⟩ := ii rfl rfl
    subst he
    exact op_or pins s σ H _ _ v u Q I rx ry ⟨_, _, e1, e2, q _ _ (.int _)⟩
  | shl =>
    cases d1 <;> cases d2 <;> simp only [opD, reduceCtorEq, Option.some.injEq] at he
    obtain ⟨e1, e2⟩ := ii rfl rfl
    split at he <;> cases he
    rename_i hz
    exact op_shl pins s σ H _ _ v u Q I rx ry ⟨_, _, e1, e2, hz, q _ _ (.int _)⟩
  | shr =>
    cases d1 <;> cases d2 <;> simp only [opD, reduceCtorEq, Option.some.injEq] at he
    obtain ⟨e1, e2⟩ := ii rfl rfl
    split at he <;> cases he
    rename_i hz
    exact op_shr pins s σ H _ _ v u Q I rx ry ⟨_, _, e1, e2, hz, q _ _ (.int _)⟩
  | pow =>
    cases d1 <;> cases d2 <;> simp only [opD, reduceCtorEq, Option.some.injEq] at he
    obtain ⟨e1, e2⟩ := ii rfl rfl
    split at he <;> cases he
    rename_i hz
    exact op_pow pins s σ H _ _ v u Q I rx ry ⟨_, _, e1, e2, hz, q _ _ (.int _)⟩
end
end VK
set_option Elab.async false
set_option linter.all false
set_option maxHeartbeats 1000000
/-! comparisons, subscripts by values -/
namespace VK
open PySem PySem.Spec PyProof.Rows L2
def cmOf : Cm → CmpOp
  | .eq => .Eq | .ne => .NotEq | .lt => .Lt | .le => .LtE | .gt => .Gt | .ge => .GtE | .isN => .Is | .notN => .IsNot | .inn => .In | .notin => .NotIn
section
variable {K : PySem.W.Frag} {g : GF} {H : Hp}
theorem Vw.dic {m : Nat} {es : List (D × D)} {v : V} (h : Vw K g H m (.dic es) v) : ∃ a kvs, v = .ref a ∧ Rd H a (.dK kvs) ∧ RepK K g H es kvs := by
  obtain ⟨k, S, hk, o⟩ := h
  cases k with
  | zero =>
    have o2 := o.2
    cases o2 with
    | dic h r => exact ⟨_, _, rfl, .inr ⟨_, h⟩, r⟩
  | succ k =>
    obtain ⟨a, kvs, ev, e, r, _⟩ := o
    exact ⟨a, kvs, ev, .inl e, r⟩
def keyOf : D → Option Key
  | .int i => some (.inl i)
  | .str s => some (.inr s)
  | _ => none
theorem keyOf_kD {x : D} {k : Key} (h : keyOf x = some k) : x = kD k := by
  cases x <;> simp [keyOf] at h <;> subst h <;> rfl
theorem isKey_of {x : D} (h : isKey x = true) : ∃ k, x = kD k := by
  cases x <;> simp [isKey] at h
  · exact ⟨.inl _, rfl⟩
  · exact ⟨.inr _, rfl⟩
theorem Vw.key {m : Nat} {k : Key} {v : V} (h : Vw K g H m (kD k) v) : v = kV k := by
  cases k with
  | inl i => exact Vw.int (show Vw K g H m (.int i) v from h)
  | inr s => exact Vw.str (show Vw K g H m (.str s) v from h)
theorem str_beq (x y : Str) : (x == y) = decide (x = y) := by
  by_cases h : x = y
  · subst h; simp
  · rw [decide_eq_false h]; exact beq_eq_false_iff_ne.mpr h
theorem deq_kD (j k : Key) : deq (kD j) (kD k) = decide (j = k) := by
  cases j with
  | inl i =>
    cases k with
    | inl i' =>
      show (i == i') = _
      rw [key_ll]
    | inr s =>
      show false = _
      rw [key_lr]
  | inr s =>
    cases k with
    | inl i =>
      show false = _
      rw [key_rl]
    | inr s' =>
      show (s == s') = _
      rw [key_rr, str_beq]
theorem RepK.look : ∀ {es : List (D × D)} {kvs : List (Key × V)} (k : Key), RepK K g H es kvs → match lookD (kD k) es with
    | some d => ∃ v, valV kvs k = some v ∧ Rep K g H d v
    | none => valV kvs k = none
  | _, _, k, .nil => rfl
  | _, _, k, .cons (k := j) (d := d) (v := v) (es := es) (kvs := kvs) h r => by
    have ih := RepK.look k r
    show match (if deq (kD j) (kD k) = true then some d else lookD (kD k) es) with
      | some d => ∃ v', valV ((j, v) :: kvs) k = some v' ∧ Rep K g H d v'
      | none => valV ((j, v) :: kvs) k = none
    rw [deq_kD]
    by_cases e : j = k
    · rw [if_pos (decide_eq_true e)]
      exact ⟨v, valV_pos e, h⟩
    · rw [if_neg (by simp [e]), valV_neg e]
      exact ih
theorem lookD_in (x : D) : ∀ es : List (D × D), anyIn x (es.map (·.1)) = (lookD x es).isSome
  | [] => rfl
  | (a, b) :: r => by
    show (deq a x || anyIn x (r.map (·.1))) = (if deq a x = true then some b else lookD x r).isSome
    by_cases h : deq a x = true
    · rw [if_pos h, h]; rfl
    · rw [if_neg h, lookD_in x r]; simp [h]
theorem RepK.length : ∀ {es : List (D × D)} {kvs : List (Key × V)}, RepK K g H es kvs → es.length = kvs.length
  | _, _, .nil => rfl
  | _, _, .cons _ r => by simp [RepK.length r]
end
section
variable {X : Cx} {g : GF}
theorem op_inT (hu : X.A.units + 65 < cLine) (neg : Bool) : OpR X (compareOp (if neg then .NotIn else .In)) (fun x y H Q => ∃ d ds, Dp X.K H x d ∧ Dp X.K H y (.tuple ds) ∧ SeqAt.shaped d = true ∧ SeqAt.shaped (.tuple ds) = true ∧ Q (.bl (if neg then !(ds.any fun z => PyData.eqv z d) else ds.any fun z => PyData.eqv z d)) H) := by
  intro pins s σ H x y v u Q I rx ry h
  obtain ⟨d, ds, hd, he, sd, se, q⟩ := h
  obtain ⟨as, r1⟩ := Dp.reads I d x v hd rx
  obtain ⟨bs, r2⟩ := Dp.reads I (.tuple ds) y u he ry
  cases neg with
  | false => exact SeqAt.in_tuple_reads r2 r1 (SeqAt.canLay_of_shaped se) (SeqAt.canLay_of_shaped sd) (room_in_shaped sd hu) ⟨.bl _, H, I, rfl, q⟩
  | true => exact SeqAt.notIn_tuple_reads r2 r1 (SeqAt.canLay_of_shaped se) (SeqAt.canLay_of_shaped sd) (room_in_shaped sd hu) ⟨.bl _, H, I, rfl, q⟩
def rCmD (K : PySem.W.Frag) (g : GF) (o : Cm) : R2 := fun x y H Q => ∃ m d1 d2 d, Vw K g H m d1 x ∧ Vw K g H m d2 y ∧ cmpD o d1 d2 = some d ∧ ∀ k, d = .bl k → Q (.bl k) H
theorem dec_le (i j : Int) : (!decide (j < i)) = decide (i ≤ j) := by
  by_cases h : i ≤ j
  · rw [decide_eq_true h, decide_eq_false (by omega)]; rfl
  · rw [decide_eq_false h, decide_eq_true (by omega)]; rfl
theorem mem_all (hu : X.A.units + 65 < cLine) (neg : Bool) : OpR X (compareOp (if neg then .NotIn else .In)) (fun x y H Q => ∃ m d1 d2 k, Vw X.K g H m d1 x ∧ Vw X.K g H m d2 y ∧ memD d1 d2 = some k ∧ Q (.bl (if neg then !k else k)) H) := by
  intro pins s σ H x y v u Q I rx ry h
  obtain ⟨m, d1, d2, k, w1, w2, he, q⟩ := h
  cases d2 with
  | tup xs =>
    simp only [memD] at he
    split at he
    · rename_i hp
      obtain ⟨p1, p2⟩ := Bool.and_eq_true_iff.mp hp
      cases he
      rw [← anyIn_eq] at q
      exact op_inT hu neg pins s σ H _ _ v u Q I rx ry ⟨_, _, w1.dp p1, w2.dp p2, p1, p2, q⟩
    · cases he
  | lst xs =>
    simp only [memD] at he
    split at he
    · rename_i hp
      obtain ⟨p1, p2⟩ := Bool.and_eq_true_iff.mp hp
      cases he
      rw [← anyIn_eq] at q
      cases neg with
      | false => exact op_inD hu pins s σ H _ _ v u Q I rx ry ⟨_, _, w1.dp p1, w2.dp p2, p1, p2, q⟩
      | true => exact op_notInD hu pins s σ H _ _ v u Q I rx ry ⟨_, _, w1.dp p1, w2.dp p2, p1, p2, q⟩
    · cases he
  | str b =>
    cases d1 <;> simp only [memD, reduceCtorEq, Option.some.injEq] at he
    subst he
    cases neg with
    | false => exact op_in_str pins s σ H _ _ v u Q I rx ry ⟨_, _, w1.str, w2.str, q⟩
    | true => exact op_notin_str pins s σ H _ _ v u Q I rx ry ⟨_, _, w1.str, w2.str, q⟩
  | dic es =>
    simp only [memD] at he
    split at he
    · rename_i hk
      obtain ⟨key, rfl⟩ := isKey_of hk
      cases he
      obtain ⟨a, kvs, rfl, hd, r⟩ := w2.dic
      have ex := w1.key
      subst ex
      obtain rfl : u = Value.ref a := ry
      have gt : DGet H a (kV key) (valV kvs key) := .inl ⟨kvs, key, hd, rfl, rfl⟩
      have el : anyIn (kD key) (es.map (·.1)) = (valV kvs key).isSome := by
        rw [lookD_in]
        have := r.look key
        cases hl : lookD (kD key) es with
        | none => rw [hl] at this; rw [this]; rfl
        | some d => rw [hl] at this; obtain ⟨v, e, _⟩ := this; rw [e]; rfl
      rw [el] at q
      cases neg with
      | false => exact d_in (by omega) I gt rx fun s3 I3 => ⟨.bl _, H, I3, rfl, q⟩
      | true => exact d_notIn (by omega) I gt rx fun s3 I3 => ⟨.bl _, H, I3, rfl, q⟩
    · cases he
  | non => cases d1 <;> simp [memD] at he
  | bl _ => cases d1 <;> simp [memD] at he
  | int _ => cases d1 <;> simp [memD] at he
  | set _ => cases d1 <;> simp [memD] at he
  | fn _ => cases d1 <;> simp [memD] at he
  | exc _ _ => cases d1 <;> simp [memD] at he
theorem isNonD_V {K : PySem.W.Frag} {H : Hp} {m : Nat} {d : D} {v : V} (w : Vw K g H m d v) : decide (v = .non) = isNonD d := by
  obtain ⟨k, S, _, o⟩ := w
  cases k with
  | zero =>
    have r := o.2
    cases r <;> simp [isNonD]
  | succ k =>
    cases d with
    | lst ds => obtain ⟨a, _, _, ev, _⟩ := o; subst ev; simp [isNonD]
    | dic es => obtain ⟨a, _, ev, _⟩ := o; subst ev; simp [isNonD]
    | _ => have r := o.2; cases r <;> simp [isNonD]
theorem cmp_all (hu : X.A.units + 65 < cLine) (o : Cm) : OpR X (compareOp (cmOf o)) (rCmD X.K g o) := by
  intro pins s σ H x y v u Q I rx ry h
  obtain ⟨m, d1, d2, d, w1, w2, he, q⟩ := h
  cases o with
  | eq =>
    simp only [cmpD] at he
    split at he
    · rename_i hp
      obtain ⟨p1, p2⟩ := Bool.and_eq_true_iff.mp hp
      cases he
      exact op_eqD (by omega) pins s σ H _ _ v u Q I rx ry ⟨_, _, w1.dp p1, w2.dp p2, p1, p2, q _ rfl⟩
    · cases he
  | ne =>
    simp only [cmpD] at he
    split at he
    · rename_i hp
      obtain ⟨p1, p2⟩ := Bool.and_eq_true_iff.mp hp
      cases he
      exact op_neD (by omega) pins s σ H _ _ v u Q I rx ry ⟨_, _, w1.dp p1, w2.dp p2, p1, p2, q _ rfl⟩
    · cases he
  | lt =>
    cases d1 <;> cases d2 <;> simp only [cmpD, ltD, Option.map_none, Option.map_some, reduceCtorEq, Option.some.injEq] at he
    · subst he
      exact op_lt pins s σ H _ _ v u Q I rx ry ⟨_, _, w1.int, w2.int, q _ rfl⟩
    · subst he
      exact op_lt_str pins s σ H _ _ v u Q I rx ry ⟨_, _, w1.str, w2.str, q _ rfl⟩
  | gt =>
    cases d1 <;> cases d2 <;> simp only [cmpD, ltI, Option.map_none, Option.map_some, reduceCtorEq, Option.some.injEq] at he
    subst he
    exact op_gt pins s σ H _ _ v u Q I rx ry ⟨_, _, w1.int, w2.int, q _ rfl⟩
  | le =>
    cases d1 <;> cases d2 <;> simp only [cmpD, ltI, Option.map_none, Option.map_some, reduceCtorEq, Option.some.injEq] at he
    subst he
    refine op_le pins s σ H _ _ v u Q I rx ry ⟨_, _, w1.int, w2.int, ?_⟩
    show Q (V.bl (decide (_ ≤ _))) H
    rw [← dec_le]; exact q _ rfl
  | ge =>
    cases d1 <;> cases d2 <;> simp only [cmpD, ltI, Option.map_none, Option.map_some, reduceCtorEq, Option.some.injEq] at he
    subst he
    refine op_ge pins s σ H _ _ v u Q I rx ry ⟨_, _, w1.int, w2.int, ?_⟩
    show Q (V.bl (decide (_ ≤ _))) H
    rw [← dec_le]; exact q _ rfl
  | isN =>
    simp only [cmpD] at he
    split at he
    · rename_i hn
      cases he
      have ey : y = .non := by
        have := isNonD_V w2
        rw [hn] at this
        exact of_decide_eq_true this
      refine op_isN pins s σ H _ _ v u Q I rx ry ⟨ey, ?_⟩
      rw [isNonD_V w1]
      exact q _ rfl
    · cases he
  | notN =>
    simp only [cmpD] at he
    split at he
    · rename_i hn
      cases he
      have ey : y = .non := by
        have := isNonD_V w2
        rw [hn] at this
        exact of_decide_eq_true this
      refine op_notN pins s σ H _ _ v u Q I rx ry ⟨ey, ?_⟩
      rw [isNonD_V w1]
      exact q _ rfl
    · cases he
  | inn =>
    simp only [cmpD] at he
    cases hm : memD d1 d2 with
    | none => rw [hm] at he; cases he
    | some k =>
      rw [hm] at he
      cases he
      exact mem_all (g := g) hu false pins s σ H _ _ v u Q I rx ry ⟨m, d1, d2, k, w1, w2, hm, q _ rfl⟩
  | notin =>
    simp only [cmpD] at he
    cases hm : memD d1 d2 with
    | none => rw [hm] at he; cases he
    | some k =>
      rw [hm] at he
      cases he
      exact mem_all (g := g) hu true pins s σ H _ _ v u Q I rx ry ⟨m, d1, d2, k, w1, w2, hm, q _ rfl⟩
end
end VK
set_option Elab.async false
set_option linter.all false
set_option maxHeartbeats 1000000
/-! the rules of expressions -/
namespace VK
open PySem PySem.Spec PyProof.Rows L2

/-- at the locked slots nothing is owned otherwise -/
def Kp (lk ω ω' : List Nat) : Prop := ∀ i ∈ lk, ω'.getD i 0 = ω.getD i 0
theorem Kp.refl {lk ω : List Nat} : Kp lk ω ω := fun _ _ => rfl
theorem Kp.trans {lk lk' ω ω1 ω2 : List Nat} (h : Kp lk ω ω1) (h' : Kp lk' ω1 ω2) (s : ∀ i ∈ lk, i ∈ lk') : Kp lk ω ω2 := fun i hi => (h' i (s i hi)).trans (h i hi)
theorem Kp.set {lk ω ω' : List Nat} (h : Kp lk ω ω') {x n : Nat} (hx : x ∉ lk) : Kp lk ω (ω'.set x n) := fun i hi => by
  have hne : i ≠ x := fun z => hx (by rw [← z]; exact hi)
  rw [List.getD_eq_getElem?_getD, List.getElem?_set_ne (fun z => hne z.symm), ← List.getD_eq_getElem?_getD]
  exact h i hi
section
variable (X : Cx) (g : GF) (ec : EC) (W : WX)
structure RP (e : Expr) (lk ω ω' : List Nat) (k : Nat) (base : Option Nat) (f : Env → R D) : Prop where
  pe : PE X e (tP X.K g ec W lk ω ω' k base f)
  kp : Kp lk ω ω'
structure RV (e : Expr) (lk ω ω' : List Nat) (f : Env → R D) : Prop where
  pe : PE X e (tV X.K g ec W lk ω ω' f)
  kp : Kp lk ω ω'
structure RK (e : Expr) (m : Nat) (lk' lk ω ω' : List Nat) (f : Env → R D) : Prop where
  pe : PE X e (tK X.K g ec W m lk' lk ω ω' f)
  kp : Kp lk ω ω'
  sub : ∀ i ∈ lk, i ∈ lk'
end
section
variable {X : Cx} {g : GF} {ec : EC} {W : WX} {e a b : Expr} {lk lk1 lk2 ω ω' ω1 ω2 : List Nat} {k m : Nat} {base : Option Nat} {f fa fb : Env → R D}
theorem RP.val (h : RP X g ec W e lk ω ω' k base f) (hv : valO lk (ω', k, base) = some ω1) : RV X g ec W e lk ω ω1 f := by
  refine ⟨pe_val h.pe hv, ?_⟩
  cases base with
  | none => simp only [valO, Option.some.injEq] at hv; subst hv; exact h.kp
  | some x =>
    simp only [valO] at hv
    split at hv
    · cases hv
    · rename_i hx
      simp only [Option.some.injEq] at hv
      subst hv
      exact h.kp.set hx
theorem RP.peek (h : RP X g ec W e lk ω ω' k base f) (hv : pkO m lk (ω', k, base) = some (ω1, lk1)) : RK X g ec W e m lk1 lk ω ω1 f := by
  refine ⟨pe_peek h.pe hv, ?_, ?_⟩
  · cases base with
    | none => simp only [pkO, Option.some.injEq, Prod.mk.injEq] at hv; obtain ⟨rfl, _⟩ := hv; exact h.kp
    | some x =>
      simp only [pkO] at hv
      split at hv
      · split at hv
        · simp only [Option.some.injEq, Prod.mk.injEq] at hv; obtain ⟨rfl, _⟩ := hv; exact h.kp
        · cases hv
      · rename_i hx
        simp only [Option.some.injEq, Prod.mk.injEq] at hv
        obtain ⟨rfl, _⟩ := hv
        split
        · exact h.kp
        · exact h.kp.set hx
  · cases base with
    | none => simp only [pkO, Option.some.injEq, Prod.mk.injEq] at hv; obtain ⟨_, rfl⟩ := hv; exact fun _ h => h
    | some x =>
      simp only [pkO] at hv
      split at hv
      · split at hv
        · simp only [Option.some.injEq, Prod.mk.injEq] at hv; obtain ⟨_, rfl⟩ := hv; exact fun _ h => h
        · cases hv
      · simp only [Option.some.injEq, Prod.mk.injEq] at hv
        obtain ⟨_, rfl⟩ := hv
        exact fun i h => List.mem_cons_of_mem _ h
theorem RV.rp (h : RV X g ec W e lk ω ω' f) : RP X g ec W e lk ω ω' 0 none f := ⟨pe_ofV h.pe, h.kp⟩
theorem RV.rk (h : RV X g ec W e lk ω ω' f) : RK X g ec W e m lk lk ω ω' f := by
  refine ⟨pe_turn h.pe fun σ H foot env d env' v H1 sf0 ⟨f1, sf, c, r⟩ pins s I => ⟨H1, I, f1, sf, c, 0, [], Nat.zero_le _, ⟨rfl, r⟩, no_mem⟩, h.kp, fun _ h => h⟩
theorem RP.cap (h : RP X g ec W e lk ω ω' k none f) (hm : m ≤ k) : RP X g ec W e lk ω ω' m none f := ⟨pe_capT hm h.pe, h.kp⟩

theorem Chg.trans' {lk lk' : List Nat} {f f1 f2 : List (List Addr)} {e e1 e2 : Env} {H H1 H2 : Hp} (c : Chg lk f e H f1 e1 H1) (d : Chg lk' f1 e1 H1 f2 e2 H2) (hs : ∀ i ∈ lk, i ∈ lk') : Chg lk f e H f2 e2 H2 :=
  c.trans d hs fun i hi _ => (d.lkd i hi).1
/-- what stays while lk1 is locked -/
theorem Own.over {K : PySem.W.Frag} {H1 H2 : Hp} {f1 f2 : List (List Addr)} {e1 e2 : Env} {σ : L2.St} {S : List Addr} {d : D} {v : V} (o : Own K g H1 k d v S) (n : ∀ a ∈ S, ¬ Av lk1 f1 a) (t : Sf K g ω1 σ H1 e1 f1) (c : Chg lk1 f1 e1 H1 f2 e2 H2) : Own K g H2 k d v S :=
  o.stay (c.step.stays fun a h => t.mut a h.mem) fun a ha u eu => c.step.keep a u eu (n a ha)
theorem Rep.over {K : PySem.W.Frag} {H1 H2 : Hp} {f1 f2 : List (List Addr)} {e1 e2 : Env} {σ : L2.St} {d : D} {v : V} (r : Rep K g H1 d v) (t : Sf K g ω1 σ H1 e1 f1) (c : Chg lk1 f1 e1 H1 f2 e2 H2) : Rep K g H2 d v :=
  r.stay (c.step.stays fun a h => t.mut a h.mem)
theorem Reps.over {K : PySem.W.Frag} {H1 H2 : Hp} {f1 f2 : List (List Addr)} {e1 e2 : Env} {σ : L2.St} {ds : List D} {vs : List V} (r : Reps K g H1 ds vs) (t : Sf K g ω1 σ H1 e1 f1) (c : Chg lk1 f1 e1 H1 f2 e2 H2) : Reps K g H2 ds vs :=
  r.stay (c.step.stays fun a h => t.mut a h.mem)
theorem PX.over {K : PySem.W.Frag} {H H1 : Hp} {f1 f0 : List (List Addr)} {e0 e1 e2 : Env} {σ : L2.St} {x : D} {cls : Value} {dd : Option Addr} {H2 : Hp} (c : Chg lk f0 e0 H f1 e1 H1) (kp : Kp lk ω ω1) (s : ∀ i ∈ lk, i ∈ lk1) (p : PX K g ec lk1 ω1 σ H1 f1 e1 x e2 cls dd H2) : PX K g ec lk ω σ H f0 e0 x e2 cls dd H2 := by
  obtain ⟨ω', f2, kp', sf, c', ex⟩ := p
  exact ⟨ω', f2, fun i hi => (kp' i (s i hi)).trans (kp i hi), sf, c.trans' c' s, ex⟩

/-! ### constants and names -/
theorem rp_of {d : D} {v : V} (h : PE X e (tC v)) (r : ∀ H, Rep X.K g H d v) : RV X g ec W e lk ω ω (fun env => .ok d env) := by
  refine ⟨pe_imp h fun σ H Q q => ?_, Kp.refl⟩
  obtain ⟨env, foot, sf, q⟩ := q
  exact q v H ⟨foot, sf, Chg.refl, r H⟩
theorem getV_some {i : Nat} {env : Env} {d : D} (h : getV i env = some d) : env[i]? = some (some d) := by
  unfold getV at h
  cases e : env[i]? with
  | none => rw [e] at h; cases h
  | some o => rw [e] at h; exact congrArg some h
theorem rp_var {i : Nat} (h : PE X e (tVar i)) : RP X g ec W e lk ω ω (ω.getD i 0) (some i) (fun env => liftO (getV i env) env) := by
  refine ⟨pe_imp h fun σ H Q ⟨env, foot, sf, q⟩ => ?_, Kp.refl⟩
  obtain ⟨d, hd, q⟩ := q.lift
  have hi := getV_some hd
  obtain ⟨v, S, hv, hS, o⟩ := sf.slot i d hi
  exact ⟨v, hv, q v H ⟨foot, sf, Chg.refl, .inr ⟨[], d, v, hi, hv, ⟨rfl, rfl⟩, by simp⟩⟩⟩
theorem rp_var0 {i : Nat} (h : PE X e (tVar i)) (h0 : ω.getD i 0 = 0) : RV X g ec W e lk ω ω (fun env => liftO (getV i env) env) := by
  refine ⟨pe_imp h fun σ H Q ⟨env, foot, sf, q⟩ => ?_, Kp.refl⟩
  obtain ⟨d, hd, q⟩ := q.lift
  have hi := getV_some hd
  obtain ⟨v, S, hv, hS, o⟩ := sf.slot i d hi
  rw [h0] at o
  exact ⟨v, hv, q v H ⟨foot, sf, Chg.refl, o.2⟩⟩

/-! ### two operands -/
theorem t_two {r : R2} {h : D → D → Option D} {m1 m2 : Nat} (ka : Kp lk ω ω1) (sa : ∀ i ∈ lk, i ∈ lk1) (sb : ∀ i ∈ lk1, i ∈ lk2)
    (hr : ∀ H d1 d2 d x y Q, Vw X.K g H m1 d1 x → Vw X.K g H m2 d2 y → h d1 d2 = some d → (∀ v H', New X.K g H d v H' → Q v H') → r x y H Q) :
    ∀ σ H Q, tP X.K g ec W lk ω ω2 1 none (fun env => (fa env).bind fun x e1 => (fb e1).bind fun y e2 => liftO (h x y) e2) σ H Q →
      tOp r (tK X.K g ec W m1 lk1 lk ω ω1 fa) (tK X.K g ec W m2 lk2 lk1 ω1 ω2 fb) σ H Q := by
  intro σ H Q ⟨env, foot, sf, q⟩
  refine ⟨env, foot, sf, (Out.bind.mp q).imp (fun d1 env1 _ q v1 H1 p1 => ?_) fun _ _ h => h⟩
  obtain ⟨f1, sf1, c1, k1, S1, hk1, o1, n1⟩ := p1
  refine ⟨env1, f1, sf1, (Out.bind.mp q).imp (fun d2 env2 _ q v2 H2 p2 => ?_) fun x e2 h cls dd H2 p => h cls dd H2 (p.over c1 ka sa)⟩
  obtain ⟨f2, sf2, c2, k2, S2, hk2, o2, n2⟩ := p2
  have w1 : Vw X.K g H2 m1 d1 v1 := ⟨k1, S1, hk1, o1.over n1 sf1 c2⟩
  have w2 : Vw X.K g H2 m2 d2 v2 := ⟨k2, S2, hk2, o2⟩
  obtain ⟨d, hd, q⟩ := q.lift
  exact hr H2 d1 d2 d v1 v2 Q w1 w2 hd fun v H' nw => q v H' (nw.post sf2 (c1.trans' c2 sa))
theorem rp_op {o : Op} {pos : Pos} (ho : o ≠ .rep) (ha : RK X g ec W a 1 lk1 lk ω ω1 fa) (hb : RK X g ec W b 1 lk2 lk1 ω1 ω2 fb) :
    RP X g ec W (.BinOp a (opOf o) b pos) lk ω ω2 1 none (fun env => (fa env).bind fun x e1 => (fb e1).bind fun y e2 => liftO (opD o x y) e2) :=
  ⟨pe_imp (pe_op (op_all (g := g) o ho) ha.pe hb.pe) (t_two ha.kp ha.sub hb.sub fun H d1 d2 d x y Q w1 w2 e q => ⟨d1, d2, d, w1, w2, e, q⟩), ha.kp.trans hb.kp ha.sub⟩
theorem cmpD_bl {o : Cm} {d1 d2 d : D} (h : cmpD o d1 d2 = some d) : ∃ k, d = .bl k := by
  cases o <;> simp only [cmpD] at h
  all_goals first
    | (split at h <;> first | (cases h; exact ⟨_, rfl⟩) | cases h)
    | (obtain ⟨k, _, e⟩ := Option.map_eq_some_iff.mp h; exact ⟨_, e.symm⟩)
theorem rCm_of {H : Hp} {o : Cm} {d1 d2 d : D} {x y : V} {Q : VK} {m1 m2 : Nat} (w1 : Vw X.K g H m1 d1 x) (w2 : Vw X.K g H m2 d2 y) (e : cmpD o d1 d2 = some d) (q : ∀ v H', New X.K g H d v H' → Q v H') : rCmD X.K g o x y H Q := by
  obtain ⟨k1, S1, h1, o1⟩ := w1
  obtain ⟨k2, S2, h2, o2⟩ := w2
  exact ⟨max m1 m2, d1, d2, d, ⟨k1, S1, by omega, o1⟩, ⟨k2, S2, by omega, o2⟩, e, fun k ek => by subst ek; exact q _ _ (.bl k)⟩
theorem rp_cmp {o : Cm} {pos : Pos} {m1 m2 : Nat} (hu : X.A.units + 65 < cLine) (hm : behindInMarks (cmOf o) b = false) (ha : RK X g ec W a m1 lk1 lk ω ω1 fa) (hb : RK X g ec W b m2 lk2 lk1 ω1 ω2 fb) :
    RP X g ec W (.Compare a [cmOf o] [b] pos) lk ω ω2 1 none (fun env => (fa env).bind fun x e1 => (fb e1).bind fun y e2 => liftO (cmpD o x y) e2) :=
  ⟨pe_imp (pe_cmpR (cmp_all (g := g) hu o) ha.pe hb.pe hm) (t_two ha.kp ha.sub hb.sub fun H d1 d2 d x y Q w1 w2 e q => rCm_of w1 w2 e q), ha.kp.trans hb.kp ha.sub⟩
end
end VK
set_option Elab.async false
set_option linter.all false
set_option maxHeartbeats 1000000
/-! the rules of expressions, 2: truth, unary, displays, subscripts -/
namespace VK
open PySem PySem.Spec PyProof.Rows L2
section
variable {K : PySem.W.Frag} {g : GF} {H : Hp}
/-- a list, however deep it is owned -/
theorem Vw.lstA {m : Nat} {ds : List D} {v : V} (h : Vw K g H m (.lst ds) v) : ∃ a xs, v = .ref a ∧ SqL K H a xs ∧ ds.length = xs.length := by
  obtain ⟨k, S, hk, o⟩ := h
  cases k with
  | zero =>
    obtain ⟨_, r⟩ := o
    cases r with
    | lst h r => exact ⟨_, _, rfl, h.sq, r.length⟩
  | succ k =>
    obtain ⟨a, xs, Ss, ev, e, r, _⟩ := o
    exact ⟨a, xs, ev, SqL.of e, r.length.1⟩
theorem Vw.tru {m : Nat} {d : D} {v : V} {k : Bool} (w : Vw K g H m d v) (h : truth d = some k) : TruV K v H k := by
  cases d with
  | non => cases w.non; cases h; rfl
  | bl b => cases w.bl; cases h; rfl
  | int i => cases w.int; cases h; rfl
  | str s =>
    cases w.str
    simp only [truth] at h
    split at h <;> cases h
    rename_i hz
    rw [SZ_eq] at hz
    exact ⟨hz, rfl⟩
  | tup ds =>
    obtain ⟨a, xs, rfl, hx, r⟩ := w.tup
    cases h
    refine .inr (.inl ⟨xs, hx, ?_⟩)
    cases r <;> rfl
  | lst ds =>
    obtain ⟨a, xs, rfl, hx, hl⟩ := w.lstA
    cases h
    refine .inl ⟨xs, hx, ?_⟩
    cases ds <;> cases xs <;> first | rfl | simp at hl
  | _ => cases h
end
section
variable {X : Cx} {g : GF} {ec : EC} {W : WX} {e a b : Expr} {lk lk1 lk2 ω ω' ω1 ω2 : List Nat} {k m : Nat} {base : Option Nat} {f fa fb fc : Env → R D}
/-- one operand -/
theorem t_one {r : V → Hp → VK → Prop} {h : D → Option D} (hr : ∀ H d1 d x Q, Vw X.K g H m d1 x → h d1 = some d → (∀ v H', New X.K g H d v H' → Q v H') → r x H Q) :
    ∀ σ H Q, tP X.K g ec W lk ω ω1 1 none (fun env => (fa env).bind fun x e1 => liftO (h x) e1) σ H Q → tUn r (tK X.K g ec W m lk1 lk ω ω1 fa) σ H Q := by
  intro σ H Q ⟨env, foot, sf, q⟩
  refine ⟨env, foot, sf, (Out.bind.mp q).imp (fun d1 env1 _ q v1 H1 p1 => ?_) fun _ _ h => h⟩
  obtain ⟨f1, sf1, c1, k1, S1, hk1, o1, n1⟩ := p1
  obtain ⟨d, hd, q⟩ := q.lift
  exact hr H1 d1 d v1 Q ⟨k1, S1, hk1, o1⟩ hd fun v H' nw => q v H' (nw.post sf1 c1)
def negD : D → Option D
  | .int i => some (.int (-i))
  | _ => none
def invD : D → Option D
  | .int i => some (.int (Builtin.bitNot i))
  | _ => none
def notD (d : D) : Option D := (truth d).map fun k => .bl (!k)
theorem rp_neg {pos : Pos} (ha : RK X g ec W a m lk1 lk ω ω1 fa) : RP X g ec W (.UnaryOp .USub a pos) lk ω ω1 1 none (fun env => (fa env).bind fun x e1 => liftO (negD x) e1) :=
  ⟨pe_imp (pe_un un_neg ha.pe) (t_one fun H d1 d x Q w e q => by
    cases d1 <;> simp only [negD, reduceCtorEq, Option.some.injEq] at e
    subst e
    exact ⟨_, w.int, q _ _ (.int _)⟩), ha.kp⟩
theorem rp_inv {pos : Pos} (ha : RK X g ec W a m lk1 lk ω ω1 fa) : RP X g ec W (.UnaryOp .Invert a pos) lk ω ω1 1 none (fun env => (fa env).bind fun x e1 => liftO (invD x) e1) :=
  ⟨pe_imp (pe_un un_inv ha.pe) (t_one fun H d1 d x Q w e q => by
    cases d1 <;> simp only [invD, reduceCtorEq, Option.some.injEq] at e
    subst e
    exact ⟨_, w.int, q _ _ (.int _)⟩), ha.kp⟩
theorem rp_not {pos : Pos} (ha : RK X g ec W a m lk1 lk ω ω1 fa) : RP X g ec W (.UnaryOp .Not a pos) lk ω ω1 1 none (fun env => (fa env).bind fun x e1 => liftO (notD x) e1) :=
  ⟨pe_imp (pe_notT ha.pe) (t_one (r := fun x H1 Q => ∃ k, TruV X.K x H1 k ∧ Q (.bl (!k)) H1) fun H d1 d x Q w e q => by
    simp only [notD] at e
    obtain ⟨k, hk, ek⟩ := Option.map_eq_some_iff.mp e
    subst ek
    exact ⟨k, w.tru hk, q _ _ (.bl _)⟩), ha.kp⟩

/-! ### and, or -/
def andR (fa fb : Env → R D) (env : Env) : R D := (fa env).bind fun x e1 => match truth x with
  | some true => fb e1
  | some false => .ok x e1
  | none => .err
def orR (fa fb : Env → R D) (env : Env) : R D := (fa env).bind fun x e1 => match truth x with
  | some true => .ok x e1
  | some false => fb e1
  | none => .err
theorem rv_and {rest : List Expr} {pos : Pos} (ha : RV X g ec W a lk ω ω1 fa) (hb : RV X g ec W (.BoolOp .And (b :: rest) pos) lk ω1 ω1 fb) :
    RV X g ec W (.BoolOp .And (a :: b :: rest) pos) lk ω ω1 (andR fa fb) := by
  refine ⟨pe_imp (pe_andT ha.pe hb.pe) fun σ H Q ⟨env, foot, sf, q⟩ => ⟨env, foot, sf, (Out.bind.mp q).imp (fun d1 env1 _ q v1 H1 p1 => ?_) fun _ _ h => h⟩, ha.kp⟩
  obtain ⟨f1, sf1, c1, r1⟩ := p1
  cases ht : truth d1 with
  | none => rw [ht] at q; exact q.elim
  | some t =>
    refine ⟨t, Vw.tru (m := 0) (g := g) ⟨0, [], Nat.le_refl _, rfl, r1⟩ ht, ?_⟩
    rw [ht] at q
    cases t with
    | false => exact q v1 H1 ⟨f1, sf1, c1, r1⟩
    | true =>
      rw [if_pos rfl]
      refine ⟨env1, f1, sf1, Out.imp q (fun d2 env2 _ q v2 H2 p2 => ?_) fun x e2 h cls dd H2 p => h cls dd H2 (p.over c1 ha.kp fun _ h => h)⟩
      obtain ⟨f2, sf2, c2, r2⟩ := p2
      exact q v2 H2 ⟨f2, sf2, c1.trans' c2 fun _ h => h, r2⟩
theorem rv_or {rest : List Expr} {pos : Pos} (ha : RV X g ec W a lk ω ω1 fa) (hb : RV X g ec W (.BoolOp .Or (b :: rest) pos) lk ω1 ω1 fb) :
    RV X g ec W (.BoolOp .Or (a :: b :: rest) pos) lk ω ω1 (orR fa fb) := by
  refine ⟨pe_imp (pe_orT ha.pe hb.pe) fun σ H Q ⟨env, foot, sf, q⟩ => ⟨env, foot, sf, (Out.bind.mp q).imp (fun d1 env1 _ q v1 H1 p1 => ?_) fun _ _ h => h⟩, ha.kp⟩
  obtain ⟨f1, sf1, c1, r1⟩ := p1
  cases ht : truth d1 with
  | none => rw [ht] at q; exact q.elim
  | some t =>
    refine ⟨t, Vw.tru (m := 0) (g := g) ⟨0, [], Nat.le_refl _, rfl, r1⟩ ht, ?_⟩
    rw [ht] at q
    cases t with
    | true => exact q v1 H1 ⟨f1, sf1, c1, r1⟩
    | false =>
      rw [if_neg Bool.false_ne_true]
      refine ⟨env1, f1, sf1, Out.imp q (fun d2 env2 _ q v2 H2 p2 => ?_) fun x e2 h cls dd H2 p => h cls dd H2 (p.over c1 ha.kp fun _ h => h)⟩
      obtain ⟨f2, sf2, c2, r2⟩ := p2
      exact q v2 H2 ⟨f2, sf2, c1.trans' c2 fun _ h => h, r2⟩
theorem rv_one {op : BoolOp} {pos : Pos} (ha : RV X g ec W a lk ω ω1 fa) : RV X g ec W (.BoolOp op [a] pos) lk ω ω1 fa := ⟨pe_one ha.pe, ha.kp⟩
theorem RV.low (h : RV X g ec W e lk ω ω' f) (hle : ∀ i, ω1.getD i 0 ≤ ω'.getD i 0) (hlk : Kp lk ω' ω1) : RV X g ec W e lk ω ω1 f := ⟨pe_lowerV hle hlk h.pe, h.kp.trans hlk fun _ h => h⟩
theorem RP.low (h : RP X g ec W e lk ω ω' k none f) (hle : ∀ i, ω1.getD i 0 ≤ ω'.getD i 0) (hlk : Kp lk ω' ω1) : RP X g ec W e lk ω ω1 k none f := ⟨pe_lowerP hle hlk h.pe, h.kp.trans hlk fun _ h => h⟩

/-! ### tests -/
def PvT (K : PySem.W.Frag) (g : GF) (ω' : List Nat) (lk : List Nat) (σ : L2.St) (H : Hp) (foot : List (List Addr)) (env : Env) (d : Bool) (env' : Env) (k : Bool) (H' : Hp) : Prop :=
  k = d ∧ ∃ foot', Sf K g ω' σ H' env' foot' ∧ Chg lk foot env H foot' env' H'
abbrev tT (K : PySem.W.Frag) (g : GF) (ec : EC) (W : WX) (lk ω ω' : List Nat) (f : Env → R Bool) : TT := tG K g ec W (PvT K g ω') lk ω f
theorem pt_imp {t t' : TT} (h : PT X e t) (i : ∀ σ H Q, t' σ H Q → t σ H Q) : PT X e t' := ⟨fun pins s σ H Q I q => h.run pins s σ H Q I (i σ H Q q)⟩
variable (X g ec W) in
structure RT (e : Expr) (lk ω ω' : List Nat) (f : Env → R Bool) : Prop where
  pt : PT X e (tT X.K g ec W lk ω ω' f)
  kp : Kp lk ω ω'
theorem rt_truth (ha : RK X g ec W a m lk1 lk ω ω1 fa) (he : ∀ whole, isTrue a X.env whole = (do let v ← whole; standAt a.pos; holding [v] (truthy v))) : RT X g ec W a lk ω ω1 (tr fa) := by
  refine ⟨pt_imp (pt_truth ha.pe he) fun σ H Q ⟨env, foot, sf, q⟩ => ⟨env, foot, sf, (Out.bind.mp q).imp (fun d1 env1 _ q v1 H1 p1 => ?_) fun _ _ h => h⟩, ha.kp⟩
  obtain ⟨f1, sf1, c1, k1, S1, hk1, o1, n1⟩ := p1
  obtain ⟨t, ht, q⟩ := q.lift
  exact ⟨t, Vw.tru ⟨k1, S1, hk1, o1⟩ ht, q t H1 ⟨rfl, f1, sf1, c1⟩⟩
end
end VK
set_option Elab.async false
set_option linter.all false
set_option maxHeartbeats 1000000
/-! the rules of expressions, 3: tests, if-expressions, displays -/
namespace VK
open PySem PySem.Spec PyProof.Rows L2
section
variable {X : Cx} {g : GF} {ec : EC} {W : WX} {e a b c : Expr} {lk lk1 lk2 ω ω' ω1 ω2 : List Nat} {k m : Nat} {base : Option Nat} {f fa fb fc : Env → R D}
variable (X g ec W) in
structure RW (e : Expr) (lk ω ω' : List Nat) (f : Env → R Bool) : Prop where
  pw : PW X e (tT X.K g ec W lk ω ω' f)
  kp : Kp lk ω ω'
theorem RW.rt {f : Env → R Bool} (h : RW X g ec W e lk ω ω' f) : RT X g ec W e lk ω ω' f := ⟨h.pw.pt, h.kp⟩
theorem pw_imp {t t' : TT} (h : PW X e t) (i : ∀ σ H Q, t' σ H Q → t σ H Q) : PW X e t' := ⟨fun wh pins s σ H Q I q => h.run wh pins s σ H Q I (i σ H Q q)⟩
theorem rw_and1 {pos : Pos} (ha : RT X g ec W a lk ω ω1 (tr fa)) : RW X g ec W (.BoolOp .And [a] pos) lk ω ω1 (tr fa) := ⟨pw_and1 ha.pt, ha.kp⟩
theorem rw_or1 {pos : Pos} (ha : RT X g ec W a lk ω ω1 (tr fa)) : RW X g ec W (.BoolOp .Or [a] pos) lk ω ω1 (tr fa) := ⟨pw_or1 ha.pt, ha.kp⟩
theorem rw_and {rest : List Expr} {pos : Pos} (ha : RT X g ec W a lk ω ω1 (tr fa)) (hb : RW X g ec W (.BoolOp .And (b :: rest) pos) lk ω1 ω1 (tr fb)) :
    RW X g ec W (.BoolOp .And (a :: b :: rest) pos) lk ω ω1 (tr (andR fa fb)) := by
  refine ⟨pw_imp (pw_and ha.pt hb.pw) fun σ H Q ⟨env, foot, sf, q⟩ => ⟨env, foot, sf, Out.bind.mpr ((Out.bind.mp (Out.bind.mp q)).imp (fun d1 env1 _ q => ?_) fun _ _ h => h)⟩, ha.kp⟩
  cases ht : truth d1 with
  | none => rw [ht] at q; exact q.elim
  | some t =>
    rw [ht] at q
    intro v1 H1 ⟨ev, f1, sf1, c1⟩
    subst ev
    cases v1 with
    | false =>
      have q : Out (liftO (truth d1) env1) _ _ := q
      rw [ht] at q
      exact q false H1 ⟨rfl, f1, sf1, c1⟩
    | true =>
      refine ⟨env1, f1, sf1, Out.bind.mpr (Out.imp q (fun d2 env2 _ q => Out.imp q (fun t2 e2 _ q v2 H2 p2 => ?_) fun x e2 h cls dd H2 p => ?_) fun x e2 h cls dd H2 p => ?_)⟩
      · obtain ⟨ev2, f2, sf2, c2⟩ := p2
        exact q v2 H2 ⟨ev2, f2, sf2, c1.trans' c2 fun _ h => h⟩
      · exact h cls dd H2 (p.over c1 ha.kp fun _ h => h)
      · exact h cls dd H2 (p.over c1 ha.kp fun _ h => h)
theorem rw_or {rest : List Expr} {pos : Pos} (ha : RT X g ec W a lk ω ω1 (tr fa)) (hb : RW X g ec W (.BoolOp .Or (b :: rest) pos) lk ω1 ω1 (tr fb)) :
    RW X g ec W (.BoolOp .Or (a :: b :: rest) pos) lk ω ω1 (tr (orR fa fb)) := by
  refine ⟨pw_imp (pw_or ha.pt hb.pw) fun σ H Q ⟨env, foot, sf, q⟩ => ⟨env, foot, sf, Out.bind.mpr ((Out.bind.mp (Out.bind.mp q)).imp (fun d1 env1 _ q => ?_) fun _ _ h => h)⟩, ha.kp⟩
  cases ht : truth d1 with
  | none => rw [ht] at q; exact q.elim
  | some t =>
    rw [ht] at q
    intro v1 H1 ⟨ev, f1, sf1, c1⟩
    subst ev
    cases v1 with
    | true =>
      have q : Out (liftO (truth d1) env1) _ _ := q
      rw [ht] at q
      exact q true H1 ⟨rfl, f1, sf1, c1⟩
    | false =>
      refine ⟨env1, f1, sf1, Out.bind.mpr (Out.imp q (fun d2 env2 _ q => Out.imp q (fun t2 e2 _ q v2 H2 p2 => ?_) fun x e2 h cls dd H2 p => ?_) fun x e2 h cls dd H2 p => ?_)⟩
      · obtain ⟨ev2, f2, sf2, c2⟩ := p2
        exact q v2 H2 ⟨ev2, f2, sf2, c1.trans' c2 fun _ h => h⟩
      · exact h cls dd H2 (p.over c1 ha.kp fun _ h => h)
      · exact h cls dd H2 (p.over c1 ha.kp fun _ h => h)
theorem rt_not {pos : Pos} (ha : RT X g ec W a lk ω ω1 (tr fa)) : RT X g ec W (.UnaryOp .Not a pos) lk ω ω1 (tr fun env => (fa env).bind fun x e1 => liftO (notD x) e1) := by
  refine ⟨pt_imp (pt_not ha.pt) fun σ H Q ⟨env, foot, sf, q⟩ => ⟨env, foot, sf, Out.bind.mpr ((Out.bind.mp (Out.bind.mp q)).imp (fun d1 env1 _ q => ?_) fun _ _ h => h)⟩, ha.kp⟩
  obtain ⟨d, hd, q⟩ := q.lift
  obtain ⟨t, ht, q⟩ := Out.lift q
  simp only [notD] at hd
  obtain ⟨k, hk, ek⟩ := Option.map_eq_some_iff.mp hd
  subst ek
  cases ht
  rw [hk]
  intro v1 H1 ⟨ev, f1, sf1, c1⟩
  subst ev
  exact q _ H1 ⟨rfl, f1, sf1, c1⟩
theorem rt_cmp {o : Cm} {pos : Pos} {m1 m2 : Nat} (hu : X.A.units + 65 < cLine) (hm : behindInMarks (cmOf o) b = false) (ha : RK X g ec W a m1 lk1 lk ω ω1 fa) (hb : RK X g ec W b m2 lk2 lk1 ω1 ω2 fb) :
    RT X g ec W (.Compare a [cmOf o] [b] pos) lk ω ω2 (tr fun env => (fa env).bind fun x e1 => (fb e1).bind fun y e2 => liftO (cmpD o x y) e2) := by
  refine ⟨pt_imp (pt_cmpR (cmp_all (g := g) hu o) ha.pe hb.pe hm) fun σ H Q ⟨env, foot, sf, q⟩ => ⟨env, foot, sf, (Out.bind.mp (Out.bind.mp q)).imp (fun d1 env1 _ q v1 H1 p1 => ?_) fun _ _ h => h⟩, ha.kp.trans hb.kp ha.sub⟩
  obtain ⟨f1, sf1, c1, k1, S1, hk1, o1, n1⟩ := p1
  refine ⟨env1, f1, sf1, (Out.bind.mp q).imp (fun d2 env2 _ q v2 H2 p2 => ?_) fun x e2 h cls dd H2 p => h cls dd H2 (p.over c1 ha.kp ha.sub)⟩
  obtain ⟨f2, sf2, c2, k2, S2, hk2, o2, n2⟩ := p2
  have w1 : Vw X.K g H2 m1 d1 v1 := ⟨k1, S1, hk1, o1.over n1 sf1 c2⟩
  have w2 : Vw X.K g H2 m2 d2 v2 := ⟨k2, S2, hk2, o2⟩
  obtain ⟨d, hd, q⟩ := q.lift
  obtain ⟨t, rfl⟩ := cmpD_bl hd
  obtain ⟨t', ht, q⟩ := Out.lift q
  cases ht
  refine rCm_of w1 w2 hd fun v H' nw => ?_
  cases nw with
  | flat r _ _ =>
    cases r
    exact ⟨t, rfl, q t H2 ⟨rfl, f2, sf2, c1.trans' c2 ha.sub⟩⟩

/-! ### a if c else b -/
def iteR (fc : Env → R Bool) (fa fb : Env → R D) (env : Env) : R D := (fc env).bind fun t e1 => if t then fa e1 else fb e1
theorem rp_ite {ft : Env → R Bool} {pos : Pos} (hc : RT X g ec W c lk ω ω1 ft) (ha : RP X g ec W a lk ω1 ω2 k none fa) (hb : RP X g ec W b lk ω1 ω2 k none fb) : RP X g ec W (.IfExp c a b pos) lk ω ω2 k none (iteR ft fa fb) := by
  refine ⟨pe_imp (pe_ifExp hc.pt ha.pe hb.pe) fun σ H Q ⟨env, foot, sf, q⟩ => ⟨env, foot, sf, (Out.bind.mp q).imp (fun t env1 _ q v1 H1 p1 => ?_) fun _ _ h => h⟩, hc.kp.trans ha.kp fun _ h => h⟩
  obtain ⟨ev, f1, sf1, c1⟩ := p1
  subst ev
  have go : ∀ {fx : Env → R D}, Out (fx env1) (fun d env' => ∀ v H', PvP X.K g ω2 k none lk σ H foot env d env' v H' → Q v H') (fun x env' => ∀ cls dd H', PX X.K g ec lk ω σ H foot env x env' cls dd H' → W cls dd σ H') →
      tP X.K g ec W lk ω1 ω2 k none fx σ H1 Q := fun {fx} q => by
    refine ⟨env1, f1, sf1, q.imp (fun d2 env2 _ q v2 H2 p2 => ?_) fun x e2 h cls dd H2 p => h cls dd H2 (p.over c1 hc.kp fun _ h => h)⟩
    obtain ⟨f2, sf2, c2, S, o, nd, dj, own⟩ := p2
    refine q v2 H2 ⟨f2, sf2, c1.trans' c2 fun _ h => h, S, o, nd, dj, fun a ha => ?_⟩
    rcases own a ha with z | z
    · exact c1.own a z
    · exact .inr (c1.none_of z)
  cases v1 with
  | true => rw [if_pos rfl] at q ⊢; exact go q
  | false => rw [if_neg Bool.false_ne_true] at q ⊢; exact go q

/-! ### several things in a row -/
/-- frozen things -/
def PvL (K : PySem.W.Frag) (g : GF) (ω' : List Nat) (lk : List Nat) (σ : L2.St) (H : Hp) (foot : List (List Addr)) (env : Env) (ds : List D) (env' : Env) (vs : List V) (H' : Hp) : Prop :=
  ∃ foot', Sf K g ω' σ H' env' foot' ∧ Chg lk foot env H foot' env' H' ∧ Reps K g H' ds vs
abbrev tL (K : PySem.W.Frag) (g : GF) (ec : EC) (W : WX) (lk ω ω' : List Nat) (f : Env → R (List D)) : TA := tG K g ec W (PvL K g ω') lk ω f
theorem pa_imp {es : List Expr} {t t' : TA} (h : PA X es t) (i : ∀ σ H Q, t' σ H Q → t σ H Q) : PA X es t' := ⟨fun pos pins s σ H Q I q => h.run pos pins s σ H Q I (i σ H Q q)⟩
variable (X g ec W) in
structure RL (es : List Expr) (lk ω ω' : List Nat) (f : Env → R (List D)) : Prop where
  pa : PA X es (tL X.K g ec W lk ω ω' f)
  kp : Kp lk ω ω'
theorem rl_nil : RL X g ec W [] lk ω ω (fun env => .ok [] env) :=
  ⟨pa_imp pa_nil fun σ H Q ⟨env, foot, sf, q⟩ => q [] H ⟨foot, sf, Chg.refl, .nil⟩, Kp.refl⟩
def consR {α : Type} (fa : Env → R α) (fb : Env → R (List α)) (env : Env) : R (List α) := (fa env).bind fun x e1 => (fb e1).bind fun xs e2 => .ok (x :: xs) e2
theorem rl_cons {es : List Expr} {fs : Env → R (List D)} (ha : RV X g ec W a lk ω ω1 fa) (hb : RL X g ec W es lk ω1 ω2 fs) (hs : starEach (a :: es) X.env = (false, eval a X.env) :: starEach es X.env) : RL X g ec W (a :: es) lk ω ω2 (consR fa fs) := by
  refine ⟨pa_imp (pa_cons ha.pe hb.pa hs) fun σ H Q ⟨env, foot, sf, q⟩ => ⟨env, foot, sf, (Out.bind.mp q).imp (fun d1 env1 _ q v1 H1 p1 => ?_) fun _ _ h => h⟩, ha.kp.trans hb.kp fun _ h => h⟩
  obtain ⟨f1, sf1, c1, r1⟩ := p1
  refine ⟨env1, f1, sf1, (Out.bind.mp q).imp (fun d2 env2 _ q v2 H2 p2 => ?_) fun x e2 h cls dd H2 p => h cls dd H2 (p.over c1 ha.kp fun _ h => h)⟩
  obtain ⟨f2, sf2, c2, r2⟩ := p2
  exact q _ H2 ⟨f2, sf2, c1.trans' c2 fun _ h => h, .cons (r1.over sf1 c2) r2⟩
/-- owned things, each k deep -/
def PvO (K : PySem.W.Frag) (g : GF) (ω' : List Nat) (k : Nat) (lk : List Nat) (σ : L2.St) (H : Hp) (foot : List (List Addr)) (env : Env) (ds : List D) (env' : Env) (vs : List V) (H' : Hp) : Prop :=
  ∃ foot' Ss, Sf K g ω' σ H' env' foot' ∧ Chg lk foot env H foot' env' H' ∧ OwnL (Own K g H' k) ds vs Ss ∧ Ss.flatten.Nodup ∧ (∀ a ∈ Ss.flatten, a ∉ foot'.flatten) ∧ ∀ a ∈ Ss.flatten, Av lk foot a ∨ H a = none
abbrev tO (K : PySem.W.Frag) (g : GF) (ec : EC) (W : WX) (k : Nat) (lk ω ω' : List Nat) (f : Env → R (List D)) : TA := tG K g ec W (PvO K g ω' k) lk ω f
variable (X g ec W) in
structure RO (es : List Expr) (k : Nat) (lk ω ω' : List Nat) (f : Env → R (List D)) : Prop where
  pa : PA X es (tO X.K g ec W k lk ω ω' f)
  kp : Kp lk ω ω'
theorem ro_nil : RO X g ec W [] k lk ω ω (fun env => .ok [] env) :=
  ⟨pa_imp pa_nil fun σ H Q ⟨env, foot, sf, q⟩ => q [] H ⟨foot, [], sf, Chg.refl, trivial, .nil, no_mem, no_mem⟩, Kp.refl⟩
theorem ro_cons {es : List Expr} {fs : Env → R (List D)} (ha : RP X g ec W a lk ω ω1 k none fa) (hb : RO X g ec W es k lk ω1 ω2 fs) (hs : starEach (a :: es) X.env = (false, eval a X.env) :: starEach es X.env) : RO X g ec W (a :: es) k lk ω ω2 (consR fa fs) := by
  refine ⟨pa_imp (pa_cons ha.pe hb.pa hs) fun σ H Q ⟨env, foot, sf, q⟩ => ⟨env, foot, sf, (Out.bind.mp q).imp (fun d1 env1 _ q v1 H1 p1 => ?_) fun _ _ h => h⟩, ha.kp.trans hb.kp fun _ h => h⟩
  obtain ⟨f1, sf1, c1, S, o, nd, dj, own⟩ := p1
  refine ⟨env1, f1, sf1, (Out.bind.mp q).imp (fun d2 env2 _ q v2 H2 p2 => ?_) fun x e2 h cls dd H2 p => h cls dd H2 (p.over c1 ha.kp fun _ h => h)⟩
  obtain ⟨f2, Ss, sf2, c2, o2, nd2, dj2, own2⟩ := p2
  have nA : ∀ a ∈ S, ¬ Av lk f1 a := fun a ha z => dj a ha z.mem
  have isS : ∀ a ∈ S, H1 a ≠ none := fun a ha z => by
    obtain ⟨u, e, _⟩ := o.mut a ha
    rw [e] at z; cases z
  refine q _ H2 ⟨f2, S :: Ss, sf2, c1.trans' c2 fun _ h => h, ⟨o.over nA sf1 c2, o2⟩, ?_, fun a ha => ?_, fun a ha => ?_⟩
  · rw [List.flatten_cons]
    refine List.nodup_append.mpr ⟨nd, nd2, fun a ha b hb z => ?_⟩
    subst z
    rcases own2 a hb with z | z
    · exact nA a ha z
    · exact isS a ha z
  · rw [List.flatten_cons] at ha
    rcases List.mem_append.mp ha with ha | ha
    · intro z
      obtain ⟨T, hT, haT⟩ := List.mem_flatten.mp z
      obtain ⟨i, hi⟩ := List.getElem?_of_mem hT
      by_cases hil : i ∈ lk
      · rw [(c2.lkd i hil).1] at hi
        exact dj a ha (List.mem_flatten.mpr ⟨T, List.mem_of_getElem? hi, haT⟩)
      · rcases c2.own a ⟨i, T, hil, hi, haT⟩ with z | z
        · exact nA a ha z
        · exact isS a ha z
    · exact dj2 a ha
  · rw [List.flatten_cons] at ha
    rcases List.mem_append.mp ha with ha | ha
    · exact own a ha
    · rcases own2 a ha with z | z
      · exact c1.own a z
      · exact .inr (c1.none_of z)
theorem rv_tup {es : List Expr} {j : Nat} {pos : Pos} {fs : Env → R (List D)} (h : RL X g ec W es lk ω ω1 fs) (hl : es.length ≤ 1000) (hn : ∀ env ds e, fs env = .ok ds e → ds.length = es.length) :
    RV X g ec W (.Tuple es j pos) lk ω ω1 (fun env => (fs env).bind fun xs e1 => .ok (.tup xs) e1) := by
  refine ⟨pe_imp (pe_tup h.pa) fun σ H Q ⟨env, foot, sf, q⟩ => ⟨env, foot, sf, (Out.bind.mp q).imp (fun ds env1 ea q vs H1 p1 => ?_) fun _ _ h => h⟩, h.kp⟩
  obtain ⟨f1, sf1, c1, r1⟩ := p1
  have l1 := r1.length
  have l2 := hn env ds env1 ea
  exact ⟨by rw [sizeLine_eq]; omega, fun p n => q _ _ ⟨f1, sf1.new n, c1.new n, .tup (SqT.of upd_same) (r1.stay (Stays.new n))⟩⟩
theorem rp_lst {es : List Expr} {pos : Pos} {fs : Env → R (List D)} (h : RO X g ec W es k lk ω ω1 fs) (hl : es.length ≤ 1000) (hn : ∀ env ds e, fs env = .ok ds e → ds.length = es.length) :
    RP X g ec W (.List es pos) lk ω ω1 (k + 1) none (fun env => (fs env).bind fun xs e1 => .ok (.lst xs) e1) := by
  refine ⟨pe_imp (pe_lst h.pa) fun σ H Q ⟨env, foot, sf, q⟩ => ⟨env, foot, sf, (Out.bind.mp q).imp (fun ds env1 ea q vs H1 p1 => ?_) fun _ _ h => h⟩, h.kp⟩
  obtain ⟨f1, Ss, sf1, c1, o1, nd, dj, own⟩ := p1
  have l1 := o1.length.1
  have l2 := hn env ds env1 ea
  have isS : ∀ a ∈ Ss.flatten, H1 a ≠ none := fun a ha z => by
    obtain ⟨T, hT, haT⟩ := List.mem_flatten.mp ha
    obtain ⟨d, v, o⟩ := OwnL.mem o1 hT
    obtain ⟨u, e, _⟩ := o.mut a haT
    rw [e] at z; cases z
  refine ⟨by rw [sizeLine_eq]; omega, fun p n => q _ _ ⟨f1, sf1.new n, c1.new n, p :: Ss.flatten, ⟨p, vs, Ss, rfl, upd_same, ?_, rfl⟩, ?_, fun a ha => ?_, fun a ha => ?_⟩⟩
  · exact OwnL.imp (fun d v S hS o => o.stay (Stays.new n) fun a ha u eu => by rw [upd_ne (ne_of_none eu n)]; exact eu) o1
  · exact List.nodup_cons.mpr ⟨fun z => isS p z n, nd⟩
  · rcases List.mem_cons.mp ha with rfl | ha
    · exact sf1.notFoot n
    · exact dj a ha
  · rcases List.mem_cons.mp ha with rfl | ha
    · exact .inr (c1.none_of n)
    · exact own a ha
end
end VK
set_option Elab.async false
set_option linter.all false
set_option maxHeartbeats 1000000
/-! the rules of expressions, 4: subscripts, slices -/
namespace VK
open PySem PySem.Spec PyProof.Rows L2
section
variable {X : Cx} {g : GF} {ec : EC} {W : WX} {e a b c : Expr} {lk lk1 lk2 ω ω' ω1 ω2 ω3 : List Nat} {k m : Nat} {base : Option Nat} {f fa fb fc : Env → R D}
theorem atI_map {α β : Type} (f : α → β) (xs : List α) (i : Int) : atI (xs.map f) i = (atI xs i).map f := by
  unfold atI
  rw [List.length_map]
  cases ixN xs.length i with
  | none => rfl
  | some j => simp [List.getElem?_map]
theorem Reps.at {K : PySem.W.Frag} {H : Hp} {ds : List D} {vs : List V} {i : Int} {d : D} (r : Reps K g H ds vs) (h : atI ds i = some d) : ∃ v, atI vs i = some v ∧ Rep K g H d v := by
  unfold atI at h ⊢
  rw [← r.length]
  cases hx : ixN ds.length i with
  | none => rw [hx] at h; cases h
  | some j =>
    rw [hx] at h
    exact r.get h
/-- a[b], the answer frozen -/
def rIxD (K : PySem.W.Frag) (g : GF) : R2 := fun x y H Q => ∃ d1 d2 d, Vw K g H 1 d1 x ∧ Rep K g H d2 y ∧ subD d1 d2 = some d ∧ ∀ v, Rep K g H d v → Q v H
theorem Rep.key {K : PySem.W.Frag} {H : Hp} {k : Key} {v : V} (h : Rep K g H (kD k) v) : v = kV k := Vw.key (m := 0) (g := g) ⟨0, [], Nat.le_refl _, rfl, h⟩
theorem ix_all (hu : X.A.units + 65 < cLine) : IxR X (rIxD X.K g) := by
  intro value slice pins s σ H x y v u Q I rx ry h hs
  obtain ⟨d1, d2, d, w1, r2, he, q⟩ := h
  cases d1 with
  | tup xs =>
    cases d2 <;> simp only [subD, reduceCtorEq] at he
    obtain ⟨p, vs, e1, h1, r1⟩ := w1.tup
    obtain ⟨w, hw, rw'⟩ := r1.at he
    cases r2
    exact ix_tup value slice pins s σ H _ _ v u Q I rx ry ⟨p, vs, _, w, e1, rfl, h1, hw, q w rw'⟩ hs
  | lst xs =>
    cases d2 <;> simp only [subD, reduceCtorEq] at he
    obtain ⟨p, vs, e1, h1, r1⟩ := w1.lst
    obtain ⟨w, hw, rw'⟩ := r1.at he
    cases r2
    exact ix_list value slice pins s σ H _ _ v u Q I rx ry ⟨p, vs, _, w, e1, rfl, h1, hw, q w rw'⟩ hs
  | str z =>
    cases d2 <;> simp only [subD, reduceCtorEq] at he
    split at he
    · rename_i hz
      rw [SZ_eq] at hz
      obtain ⟨c, hc, ed⟩ := Option.map_eq_some_iff.mp he
      subst ed
      cases r2
      exact ix_str value slice pins s σ H _ _ v u Q I rx ry ⟨z, _, c, w1.str, rfl, hz, hc, q _ (.str _)⟩ hs
    · cases he
  | dic es =>
    have hk : isKey d2 = true := by
      cases d2 <;> simp only [subD] at he <;> first | rfl | (split at he <;> first | assumption | cases he)
    obtain ⟨key, rfl⟩ := isKey_of hk
    have hl : lookD (kD key) es = some d := by
      cases key <;> simpa [subD, kD, isKey] using he
    obtain ⟨p, kvs, rfl, hd, r⟩ := w1.dic
    have ey := r2.key
    subst ey
    obtain rfl : v = Value.ref p := rx
    have := r.look key
    rw [hl] at this
    obtain ⟨w, hw, rw'⟩ := this
    have gt : DGet H p (kV key) (some w) := .inl ⟨kvs, key, hd, rfl, hw.symm⟩
    exact PyProof.Rows.tail_any (dict_typeIs I gt) PySem.F.slot_dict_getitem.lookup (d_getItem (by omega) I gt ry fun w' s3 I3 rw2 => ⟨w, H, I3, rw2, q w rw'⟩) hs
  | _ => cases d2 <;> simp [subD] at he
theorem rv_sub {pos : Pos} (hu : X.A.units + 65 < cLine) (hs : PlainIx b) (ha : RK X g ec W a 1 lk1 lk ω ω1 fa) (hb : RV X g ec W b lk1 ω1 ω2 fb) :
    RV X g ec W (.Subscript a b pos) lk ω ω2 (fun env => (fa env).bind fun x e1 => (fb e1).bind fun y e2 => liftO (subD x y) e2) := by
  refine ⟨pe_imp (pe_ix (ix_all (g := g) hu) ha.pe hb.pe hs) fun σ H Q ⟨env, foot, sf, q⟩ => ⟨env, foot, sf, (Out.bind.mp q).imp (fun d1 env1 _ q v1 H1 p1 => ?_) fun _ _ h => h⟩, ha.kp.trans hb.kp ha.sub⟩
  obtain ⟨f1, sf1, c1, k1, S1, hk1, o1, n1⟩ := p1
  refine ⟨env1, f1, sf1, (Out.bind.mp q).imp (fun d2 env2 _ q v2 H2 p2 => ?_) fun x e2 h cls dd H2 p => h cls dd H2 (p.over c1 ha.kp ha.sub)⟩
  obtain ⟨f2, sf2, c2, r2⟩ := p2
  obtain ⟨d, hd, q⟩ := q.lift
  exact ⟨d1, d2, d, ⟨k1, S1, hk1, o1.over n1 sf1 c2⟩, r2, hd, fun v r => q v H2 ⟨f2, sf2, c1.trans' c2 ha.sub, r⟩⟩
/-- a[b] inside an owned thing, the answer owned itself -/
theorem rp_subB {x : Nat} {pos : Pos} (hu : X.A.units + 65 < cLine) (hs : PlainIx b) (ha : RP X g ec W a lk ω ω1 (k + 2) (some x) fa) (hb : RV X g ec W b (x :: lk) ω1 ω2 fb) :
    RP X g ec W (.Subscript a b pos) lk ω ω2 (k + 1) (some x) (fun env => (fa env).bind fun x e1 => (fb e1).bind fun y e2 => liftO (subD x y) e2) := by
  have sub : ∀ i ∈ lk, i ∈ x :: lk := fun i h => List.mem_cons_of_mem _ h
  let rr : R2 := fun v w H Q => rIxD X.K g v w H Q ∨ rIxL X.K v w H Q
  have hr : IxR X rr := (ix_all (g := g) hu).or ix_list
  refine ⟨pe_imp (pe_ix hr ha.pe hb.pe hs) fun σ H Q ⟨env, foot, sf, q⟩ => ⟨env, foot, sf, (Out.bind.mp q).imp (fun d1 env1 _ q v1 H1 p1 => ?_) fun _ _ h => h⟩, ha.kp.trans hb.kp sub⟩
  obtain ⟨f1, sf1, c1, val1⟩ := p1
  refine ⟨env1, f1, sf1, (Out.bind.mp q).imp (fun d2 env2 eb q v2 H2 p2 => ?_) fun x e2 h cls dd H2 p => h cls dd H2 (p.over c1 ha.kp sub)⟩
  obtain ⟨f2, sf2, c2, r2⟩ := p2
  obtain ⟨d, hd, qq⟩ := q.lift
  clear q eb
  have cc := c1.trans' c2 sub
  have frozen : ∀ m, Vw X.K g H2 m d1 v1 → (∀ ds, d1 ≠ .lst ds) → rr v1 v2 H2 Q := fun m w hl => by
    refine .inl ⟨d1, d2, d, ?_, r2, hd, fun v r => qq v H2 ⟨f2, sf2, cc, .inl r⟩⟩
    obtain ⟨k, S, hk, o⟩ := w
    cases k with
    | zero => exact ⟨0, S, Nat.zero_le _, o⟩
    | succ k =>
      cases d1 with
      | lst ds => exact absurd rfl (hl ds)
      | dic es => exact ⟨1, S, Nat.le_refl _, o⟩
      | _ => exact ⟨0, S, Nat.zero_le _, o⟩
  rcases val1 with r | ⟨js, dx, vx, e1, e2, ap, el⟩
  · have r' := r.over sf1 c2
    exact .inl ⟨d1, d2, d, ⟨0, [], Nat.zero_le _, rfl, r'⟩, r2, hd, fun v r => qq v H2 ⟨f2, sf2, cc, .inl r⟩⟩
  · obtain ⟨hf, he⟩ := c2.lkd x List.mem_cons_self
    have ex2 : env2[x]? = some (some dx) := he.trans e1
    obtain ⟨vx', S, h1, h2, o⟩ := sf2.slot x dx ex2
    rw [e2] at h1; cases h1
    have eω : ω2.getD x 0 = ω1.getD x 0 := hb.kp x List.mem_cons_self
    rw [eω, ← el] at o
    have same : ∀ a ∈ S, H2 a = H1 a := fun a ha => by
      rw [hf] at h2
      obtain ⟨u, eu, _⟩ := sf1.mut a (List.mem_flatten.mpr ⟨S, List.mem_of_getElem? h2, ha⟩)
      rw [eu]
      refine c2.step.keep a u eu fun z => ?_
      obtain ⟨i, T, ni, hT, haT⟩ := z
      exact ni (by rw [foot_disj sf1.nd hT h2 haT ha]; exact List.mem_cons_self)
    have ap2 := AtP.keep (K := X.K) (g := g) ap o same
    obtain ⟨T, _, oT⟩ := AtP.own ap2 o
    cases d1 with
    | lst ds =>
      obtain ⟨p, xs, Ss, ev, eH, r, _⟩ := oT
      cases d2 <;> simp only [subD, reduceCtorEq] at hd
      rename_i i
      cases r2
      unfold atI at hd
      cases hj : ixN ds.length i with
      | none => rw [hj] at hd; cases hd
      | some j =>
        rw [hj] at hd
        have hd : ds[j]? = some d := hd
        obtain ⟨w, U, hw, _, ow⟩ := r.get hd
        refine .inr ⟨p, xs, i, w, ev, rfl, SqL.of eH, ?_, qq w H2 ⟨f2, sf2, cc, .inr ⟨js ++ [j], dx, vx, ex2, e2, ap2.snoc rfl ev eH hd hw, ?_⟩⟩⟩
        · unfold atI
          rw [← r.length.1, hj]
          exact hw
        · rw [eω, ← el, List.length_append, List.length_singleton]; omega
    | _ => exact frozen _ ⟨_, _, Nat.le_refl _, oT⟩ (fun _ z => nomatch z)

/-! ### slices -/
def PvOp (K : PySem.W.Frag) (g : GF) (ω' : List Nat) (lk : List Nat) (σ : L2.St) (H : Hp) (foot : List (List Addr)) (env : Env) (d : D) (env' : Env) (o : Option Int) (H' : Hp) : Prop :=
  partD d = some o ∧ ∃ foot', Sf K g ω' σ H' env' foot' ∧ Chg lk foot env H foot' env' H'
abbrev tPart' (K : PySem.W.Frag) (g : GF) (ec : EC) (W : WX) (lk ω ω' : List Nat) (f : Env → R D) : TO := fun σ H Q =>
  ∃ env foot, Sf K g ω σ H env foot ∧ Out (f env) (fun d env' => ∃ o, partD d = some o ∧ ∀ H', (∃ foot', Sf K g ω' σ H' env' foot' ∧ Chg lk foot env H foot' env' H') → Q o H')
    (fun x env' => ∀ cls dd H', PX K g ec lk ω σ H foot env x env' cls dd H' → W cls dd σ H')
variable (X g ec W) in
structure RPt (e : Option Expr) (lk ω ω' : List Nat) (f : Env → R D) : Prop where
  po : PO X e (tPart' X.K g ec W lk ω ω' f)
  kp : Kp lk ω ω'
  part : ∀ env d e', f env = .ok d e' → ∃ o, partD d = some o
theorem po_imp {o : Option Expr} {t t' : TO} (h : PO X o t) (i : ∀ σ H Q, t' σ H Q → t σ H Q) : PO X o t' := ⟨fun pins s σ H Q I q => h.run pins s σ H Q I (i σ H Q q)⟩
theorem rpt_none : RPt X g ec W none lk ω ω (fun env => .ok .non env) :=
  ⟨po_imp po_none fun σ H Q ⟨env, foot, sf, q⟩ => by
    obtain ⟨o, ho, q⟩ := q
    cases ho
    exact q H ⟨foot, sf, Chg.refl⟩, Kp.refl, fun env d e' h => by cases h; exact ⟨none, rfl⟩⟩
/-- an int as a slice's part -/
theorem rpt_some (ha : RV X g ec W a lk ω ω1 fa) : RPt X g ec W (some a) lk ω ω1 (fun env => (fa env).bind fun x e1 => match x with
    | .int i => .ok (.int i) e1
    | _ => .err) := by
  refine ⟨po_imp (po_some ha.pe) fun σ H Q ⟨env, foot, sf, q⟩ => ⟨env, foot, sf, (Out.bind.mp q).imp (fun d env1 ea q v H1 p1 => ?_) fun _ _ h => h⟩, ha.kp, fun env d e' h => ?_⟩
  · obtain ⟨f1, sf1, c1, r1⟩ := p1
    cases d with
    | int i =>
      obtain ⟨o, ho, q⟩ := q
      cases ho
      cases r1
      exact ⟨i, rfl, q H1 ⟨f1, sf1, c1⟩⟩
    | _ => exact q.elim
  · cases ha : fa env with
    | ok x e1 =>
      rw [ha] at h
      cases x <;> simp only [R.bind, reduceCtorEq] at h
      cases h
      exact ⟨some _, rfl⟩
    | exc x e1 => rw [ha] at h; cases h
    | err => rw [ha] at h; cases h
/-- what a slice gives -/
def rSlD (K : PySem.W.Frag) (g : GF) : V → Option Int → Option Int → Hp → VK → Prop := fun x lo hi H Q => ∃ d1 l h d, Vw K g H 1 d1 x ∧ partD l = some lo ∧ partD h = some hi ∧ slD d1 l h = some d ∧ ∀ v H', New K g H d v H' → Q v H'
theorem Reps.cut {K : PySem.W.Frag} {H : Hp} {ds : List D} {vs : List V} (r : Reps K g H ds vs) (lo hi : Option Int) : Reps K g H (cutL ds lo hi) (cutV vs lo hi) := by
  unfold cutL cutV
  rw [← r.length]
  exact (r.drop _).take _
end
end VK
set_option Elab.async false
set_option linter.all false
set_option maxHeartbeats 1000000
/-! the rules of expressions, 5: slices, built-in functions, methods -/
namespace VK
open PySem PySem.Spec PyProof.Rows L2
section
variable {X : Cx} {g : GF} {ec : EC} {W : WX} {e a b c : Expr} {lk lk1 lk2 ω ω' ω1 ω2 ω3 : List Nat} {k m : Nat} {base : Option Nat} {f fa fb fc : Env → R D}
theorem RP.congr {f' : Env → R D} (h : RP X g ec W e lk ω ω' k base f) (q : ∀ env, f' env = f env) : RP X g ec W e lk ω ω' k base f' := by
  have : f' = f := funext q
  rw [this]; exact h
theorem RV.congr {f' : Env → R D} (h : RV X g ec W e lk ω ω' f) (q : ∀ env, f' env = f env) : RV X g ec W e lk ω ω' f' := by
  have : f' = f := funext q
  rw [this]; exact h
theorem cutS_eq (z : Str) (lo hi : Option Int) : cutS z lo hi = ⟨(cutL z.cps.toList lo hi).toArray⟩ := by
  unfold cutS cutL
  rfl
theorem sl_all : SlR X (rSlD X.K g) := by
  intro pins s σ H x v vl vu lo hi sl Q I rx hs hl hu h
  obtain ⟨d1, l, h', d, w, el, eh, he, q⟩ := h
  simp only [slD, el, eh] at he
  cases d1 with
  | tup xs =>
    simp only [Option.bind_eq_bind, Option.bind_some, Option.some.injEq] at he
    subst he
    obtain ⟨a, vs, rfl, hx, r⟩ := w.tup
    refine sl_tupA pins s σ H _ v vl vu lo hi sl Q I rx hs hl hu ⟨a, vs, rfl, hx, fun z => ?_, fun _ p n => q _ _ (.tup n (r.cut lo hi))⟩
    have hc : cutL xs lo hi = xs := by
      unfold cutL
      rw [r.length, z.1, z.2, List.drop_zero, Nat.sub_zero, ← r.length, List.take_length]
    rw [hc] at q
    exact q _ _ (New.oldT hx r)
  | lst xs =>
    simp only [Option.bind_eq_bind, Option.bind_some, Option.some.injEq] at he
    subst he
    obtain ⟨a, vs, rfl, hx, r⟩ := w.lst
    exact sl_list pins s σ H _ v vl vu lo hi sl Q I rx hs hl hu ⟨a, vs, rfl, hx, fun p n => q _ _ (.lst n (r.cut lo hi))⟩
  | str z =>
    simp only [Option.bind_eq_bind, Option.bind_some] at he
    split at he
    · rename_i hz
      simp only [Option.some.injEq] at he
      subst he
      rw [SZ_eq] at hz
      exact sl_str pins s σ H _ v vl vu lo hi sl Q I rx hs hl hu ⟨z, w.str, hz, by rw [cutS_eq]; exact q _ _ (.str _)⟩
    · cases he
  | _ => simp at he
theorem rp_sl {lo hi : Option Expr} {fl fh : Env → R D} {p2 pos : Pos} (ha : RK X g ec W a 1 lk1 lk ω ω1 fa) (hl : RPt X g ec W lo lk1 ω1 ω2 fl) (hh : RPt X g ec W hi lk1 ω2 ω3 fh) :
    RP X g ec W (.Subscript a (.Slice lo hi none p2) pos) lk ω ω3 1 none (fun env => (fa env).bind fun x e1 => (fl e1).bind fun l e2 => (fh e2).bind fun h e3 => liftO (slD x l h) e3) := by
  have s1 : ∀ i ∈ lk1, i ∈ lk1 := fun _ h => h
  refine ⟨pe_imp (pe_slice (sl_all (g := g)) ha.pe hl.po hh.po) fun σ H Q ⟨env, foot, sf, q⟩ => ⟨env, foot, sf, (Out.bind.mp q).imp (fun d1 env1 _ q v1 H1 p1 => ?_) fun _ _ h => h⟩, (ha.kp.trans hl.kp ha.sub).trans hh.kp ha.sub⟩
  obtain ⟨f1, sf1, c1, k1, S1, hk1, o1, n1⟩ := p1
  refine ⟨env1, f1, sf1, (Out.bind.mp q).imp (fun d2 env2 e2 q => ?_) fun x e2 h cls dd H2 p => h cls dd H2 (p.over c1 ha.kp ha.sub)⟩
  obtain ⟨o, ho⟩ := hl.part _ _ _ e2
  refine ⟨o, ho, fun H2 p2 => ?_⟩
  obtain ⟨f2, sf2, c2⟩ := p2
  refine ⟨env2, f2, sf2, (Out.bind.mp q).imp (fun d3 env3 e3 q => ?_) fun x e2 h cls dd H3 p => h cls dd H3 (p.over (c1.trans' c2 ha.sub) (ha.kp.trans hl.kp ha.sub) ha.sub)⟩
  obtain ⟨d, hd, qq⟩ := Out.lift q
  obtain ⟨o3, ho3⟩ := hh.part _ _ _ e3
  refine ⟨o3, ho3, fun H3 p3 => ?_⟩
  obtain ⟨f3, sf3, c3⟩ := p3
  exact ⟨d1, d2, d3, d, ⟨k1, S1, hk1, o1.over n1 sf1 (c2.trans' c3 s1)⟩, ho, ho3, hd, fun v H' nw => qq v H' (nw.post sf3 ((c1.trans' c2 ha.sub).trans' c3 ha.sub))⟩
end
end VK
set_option Elab.async false
set_option linter.all false
set_option maxHeartbeats 1000000
/-! sorted, of data that compare with each other -/
namespace VK
open PySem PySem.Spec PyProof.Rows L2
section
variable {α β : Type} {le : α → α → Bool}
theorem insA_perm (x : α) : ∀ l : List α, (insA le x l).Perm (x :: l)
  | [] => List.Perm.refl _
  | y :: ys => by
    unfold insA
    split
    · exact List.Perm.refl _
    · exact ((insA_perm x ys).cons y).trans (List.Perm.swap x y ys)
theorem sortA_perm : ∀ l : List α, (sortA le l).Perm l
  | [] => List.Perm.refl _
  | x :: xs => (insA_perm x _).trans ((sortA_perm xs).cons x)
theorem insA_sorted (h : PySem.W.TotalLe le) (x : α) : ∀ l : List α, l.Pairwise (fun a b => le a b = true) → (insA le x l).Pairwise (fun a b => le a b = true)
  | [], _ => List.pairwise_singleton _ _
  | y :: ys, hp => by
    obtain ⟨h1, h2⟩ := List.pairwise_cons.mp hp
    unfold insA
    split
    · rename_i q
      refine List.pairwise_cons.mpr ⟨fun z hz => ?_, hp⟩
      rcases List.mem_cons.mp hz with rfl | hz
      · exact q
      · exact h.trans _ _ _ q (h1 z hz)
    · rename_i q
      refine List.pairwise_cons.mpr ⟨fun z hz => ?_, insA_sorted h x ys h2⟩
      rcases List.mem_cons.mp ((insA_perm x ys).mem_iff.mp hz) with rfl | hz
      · exact (h.total _ _).resolve_left q
      · exact h1 z hz
theorem sortA_sorted (h : PySem.W.TotalLe le) : ∀ l : List α, (sortA le l).Pairwise (fun a b => le a b = true)
  | [] => List.Pairwise.nil
  | x :: xs => insA_sorted h x _ (sortA_sorted h xs)
theorem insA_filter (h : PySem.W.TotalLe le) (c x : α) : ∀ l : List α, (insA le x l).filter (PySem.W.sameRank le c) = (x :: l).filter (PySem.W.sameRank le c)
  | [] => rfl
  | y :: ys => by
    unfold insA
    split
    · rfl
    · rename_i q
      have ih := insA_filter h c x ys
      by_cases hx : PySem.W.sameRank le c x = true
      · have hy : ¬ PySem.W.sameRank le c y = true := fun hy => q (by
          unfold PySem.W.sameRank at hx hy
          rw [Bool.and_eq_true] at hx hy
          exact h.trans _ _ _ hx.2 hy.1)
        rw [List.filter_cons_of_neg hy, ih, List.filter_cons_of_pos hx, List.filter_cons_of_pos hx, List.filter_cons_of_neg hy]
      · rw [List.filter_cons_of_neg hx] at ih ⊢
        by_cases hy : PySem.W.sameRank le c y = true
        · rw [List.filter_cons_of_pos hy, List.filter_cons_of_pos hy, ih]
        · rw [List.filter_cons_of_neg hy, List.filter_cons_of_neg hy, ih]
theorem sortA_filter (h : PySem.W.TotalLe le) (c : α) : ∀ l : List α, (sortA le l).filter (PySem.W.sameRank le c) = l.filter (PySem.W.sameRank le c)
  | [] => rfl
  | x :: xs => by
    have ih := sortA_filter h c xs
    show (insA le x (sortA le xs)).filter _ = _
    rw [insA_filter h]
    by_cases hx : PySem.W.sameRank le c x = true
    · rw [List.filter_cons_of_pos hx, List.filter_cons_of_pos hx, ih]
    · rw [List.filter_cons_of_neg hx, List.filter_cons_of_neg hx, ih]
theorem sortA_eq (h : PySem.W.TotalLe le) (l : List α) : sortA le l = l.mergeSort le := PySem.W.sort_unique h (sortA_sorted h l) fun c => sortA_filter h c l
theorem insA_map {le' : β → β → Bool} (f : α → β) (h : ∀ a b, le a b = le' (f a) (f b)) (x : α) : ∀ l : List α, (insA le x l).map f = insA le' (f x) (l.map f)
  | [] => rfl
  | y :: ys => by
    show (if le x y = true then x :: y :: ys else y :: insA le x ys).map f = if le' (f x) (f y) = true then _ else _
    rw [h x y]
    by_cases q : le' (f x) (f y) = true
    · rw [if_pos q, if_pos q]; rfl
    · rw [if_neg q, if_neg q]
      show f y :: _ = _
      rw [insA_map f h x ys]
theorem sortA_map {le' : β → β → Bool} (f : α → β) (h : ∀ a b, le a b = le' (f a) (f b)) : ∀ l : List α, (sortA le l).map f = sortA le' (l.map f)
  | [] => rfl
  | x :: xs => by
    show (insA le x _).map f = insA le' (f x) _
    rw [insA_map f h, sortA_map f h xs]
end
/-! ### the built-in function, of a list or a tuple -/
section
variable {prog : Program} {w : World} {A : Around} {E : Value → Shared → Prop} {s : Shared}
theorem collect_tup {l : Addr} {vs : List Value} {o : Obj} {n : Nat} {Q : List Value → Shared → Prop} (ho : s.heap.get? l = some o) (hc : o.cls = .type "tuple") (hd : o.data = .seq vs.toArray n)
    (h : Q vs { s with heap := (s.heap.push (seqObj "list" #[] 0)).update s.heap.objs.size (Obj.mapSeq (· ++ vs.toArray)) }) (hsz : vs.length ≤ sizeLine) :
    wpAny (model prog w) A (collect (.ref l)) Q E s := by
  unfold collect
  refine wpAny_bind (wpAny_runValue (codeAny_builtin entry_proto_collect' ?_))
  show wpAny _ _ (do again (.builtin "list.__iadd__" ⟨[← newList [], .ref l], []⟩)) _ _ s
  refine wpAny_bind (wpAny_newList (wpAny_pure ⟨Code.quiet_builtin _ (by decide +kernel), codeAny_builtin entry_list_iadd' ?_⟩))
  show wpAny _ _ (Builtin.List.listExtendWith (.ref s.heap.objs.size) (.ref l) (.ref s.heap.objs.size)) _ _ { s with heap := s.heap.push (seqObj "list" #[] 0) }
  unfold Builtin.List.listExtendWith
  have ho' : (s.heap.push (seqObj "list" #[] 0)).get? l = some o := Heap.get?_push_of_some _ ho
  refine wpAny_bind (wpAny_typeOf (T := "tuple") ⟨o, ho', hc⟩ ?_)
  have ht : (Value.type "tuple" == Value.type "tuple") = true := by rfl
  rw [if_pos (by rw [ht]; simp)]
  refine wpAny_bind (listItems_at ho' hd ?_)
  refine wpAny_bind (listItems_at (xs := #[]) (n := 0) (Heap.get?_push_size _ rfl) rfl ?_)
  rw [if_neg (by simp)]
  refine wpAny_bind (listUpdate_at (xs := #[]) (n := 0) (Heap.get?_push_size _ rfl) rfl ?_ (Nat.zero_le _) (by show (#[] ++ vs.toArray).size ≤ sizeLine + 1; simp only [Array.size_append, List.size_toArray, List.length_nil]; omega))
  refine wpAny_pure ?_
  show wpAny (model prog w) A (do
      let o ← load s.heap.objs.size
      match o.data with
      | .seq xs _ => pure xs.toList
      | _ => unsupported "internal:collect") Q E { s with heap := (s.heap.push (seqObj "list" #[] 0)).update s.heap.objs.size (Obj.mapSeq (· ++ vs.toArray)) }
  refine wpAny_bind (wpAny_load (get?_update_seq (Heap.get?_push_size _ rfl) _) ?_)
  show wpAny _ _ (pure ((#[] : Array Value) ++ vs.toArray).toList) Q E _
  rw [show ((#[] : Array Value) ++ vs.toArray).toList = vs by simp]
  exact wpAny_pure h
open PySem.Calls PySem.W in
theorem sorted_coll {κ : KeyKind} {l : Addr} {vs : List Value} {Q : Value → Shared → Prop} (hcol : ∀ (Q : List Value → Shared → Prop) (A : Around) (E : Value → Shared → Prop), Q vs { s with heap := (s.heap.push (seqObj "list" #[] 0)).update s.heap.objs.size (Obj.mapSeq (· ++ vs.toArray)) } → wpAny (model prog w) A (collect (.ref l)) Q E s)
    (S : SortsAt prog w A.in1.in1 { s with heap := sortingHeap (copyHeap s.heap vs) (s.heap.objs.size + 1) vs } κ vs) (hL : vs.length ≤ sizeLine)
    (h : Q (.ref (s.heap.objs.size + 1)) { s with heap := sortedAll s.heap vs (sortVals κ false vs vs).toArray }) : wpAny (model prog w) A (call (.builtin "sorted") [.ref l]) Q E s := by
  refine call_function_entry_kw kind_sorted plain_sorted entry_sorted (args_sorted1 _) ?_
  unfold Builtin.«sorted»
  refine wpAny_bind (m := checkCount "sorted" 1 1 _) (wpAny_pure ?_)
  refine wpAny_bind (hcol _ _ _ ?_)
  refine wpAny_bind (wpAny_newList ?_ hL)
  have hsz : ((s.heap.push (seqObj "list" #[] 0)).update s.heap.objs.size (Obj.mapSeq (· ++ vs.toArray))).objs.size = s.heap.objs.size + 1 := by
    rw [Heap.size_update, size_push']
  show wpAny _ _ _ _ _ { s with heap := copyHeap s.heap vs }
  rw [hsz]
  refine wpAny_bind (wpAny_holding (wpAny_call_entry_kw slot_list_sort ⟨_, copyHeap_at s.heap vs, rfl⟩ entry_list_sort ?body (args_list_sort _)))
  case body =>
    show wpAny (model prog w) A.in1.in1 (Builtin.«list.sort» ⟨[.ref (s.heap.objs.size + 1)], []⟩) _ _ _
    refine wpAny_mono (list_sort_vals (P := fun f s' => f = .done (.ret .none) ∧ Q (.ref (s.heap.objs.size + 1)) s') (E := fun _ _ => False) (s := { s with heap := copyHeap s.heap vs }) (copyHeap_at s.heap vs) S hL ⟨rfl, h⟩) (fun f s' hf => ?_) fun _ _ e => e.elim
    obtain ⟨rfl, hq⟩ := hf
    exact ⟨_, rfl, wpAny_pure ⟨_, rfl, hq⟩⟩
open PySem.Calls PySem.W in
theorem sorted_dataC {β : Type} {enc : β → PyData} {bs : List β} {R : Value → β → Prop} {l : Addr} {vs : List Value} {Q : Value → Shared → Prop} (hcol : ∀ (Q : List Value → Shared → Prop) (A : Around) (E : Value → Shared → Prop), Q vs { s with heap := (s.heap.push (seqObj "list" #[] 0)).update s.heap.objs.size (Obj.mapSeq (· ++ vs.toArray)) } → wpAny (model prog w) A (collect (.ref l)) Q E s)
    (e : EachIs R vs bs) (er : EachIs (fun v b => ∃ as, Reads s.heap v (enc b) as) vs bs) (hal : AllAlike (bs.map enc)) (hk : Sortable (bs.map enc)) (hL : bs.length ≤ sizeLine)
    (hu : ∀ b, b ∈ bs → A.units + 2 + (enc b).depth < cLine) (h : ∀ out, out.length = bs.length → EachIs R out (bs.mergeSort (dataLe false enc)) → Q (.ref (s.heap.objs.size + 1)) { s with heap := sortedAll s.heap vs (List.toArray out) }) :
    wpAny (model prog w) A (call (.builtin "sorted") [.ref l]) Q E s := by
  have er' : EachIs (fun v b => ∃ as, Reads (sortingHeap (copyHeap s.heap vs) (s.heap.objs.size + 1) vs) v (enc b) as) vs bs := er.mono fun _ _ ⟨as, r⟩ => ⟨as, PyProof.Rows.Reads.keeps (fun _ _ => sorting_copy_old) r⟩
  exact sorted_coll hcol (SortsAt.data (s := { s with heap := sortingHeap (copyHeap s.heap vs) (s.heap.objs.size + 1) vs }) (each_map (R := fun v d => ∃ as, Reads (sortingHeap (copyHeap s.heap vs) (s.heap.objs.size + 1) vs) v d as) enc er') hal hk (bound_map hu)) (by rw [e.length]; exact hL)
    (h _ (by rw [sortVals_length false rfl]; exact e.length) (sortVals_data false e er' hal))
end
/-! ### as a rule -/
section
variable {X : Cx} {g : GF} {pins : List (Addr × Obj)} {σ : L2.St} {s : Shared} {H : Hp}
def ER (X : Cx) (g : GF) (H : Hp) : Value → D × V → Prop := fun u b => RelV b.2 u ∧ Rep X.K g H b.1 b.2
theorem each_rep : ∀ {ds : List D} {xs : List V} {us : List Value}, Reps X.K g H ds xs → Vals xs us → PySem.W.EachIs (ER X g H) us (ds.zip xs)
  | _, _, _, .nil, .nil => .nil
  | _, _, _, .cons h r, .cons hv rv => .cons ⟨hv, h⟩ (each_rep r rv)
theorem each_reads (I : Inv X pins σ H s) : ∀ {ds : List D} {xs : List V} {us : List Value}, Reps X.K g H ds xs → Vals xs us → (∀ d ∈ ds, plain d = true) → PySem.W.EachIs (fun u (b : D × V) => ∃ as, Reads s.heap u (toPy b.1) as) us (ds.zip xs)
  | _, _, _, .nil, .nil, _ => .nil
  | _, _, _, .cons h r, .cons hv rv, hp => .cons (Dp.reads I _ _ _ (h.dp (SeqAt.canLay_of_shaped (hp _ List.mem_cons_self))) hv) (each_reads I r rv fun d hd => hp d (List.mem_cons_of_mem _ hd))
theorem each_vals : ∀ {us : List Value} {bs : List (D × V)}, PySem.W.EachIs (ER X g H) us bs → Vals (bs.map (·.2)) us ∧ Reps X.K g H (bs.map (·.1)) (bs.map (·.2))
  | _, _, .nil => ⟨.nil, .nil⟩
  | _, _, .cons h r => ⟨.cons h.1 (each_vals r).1, .cons h.2 (each_vals r).2⟩
def rSortA (K : PySem.W.Frag) (g : GF) : List V → Hp → VK → Prop := fun vs H Q => ∃ (a : Addr) (xs : List V) (ds : List D), vs = [V.ref a] ∧ (SqL K H a xs ∨ SqT K H a xs) ∧ Reps K g H ds xs ∧ okS ds = true ∧
  ∀ (ys : List V) (p : Addr), Reps K g H (sortA leD ds) ys → H p = none → Q (.ref p) (upd H p (.lst ys))
theorem cr_sortA (hu : X.A.units + 65 < cLine) : CallR X (.builtin "sorted") (rSortA X.K g) := by
  intro pins s σ H vs us Q I r h
  obtain ⟨a, xs, ds, rfl, hs, hr, ok, q⟩ := h
  have hc : ∃ its, Vals xs its ∧ xs.length ≤ sizeLine ∧ ∀ (Q : List Value → Shared → Prop) (A : Around) (E : Value → Shared → Prop), Q its { s with heap := (s.heap.push (seqObj "list" #[] 0)).update s.heap.objs.size (Obj.mapSeq (· ++ its.toArray)) } → wpAny (model X.prog X.w) A (collect (.ref a)) Q E s := by
    rcases hs with hs | hs
    · obtain ⟨its, rv, hl, hz⟩ := I.list hs
      exact ⟨its, rv, hz, fun Q A E h => collect_list hl.isList h (by rw [← rv.length]; exact hz)⟩
    · obtain ⟨its, rv, ⟨o, ho, hc, n, hd⟩, hz⟩ := I.tuple hs
      exact ⟨its, rv, hz, fun Q A E h => collect_tup ho hc hd h (by rw [← rv.length]; exact hz)⟩
  obtain ⟨its, rv, hz, hcol⟩ := hc
  rw [Vals.ref1 r]
  unfold okS at ok
  simp only [Bool.and_eq_true, List.all_eq_true, decide_eq_true_eq, Bool.or_eq_true] at ok
  obtain ⟨⟨o1, o2⟩, o3⟩ := ok
  have hlen : ds.length = xs.length := hr.length
  have ez : (ds.zip xs).map (fun b : D × V => toPy b.1) = ds.map toPy := by
    rw [show (fun b : D × V => toPy b.1) = toPy ∘ Prod.fst from rfl, ← List.map_map, List.map_fst_zip (by omega)]
  refine sorted_dataC (enc := fun b : D × V => toPy b.1) (R := ER X g H) (bs := ds.zip xs) hcol (each_rep hr rv) (each_reads I hr rv fun d hd => (o2 d hd).1.1) ?al ?so ?le ?un fun out hl ho => ?_
  case al =>
    rw [ez]
    intro x hx y hy
    obtain ⟨d, hd, rfl⟩ := List.mem_map.mp hx
    obtain ⟨d', hd', rfl⟩ := List.mem_map.mp hy
    exact (o2 d hd).2 d' hd'
  case so =>
    rw [ez]
    rcases o3 with o3 | o3
    · refine .inl fun x hx => ?_
      obtain ⟨d, hd, rfl⟩ := List.mem_map.mp hx
      have := o3 d hd
      unfold tupB at this
      split at this
      · rename_i x r
        exact ⟨toPy x, toPys r, rfl⟩
      · cases this
    · refine .inr fun x hx => ?_
      obtain ⟨d, hd, rfl⟩ := List.mem_map.mp hx
      have := o3 d hd
      unfold atomB at this
      split at this
      all_goals first
        | cases this; done
        | exact ⟨fun e => (nomatch e), fun xs e => (nomatch e)⟩
  case le => rw [List.length_zip, hlen, Nat.min_self]; exact hz
  case un =>
    intro b hb
    have hm : b.1 ∈ ds := (List.of_mem_zip hb).1
    have := (o2 _ hm).1.2
    omega
  · have es : sortA leD ds = ((ds.zip xs).mergeSort (PySem.W.dataLe false fun b : D × V => toPy b.1)).map (·.1) := by
      have e1 := sortA_eq (PySem.W.sortLe_total (listOrd itemOrd) false fun b : D × V => PySem.W.keyToks (toPy b.1)) (ds.zip xs)
      have e2 := sortA_map (le := PySem.W.sortLe (listOrd itemOrd) false fun b : D × V => PySem.W.keyToks (toPy b.1)) (le' := leD) Prod.fst (fun _ _ => rfl) (ds.zip xs)
      rw [List.map_fst_zip (by omega)] at e2
      rw [← e2, e1]
      rfl
    obtain ⟨g1, g2⟩ := each_vals ho
    obtain ⟨ep, he'⟩ := PyProof.Rows.sortedAll_at s.heap its out.toArray
    refine ⟨.ref _, upd H (s.heap.objs.size + 1) (.lst (((ds.zip xs).mergeSort (PySem.W.dataLe false fun b : D × V => toPy b.1)).map (·.2))), I.laid (t' := s.toks) (fun _ _ => PyProof.Rows.sortedAll_old) (Nat.le_succ _) ⟨?_, out, ep, g1, he'⟩, rfl, q _ _ (by rw [es]; exact g2) (I.hok.fresh (Nat.le_succ _))⟩
    rw [List.length_map, List.length_mergeSort, List.length_zip, hlen, Nat.min_self]; exact hz
end
end VK
set_option Elab.async false
set_option linter.all false
set_option maxHeartbeats 1000000
/-! built-in functions by values -/
namespace VK
open PySem PySem.Spec PyProof.Rows L2
section
variable {K : PySem.W.Frag} {g : GF} {H : Hp}
theorem Reps.intsOf : ∀ {ds : List D} {vs : List V} {ns : List Int}, Reps K g H ds vs → intsD ds = some ns → vs = ns.map V.int ∧ ds = ns.map D.int
  | _, _, _, .nil, e => by cases e; exact ⟨rfl, rfl⟩
  | d :: _, _, _, .cons h r, e => by
    cases d <;> simp only [intsD, reduceCtorEq] at e
    obtain ⟨ms, h1, h2⟩ := Option.map_eq_some_iff.mp e
    subst h2
    obtain ⟨e1, e2⟩ := Reps.intsOf r h1
    cases h
    exact ⟨by rw [e1]; rfl, by rw [e2]; rfl⟩
theorem Reps.blsOf : ∀ {ds : List D} {vs : List V} {ns : List Bool}, Reps K g H ds vs → blsD ds = some ns → vs = ns.map V.bl ∧ ds = ns.map D.bl
  | _, _, _, .nil, e => by cases e; exact ⟨rfl, rfl⟩
  | d :: _, _, _, .cons h r, e => by
    cases d <;> simp only [blsD, reduceCtorEq] at e
    obtain ⟨ms, h1, h2⟩ := Option.map_eq_some_iff.mp e
    subst h2
    obtain ⟨e1, e2⟩ := Reps.blsOf r h1
    cases h
    exact ⟨by rw [e1]; rfl, by rw [e2]; rfl⟩
theorem maxI_mem : ∀ (b : Int) (ns : List Int), maxI b ns = b ∨ maxI b ns ∈ ns
  | b, [] => .inl rfl
  | b, x :: xs => by
    unfold maxI
    rcases maxI_mem (if b < x then x else b) xs with h | h
    · rw [h]
      split
      · exact .inr List.mem_cons_self
      · exact .inl rfl
    · exact .inr (List.mem_cons_of_mem _ h)
theorem maxI_ge : ∀ (b : Int) (ns : List Int), b ≤ maxI b ns ∧ ∀ y ∈ ns, y ≤ maxI b ns
  | b, [] => ⟨Int.le_refl _, fun _ h => by cases h⟩
  | b, x :: xs => by
    unfold maxI
    have hz : b ≤ (if b < x then x else b) ∧ x ≤ (if b < x then x else b) := by split <;> omega
    obtain ⟨h1, h2⟩ := maxI_ge (if b < x then x else b) xs
    refine ⟨Int.le_trans hz.1 h1, fun y hy => ?_⟩
    rcases List.mem_cons.mp hy with rfl | hy
    · exact Int.le_trans hz.2 h1
    · exact h2 y hy
theorem minI_mem : ∀ (b : Int) (ns : List Int), minI b ns = b ∨ minI b ns ∈ ns
  | b, [] => .inl rfl
  | b, x :: xs => by
    unfold minI
    rcases minI_mem (if x < b then x else b) xs with h | h
    · rw [h]
      split
      · exact .inr List.mem_cons_self
      · exact .inl rfl
    · exact .inr (List.mem_cons_of_mem _ h)
theorem minI_le : ∀ (b : Int) (ns : List Int), minI b ns ≤ b ∧ ∀ y ∈ ns, minI b ns ≤ y
  | b, [] => ⟨Int.le_refl _, fun _ h => by cases h⟩
  | b, x :: xs => by
    unfold minI
    have hz : (if x < b then x else b) ≤ b ∧ (if x < b then x else b) ≤ x := by split <;> omega
    obtain ⟨h1, h2⟩ := minI_le (if x < b then x else b) xs
    refine ⟨Int.le_trans h1 hz.1, fun y hy => ?_⟩
    rcases List.mem_cons.mp hy with rfl | hy
    · exact Int.le_trans h1 hz.2
    · exact h2 y hy
end
/-- where the prims live -/
def prV : Pr → Value
  | .len => .builtin "len" | .tuple => .type "tuple" | .list => .type "list" | .sorted => .builtin "sorted" | .set => .type "set" | .dict => .type "dict"
  | .sum => .builtin "sum" | .max => .builtin "max" | .min => .builtin "min" | .max2 => .builtin "max" | .min2 => .builtin "min" | .abs => .builtin "abs"
  | .int => .type "int" | .str => .type "str" | .all => .builtin "all" | .any => .builtin "any" | .isi _ => .builtin "isinstance" | .repr => .builtin "repr"
def rPr (K : PySem.W.Frag) (g : GF) (sup : Nat → Nat → Bool) (p : Pr) : List V → Hp → VK → Prop := fun xs H Q =>
  ∃ ds d, List.length ds = xs.length ∧ (∀ (i : Nat) (d : D) (v : V), ds[i]? = some d → xs[i]? = some v → Vw K g H 1 d v) ∧ primD sup p ds = some d ∧ ∀ v H', New K g H d v H' → Q v H'
section
variable {X : Cx} {g : GF} {sup : Nat → Nat → Bool}
theorem one_of {ds : List D} {xs : List V} {d : D} (h : ds.length = xs.length) (e : ds = [d]) : ∃ x, xs = [x] := by
  subst e
  match xs, h with
  | [x], _ => exact ⟨x, rfl⟩
theorem two_of {ds : List D} {xs : List V} {d d' : D} (h : ds.length = xs.length) (e : ds = [d, d']) : ∃ x y, xs = [x, y] := by
  subst e
  match xs, h with
  | [x, y], _ => exact ⟨x, y, rfl⟩
theorem prim_all (hc : X.calm = true) (hu : X.A.units + 65 < cLine) (p : Pr) (hp : ∀ ts, p ≠ .isi ts) : CallR X (prV p) (rPr X.K g sup p) := by
  intro pins s σ H xs us Q I r h
  obtain ⟨ds, d, hl, hw, he, q⟩ := h
  unfold primD at he
  split at he
  all_goals first
    | (cases he; done)
    | exact absurd rfl (hp _)
    | (obtain ⟨x, rfl⟩ := one_of hl rfl
       have w := hw 0 _ x rfl rfl
       clear hw hl)
    | (obtain ⟨x, y, rfl⟩ := two_of hl rfl
       have w := hw 0 _ x rfl rfl
       have w2 := hw 1 _ y rfl rfl
       clear hw hl)
  · -- len of a tuple
    cases he
    obtain ⟨a, vs, rfl, hx, r1⟩ := w.tup
    refine call_len_seq pins s σ H _ us Q I r ⟨a, vs, rfl, .inr hx, ?_⟩
    rw [← r1.length]; exact q _ _ (.int _)
  · cases he
    obtain ⟨a, vs, rfl, hx, r1⟩ := w.lst
    refine call_len_seq pins s σ H _ us Q I r ⟨a, vs, rfl, .inl hx, ?_⟩
    rw [← r1.length]; exact q _ _ (.int _)
  · split at he
    · rename_i hz
      cases he
      cases w.str
      rw [SZ_eq] at hz
      exact call_len_str pins s σ H _ us Q I r ⟨_, rfl, hz, q _ _ (.int _)⟩
    · cases he
  · cases he
    obtain ⟨a, vs, rfl, hx, r1⟩ := w.tup
    exact call_tuple_of pins s σ H _ us Q I r ⟨a, vs, rfl, .inr ⟨hx, q _ _ (New.oldT hx r1)⟩⟩
  · cases he
    obtain ⟨a, vs, rfl, hx, r1⟩ := w.lst
    exact call_tuple_of pins s σ H _ us Q I r ⟨a, vs, rfl, .inl ⟨hx, fun p n => q _ _ (.tup n r1)⟩⟩
  · cases he
    obtain ⟨a, vs, rfl, hx, r1⟩ := w.tup
    exact call_list_of pins s σ H _ us Q I r ⟨a, vs, rfl, .inr hx, fun p n => q _ _ (.lst n r1)⟩
  · cases he
    obtain ⟨a, vs, rfl, hx, r1⟩ := w.lst
    exact call_list_of pins s σ H _ us Q I r ⟨a, vs, rfl, .inl hx, fun p n => q _ _ (.lst n r1)⟩
  · -- sorted
    split at he
    · rename_i ok
      cases he
      obtain ⟨a, vs, rfl, hx, r1⟩ := w.lst
      exact cr_sortA hu pins s σ H _ us Q I r ⟨a, vs, _, rfl, .inl hx, r1, ok, fun ys p hr n => q _ _ (.lst n hr)⟩
    · cases he
  · split at he
    · rename_i ok
      cases he
      obtain ⟨a, vs, rfl, hx, r1⟩ := w.tup
      exact cr_sortA hu pins s σ H _ us Q I r ⟨a, vs, _, rfl, .inr hx, r1, ok, fun ys p hr n => q _ _ (.lst n hr)⟩
    · cases he
  · obtain ⟨ns, h1, h2⟩ := Option.map_eq_some_iff.mp he
    subst h2
    obtain ⟨a, vs, rfl, hx, r1⟩ := w.lst
    obtain ⟨e1, e2⟩ := r1.intsOf h1
    rw [e1] at hx
    exact cr_sum hc pins s σ H _ us Q I r ⟨a, ns, rfl, hx, q _ _ (.int _)⟩
  · obtain ⟨ns, h1, h2⟩ := Option.bind_eq_some_iff.mp he
    obtain ⟨a, vs, rfl, hx, r1⟩ := w.lst
    obtain ⟨e1, e2⟩ := r1.intsOf h1
    rw [e1] at hx
    split at h2
    · cases h2
    · rename_i n ms
      cases h2
      refine cr_max hc pins s σ H _ us Q I r ⟨a, _, rfl, hx, Nat.succ_pos _, fun m hm hall => ?_⟩
      have : m = maxI n ms := by
        have g1 := (maxI_ge n ms).1
        have g2 := (maxI_ge n ms).2
        have m1 : maxI n ms ∈ n :: ms := by
          rcases maxI_mem n ms with h | h
          · rw [h]; exact List.mem_cons_self
          · exact List.mem_cons_of_mem _ h
        have := hall _ m1
        have : m ≤ maxI n ms := by
          rcases List.mem_cons.mp hm with rfl | hm
          · exact g1
          · exact g2 m hm
        omega
      rw [this]
      exact q _ _ (.int _)
  · obtain ⟨ns, h1, h2⟩ := Option.bind_eq_some_iff.mp he
    obtain ⟨a, vs, rfl, hx, r1⟩ := w.lst
    obtain ⟨e1, e2⟩ := r1.intsOf h1
    rw [e1] at hx
    split at h2
    · cases h2
    · rename_i n ms
      cases h2
      refine cr_min hc pins s σ H _ us Q I r ⟨a, _, rfl, hx, Nat.succ_pos _, fun m hm hall => ?_⟩
      have : m = minI n ms := by
        have g1 := (minI_le n ms).1
        have g2 := (minI_le n ms).2
        have m1 : minI n ms ∈ n :: ms := by
          rcases minI_mem n ms with h | h
          · rw [h]; exact List.mem_cons_self
          · exact List.mem_cons_of_mem _ h
        have := hall _ m1
        have : minI n ms ≤ m := by
          rcases List.mem_cons.mp hm with rfl | hm
          · exact g1
          · exact g2 m hm
        omega
      rw [this]
      exact q _ _ (.int _)
  · cases he
    cases w.int; cases w2.int
    exact call_max2 hc pins s σ H _ us Q I r ⟨_, _, rfl, q _ _ (.int _)⟩
  · cases he
    cases w.int; cases w2.int
    exact call_min2 hc pins s σ H _ us Q I r ⟨_, _, rfl, q _ _ (.int _)⟩
  · cases he
    cases w.int
    exact call_abs pins s σ H _ us Q I r ⟨_, rfl, q _ _ (.int _)⟩
  · cases he
    cases w.int
    exact call_int1 pins s σ H _ us Q I r (.inl ⟨_, rfl, q _ _ (.int _)⟩)
  · cases he
    cases w.bl
    exact call_int1 pins s σ H _ us Q I r (.inr ⟨_, rfl, q _ _ (.int _)⟩)
  · split at he
    · rename_i hz
      obtain ⟨n, h1, h2⟩ := Option.map_eq_some_iff.mp he
      subst h2
      cases w.str
      exact call_int_str pins s σ H _ us Q I r ⟨_, n, rfl, h1, hz, q _ _ (.int _)⟩
    · cases he
  · split at he
    · rename_i hz
      cases he
      cases w.int
      exact call_str_int pins s σ H _ us Q I r ⟨_, rfl, hz, q _ _ (.str _)⟩
    · cases he
  · cases he
    cases w.str
    exact SkE.call_str_str pins s σ H _ us Q I r ⟨_, rfl, q _ _ (.str _)⟩
  · obtain ⟨ns, h1, h2⟩ := Option.map_eq_some_iff.mp he
    subst h2
    obtain ⟨a, vs, rfl, hx, r1⟩ := w.lst
    obtain ⟨e1, e2⟩ := r1.blsOf h1
    rw [e1] at hx
    exact cr_all hc pins s σ H _ us Q I r ⟨a, ns, rfl, hx, q _ _ (.bl _)⟩
  · obtain ⟨ns, h1, h2⟩ := Option.map_eq_some_iff.mp he
    subst h2
    obtain ⟨a, vs, rfl, hx, r1⟩ := w.lst
    obtain ⟨e1, e2⟩ := r1.blsOf h1
    rw [e1] at hx
    exact cr_any hc pins s σ H _ us Q I r ⟨a, ns, rfl, hx, q _ _ (.bl _)⟩
end
end VK
set_option Elab.async false
set_option linter.all false
set_option maxHeartbeats 1000000
/-! calls of built-in functions and methods; chains; displays of dicts -/
namespace VK
open PySem PySem.Spec PyProof.Rows L2
section
variable {X : Cx} {g : GF} {ec : EC} {W : WX} {e a b c : Expr} {es : List Expr} {lk lk1 lk2 lk3 ω ω' ω1 ω2 ω3 : List Nat} {k m : Nat} {base : Option Nat} {f fa fb fc : Env → R D} {x : Str} {p pos : Pos}
theorem star_cons (h : ∀ z p, e ≠ .Starred z p) (env : PySem.Env) : starEach (e :: es) env = (false, eval e env) :: starEach es env := by
  cases e <;> first | rfl | exact absurd rfl (h _ _)
theorem back_nil (pos : Pos) (env : PySem.Env) : (backTo pos (starEach [] env)).any (·.1) = false := rfl
theorem back_one (h : ∀ z p, e ≠ .Starred z p) (pos : Pos) (env : PySem.Env) : (backTo pos (starEach [e] env)).any (·.1) = false := by
  rw [star_cons h]; rfl
theorem pe_callP {u : Value} {r : List V → Hp → VK → Prop} {t : TA} (hc : CallR X u r) (hu : (∃ id, u = .builtin id) ∨ ∃ T, u = .type T) (hg : Gl X x) (hm : X.mg x = none) (hv : bootBuiltins x = some u) (ha : PA X (e :: es) t) (hn : x ≠ "__name__") (hdb : (x == ("__debug__" : Str)) = false)
    (he : starEach (e :: es) X.env = (false, eval e X.env) :: starEach es X.env) (hpl : (backTo pos (starEach es X.env)).any (·.1) = false) : PE X (.Call (.Name x p) (e :: es) [] pos) (tCB r t) := by
  rcases hu with ⟨id, rfl⟩ | ⟨T, rfl⟩
  · exact pe_callB hc hg hm hv ha hn hdb he hpl
  · exact pe_callTy hc hg hm hv ha hn hdb he hpl
theorem prV_is (q : Pr) : (∃ id, prV q = .builtin id) ∨ ∃ T, prV q = .type T := by cases q <;> first | exact .inl ⟨_, rfl⟩ | exact .inr ⟨_, rfl⟩
/-- what a built-in name needs -/
structure BN (X : Cx) (x : Str) (u : Value) : Prop where
  gl : Gl X x
  mg : X.mg x = none
  bt : bootBuiltins x = some u
  nn : x ≠ "__name__"
  nd : (x == ("__debug__" : Str)) = false
variable {sup : Nat → Nat → Bool} {q : Pr}
theorem rp_call1 (hc : X.calm = true) (hu : X.A.units + 65 < cLine) (B : BN X x (prV q)) (hq : ∀ ts, q ≠ .isi ts) (na : ∀ z p, a ≠ .Starred z p) (ha : RK X g ec W a 1 lk1 lk ω ω1 fa) :
    RP X g ec W (.Call (.Name x p) [a] [] pos) lk ω ω1 1 none (fun env => (fa env).bind fun d e1 => liftO (primD sup q [d]) e1) :=
  ⟨pe_imp (pe_callP (prim_all (g := g) (sup := sup) hc hu q hq) (prV_is q) B.gl B.mg B.bt (pa_cons ha.pe pa_nil (star_cons na _)) B.nn B.nd (star_cons na _) (back_nil _ _))
    (t_one (r := fun x H Q => rPr X.K g sup q [x] H Q) fun H d1 d x Q w e qq => ⟨[d1], d, rfl, fun i d' v h1 h2 => by
      match i, h1, h2 with
      | 0, h1, h2 => cases h1; cases h2; exact w, e, qq⟩), ha.kp⟩
theorem rp_call2 (hc : X.calm = true) (hu : X.A.units + 65 < cLine) (B : BN X x (prV q)) (hq : ∀ ts, q ≠ .isi ts) (na : ∀ z p, a ≠ .Starred z p) (nb : ∀ z p, b ≠ .Starred z p) (ha : RK X g ec W a 1 lk1 lk ω ω1 fa) (hb : RK X g ec W b 1 lk2 lk1 ω1 ω2 fb) :
    RP X g ec W (.Call (.Name x p) [a, b] [] pos) lk ω ω2 1 none (fun env => (fa env).bind fun d e1 => (fb e1).bind fun d2 e2 => liftO (primD sup q [d, d2]) e2) :=
  ⟨pe_imp (pe_callP (prim_all (g := g) (sup := sup) hc hu q hq) (prV_is q) B.gl B.mg B.bt (pa_cons ha.pe (pa_cons hb.pe pa_nil (star_cons nb _)) (star_cons na _)) B.nn B.nd (star_cons na _) (back_one nb _ _))
    (t_two (r := fun x y H Q => rPr X.K g sup q [x, y] H Q) (h := fun x y => primD sup q [x, y]) ha.kp ha.sub hb.sub fun H d1 d2 d x y Q w w2 e qq => ⟨[d1, d2], d, rfl, fun i d' v h1 h2 => by
      match i, h1, h2 with
      | 0, h1, h2 => cases h1; cases h2; exact w
      | 1, h1, h2 => cases h1; cases h2; exact w2, e, qq⟩), ha.kp.trans hb.kp ha.sub⟩

/-! ### isinstance(x, T), T built-in -/
def tyN : Ty → String
  | .int => "int" | .bool => "bool" | .str => "str" | .tuple => "tuple" | .list => "list" | .dict => "dict" | .cls _ => ""
def dTy : D → String
  | .non => "NoneType" | .bl _ => "bool" | .int _ => "int" | .str _ => "str" | .tup _ => "tuple" | .lst _ => "list" | .dic _ => "dict" | _ => ""
theorem FzL.ty {K : PySem.W.Frag} {H : Hp} {a : Addr} {xs : List V} (h : FzL K H a xs) : TyX K H (.ref a) (.type "list") := by
  rcases h with ⟨o, h⟩ | ⟨o, its, n, h1, h2, _⟩
  · exact .base (.frz h)
  · exact .kList h1 h2
theorem SqT.ty {K : PySem.W.Frag} {H : Hp} {a : Addr} {xs : List V} (h : SqT K H a xs) : TyX K H (.ref a) (.type "tuple") := by
  rcases h with (h | ⟨o, h⟩) | ⟨o, its, n, h1, h2, _⟩
  · exact .base (.tup h)
  · exact .fTuple h
  · exact .kTuple h1 h2
theorem Vw.ty {K : PySem.W.Frag} {H : Hp} {d : D} {v : V} (w : Vw K g H m d v) (h : typed d = true) : TyX K H v (.type (dTy d)) := by
  obtain ⟨k, S, hk, o⟩ := w
  cases k with
  | zero =>
    have r := o.2
    cases r with
    | non => exact .base .non
    | bl b => exact .base (.bl b)
    | int i => exact .base (.int i)
    | str s => exact .base (.str s)
    | tup hx r => exact SqT.ty hx
    | lst hx r => exact hx.ty
    | dic hx r => exact .fDict hx
    | fn hx => cases h
  | succ k =>
    cases d with
    | lst ds => obtain ⟨a, xs, Ss, rfl, e, _⟩ := o; exact .base (.lst e)
    | dic es => obtain ⟨a, kvs, rfl, e, _⟩ := o; exact .base (.dK e)
    | non => cases o.2; exact .base .non
    | bl b => cases o.2; exact .base (.bl b)
    | int i => cases o.2; exact .base (.int i)
    | str s => cases o.2; exact .base (.str s)
    | tup ds => cases o.2 with | tup hx r => exact SqT.ty hx
    | _ => cases h
theorem kit_is (d : D) (h : typed d = true) (t : Ty) (ht : ∀ c, t ≠ .cls c) : kitB (dTy d) (tyN t) = some (isTy sup d t) := by
  cases d <;> simp only [typed, Bool.false_eq_true] at h <;> cases t <;> first | exact absurd rfl (ht _) | (simp only [dTy, tyN, isTy]; decide +kernel)
theorem rp_isi {ta : Expr} {t : Ty} (ht : ∀ c, t ≠ .cls c) (hB : BN X x (.builtin "isinstance")) (na : ∀ z p, a ≠ .Starred z p) (nb : ∀ z p, ta ≠ .Starred z p) (ha : RK X g ec W a 9 lk1 lk ω ω1 fa) (hb : PE X ta (tC (.ty (tyN t)))) :
    RP X g ec W (.Call (.Name x p) [a, ta] [] pos) lk ω ω1 1 none (fun env => (fa env).bind fun d e1 => liftO (primD sup (.isi [t]) [d]) e1) :=
  ⟨pe_imp (pe_callB call_isi hB.gl hB.mg hB.bt (pa_cons ha.pe (pa_cons hb pa_nil (star_cons nb _)) (star_cons na _)) hB.nn hB.nd (star_cons na _) (back_one nb _ _))
    (t_one (r := fun x H Q => rIsi X.K [x, .ty (tyN t)] H Q) fun H d1 d x Q w e qq => by
      simp only [primD] at e
      split at e
      · rename_i h
        cases e
        refine ⟨x, .ty (tyN t), _, .type (tyN t), isTy sup d1 t, rfl, .ty _, w.ty h, kit_ty (kit_is d1 h t ht), ?_⟩
        have : ([t].any (isTy sup d1)) = isTy sup d1 t := by simp
        rw [this] at qq
        exact qq _ _ (.bl _)
      · cases e), ha.kp⟩

/-! ### [..] * n -/
theorem rp_rep {pos' : Pos} (ha : RP X g ec W a lk ω ω1 1 none fa) (hb : RK X g ec W b 1 lk2 lk ω1 ω2 fb) (hlst : ∀ env d e, fa env = .ok d e → ∃ ds, d = .lst ds) :
    RP X g ec W (.BinOp a .Mult b pos) lk ω ω2 1 none (fun env => (fa env).bind fun x e1 => (fb e1).bind fun y e2 => liftO (opD .rep x y) e2) := by
  refine ⟨pe_imp (pe_op op_rep ha.pe hb.pe) fun σ H Q ⟨env, foot, sf, q⟩ => ⟨env, foot, sf, (Out.bind.mp q).imp (fun d1 env1 ea q v1 H1 p1 => ?_) fun _ _ h => h⟩, ha.kp.trans hb.kp fun _ h => h⟩
  obtain ⟨f1, sf1, c1, S, o1, nd, dj, own⟩ := p1
  refine ⟨env1, f1, sf1, (Out.bind.mp q).imp (fun d2 env2 eb q v2 H2 p2 => ?_) fun x e2 h cls dd H2 p => h cls dd H2 (p.over c1 ha.kp fun _ h => h)⟩
  obtain ⟨f2, sf2, c2, k2, S2, hk2, o2, n2⟩ := p2
  clear eb
  obtain ⟨ds, rfl⟩ := hlst _ _ _ ea
  have o1' : Own X.K g H2 1 (.lst ds) v1 S := o1.stay (c2.step.stays fun a h => sf1.mut a h.mem) fun a ha u eu => c2.step.keep a u eu fun z => dj a ha z.mem
  obtain ⟨p, xs, Ss, rfl, e, r, _⟩ := o1'
  have r := (OwnL.reps r).1
  obtain ⟨d, hd, q⟩ := q.lift
  cases d2 <;> simp only [opD, reduceCtorEq] at hd
  rename_i i
  split at hd
  · rename_i hz
    cases hd
    obtain ⟨h1, h2, h3⟩ := hz
    have w2 : Vw X.K g H2 1 (.int i) v2 := ⟨k2, S2, hk2, o2⟩
    cases w2.int
    refine ⟨p, i, xs, rfl, rfl, e, by omega, by omega, by rw [← r.length, ← SZ_eq]; exact h3, fun p n => q _ _ ((New.lst n (r.rep _)).post sf2 (c1.trans' c2 fun _ h => h))⟩
  · cases hd

/-! ### xs[::-1] -/
theorem rp_rev {kk : Nat} {p1 p2 p3 : Pos} (ha : RK X g ec W a 1 lk1 lk ω ω1 fa) : RP X g ec W (.Subscript a (.Slice none none (some (.UnaryOp .USub (.Constant (.int 1) kk p1) p2)) p3) pos) lk ω ω1 1 none (fun env => (fa env).bind fun x e1 => liftO (revD x) e1) :=
  ⟨pe_imp (pe_revL ha.pe) (t_one (r := fun x H1 Q => ∃ a xs, x = .ref a ∧ SqL X.K H1 a xs ∧ ∀ p, H1 p = none → Q (.ref p) (upd H1 p (.lst xs.reverse))) fun H d1 d x Q w e qq => by
    cases d1 <;> simp only [revD, reduceCtorEq, Option.some.injEq] at e
    subst e
    obtain ⟨a, vs, rfl, hx, r⟩ := w.lst
    exact ⟨a, vs, rfl, hx, fun p n => qq _ _ (.lst n r.reverse)⟩), ha.kp⟩

/-! ### chains -/
def chR (o1 o2 : Cm) (fa fb fc : Env → R D) (env : Env) : R D := (fa env).bind fun x e1 => (fb e1).bind fun y e2 => match cmpD o1 x y with
  | some (.bl true) => (fc e2).bind fun z e3 => liftO (cmpD o2 y z) e3
  | some (.bl false) => .ok (.bl false) e2
  | _ => .err
theorem t_chain {m : Nat} (ha : RK X g ec W a m lk1 lk ω ω1 fa) (hb : RK X g ec W b m lk2 lk1 ω1 ω2 fb) (hc : RK X g ec W c m lk3 lk2 ω2 ω2 fc) {o1 o2 : Cm} :
    ∀ σ H Q, tP X.K g ec W lk ω ω2 1 none (chR o1 o2 fa fb fc) σ H Q → tChain (rCmD X.K g o1) (rCmD X.K g o2) (tK X.K g ec W m lk1 lk ω ω1 fa) (tK X.K g ec W m lk2 lk1 ω1 ω2 fb) (tK X.K g ec W m lk3 lk2 ω2 ω2 fc) σ H Q := by
  intro σ H Q ⟨env, foot, sf, q⟩
  refine ⟨env, foot, sf, (Out.bind.mp q).imp (fun d1 env1 _ q v1 H1 p1 => ?_) fun _ _ h => h⟩
  obtain ⟨f1, sf1, c1, k1, S1, hk1, o1', n1⟩ := p1
  refine ⟨env1, f1, sf1, (Out.bind.mp q).imp (fun d2 env2 _ q v2 H2 p2 => ?_) fun x e2 h cls dd H2 p => h cls dd H2 (p.over c1 ha.kp ha.sub)⟩
  obtain ⟨f2, sf2, c2, k2, S2, hk2, o2', n2⟩ := p2
  have w1 : Vw X.K g H2 m d1 v1 := ⟨k1, S1, hk1, o1'.over n1 sf1 c2⟩
  have w2 : Vw X.K g H2 m d2 v2 := ⟨k2, S2, hk2, o2'⟩
  have cc := c1.trans' c2 ha.sub
  have hs : ∀ i ∈ lk, i ∈ lk2 := fun i h => hb.sub i (ha.sub i h)
  have kp2 : Kp lk ω ω2 := ha.kp.trans hb.kp ha.sub
  cases hd : cmpD o1 d1 d2 with
  | none => rw [hd] at q; exact q.elim
  | some d =>
    obtain ⟨t, rfl⟩ := cmpD_bl hd
    rw [hd] at q
    refine rCm_of w1 w2 hd fun v H' nw => ?_
    cases nw with
    | flat r _ _ =>
      cases r
      cases t with
      | false => exact ⟨false, rfl, q _ _ ((New.bl false).post sf2 cc)⟩
      | true =>
        refine ⟨true, rfl, ?_⟩
        rw [if_pos rfl]
        refine ⟨env2, f2, sf2, (Out.bind.mp q).imp (fun d3 env3 _ q v3 H3 p3 => ?_) fun x e2 h cls dd H2 p => h cls dd H2 (p.over cc kp2 hs)⟩
        obtain ⟨f3, sf3, c3, k3, S3, hk3, o3', n3⟩ := p3
        obtain ⟨d, hd2, q⟩ := q.lift
        exact rCm_of ⟨k2, S2, hk2, o2'.over n2 sf2 c3⟩ ⟨k3, S3, hk3, o3'⟩ hd2 fun v H' nw => q v H' (nw.post sf3 (cc.trans' c3 hs))
theorem rp_chain {o1 o2 : Cm} (hu : X.A.units + 65 < cLine) (hm : lastMarks [cmOf o1, cmOf o2] [b, c] = false) (ha : RK X g ec W a m lk1 lk ω ω1 fa) (hb : RK X g ec W b m lk2 lk1 ω1 ω2 fb) (hc : RK X g ec W c m lk3 lk2 ω2 ω2 fc) :
    RP X g ec W (.Compare a [cmOf o1, cmOf o2] [b, c] pos) lk ω ω2 1 none (chR o1 o2 fa fb fc) :=
  ⟨pe_imp (pe_chain (cmp_all (g := g) hu o1) (cmp_all (g := g) hu o2) ha.pe hb.pe hc.pe hm) (t_chain ha hb hc), ha.kp.trans hb.kp ha.sub⟩
theorem rt_chain {o1 o2 : Cm} (hu : X.A.units + 65 < cLine) (hm : lastMarks [cmOf o1, cmOf o2] [b, c] = false) (ha : RK X g ec W a m lk1 lk ω ω1 fa) (hb : RK X g ec W b m lk2 lk1 ω1 ω2 fb) (hc : RK X g ec W c m lk3 lk2 ω2 ω2 fc) :
    RT X g ec W (.Compare a [cmOf o1, cmOf o2] [b, c] pos) lk ω ω2 (tr (chR o1 o2 fa fb fc)) := by
  refine ⟨pt_imp (pt_chain (cmp_all (g := g) hu o1) (cmp_all (g := g) hu o2) ha.pe hb.pe hc.pe hm) fun σ H Q ⟨env, foot, sf, q⟩ => ?_, ha.kp.trans hb.kp ha.sub⟩
  refine t_chain ha hb hc σ H _ ⟨env, foot, sf, (Out.bind.mp q).imp (fun d e1 ed q v H1 p => ?_) fun _ _ h => h⟩
  obtain ⟨f1, sf1, c1, val⟩ := p
  have hb' : ∃ k, d = .bl k := by
    unfold chR at ed
    revert ed
    cases fa env with
    | exc => intro ed; cases ed
    | err => intro ed; cases ed
    | ok x e2 =>
      simp only [R.bind]
      cases fb e2 with
      | exc => intro ed; cases ed
      | err => intro ed; cases ed
      | ok y e3 =>
        simp only [R.bind]
        split
        · cases fc e3 with
          | exc => intro ed; cases ed
          | err => intro ed; cases ed
          | ok z e4 =>
            simp only [R.bind]
            intro ed
            cases h : cmpD o2 y z with
            | none => rw [h] at ed; cases ed
            | some d' =>
              rw [h] at ed
              cases ed
              exact cmpD_bl h
        · intro ed; cases ed; exact ⟨_, rfl⟩
        · intro ed; cases ed
  obtain ⟨t, rfl⟩ := hb'
  obtain ⟨S, o, _⟩ := val
  obtain ⟨t', ht, q⟩ := Out.lift q
  cases ht
  exact ⟨t, o.2 |> fun r => by cases r; rfl, q t H1 ⟨rfl, f1, sf1, c1⟩⟩
end
end VK
set_option Elab.async false
set_option linter.all false
set_option maxHeartbeats 1000000
/-! changes of owned things -/
namespace VK
open PySem PySem.Spec PyProof.Rows L2
theorem flat_nodup_set {S S' : List Addr} : ∀ {foot : List (List Addr)} {x : Nat}, foot.flatten.Nodup → foot[x]? = some S → S'.Nodup → (∀ a ∈ S', a ∈ S ∨ a ∉ foot.flatten) → (foot.set x S').flatten.Nodup
  | [], x, _, e, _, _ => by simp at e
  | F :: foot, 0, nd, e, n', h => by
    simp at e; subst e
    rw [List.flatten_cons] at nd
    obtain ⟨n1, n2, dj⟩ := List.nodup_append.mp nd
    rw [List.set_cons_zero, List.flatten_cons]
    refine List.nodup_append.mpr ⟨n', n2, fun a ha b hb e => ?_⟩
    subst e
    rcases h a ha with z | z
    · exact dj a z a hb rfl
    · exact z (by rw [List.flatten_cons]; exact List.mem_append_right _ hb)
  | F :: foot, x + 1, nd, e, n', h => by
    have e : foot[x]? = some S := by simpa using e
    rw [List.flatten_cons] at nd
    obtain ⟨n1, n2, dj⟩ := List.nodup_append.mp nd
    rw [List.set_cons_succ, List.flatten_cons]
    refine List.nodup_append.mpr ⟨n1, flat_nodup_set n2 e n' fun a ha => (h a ha).imp id fun z q => z (by rw [List.flatten_cons]; exact List.mem_append_right _ q), fun a ha b hb e' => ?_⟩
    subst e'
    obtain ⟨T, hT, haT⟩ := List.mem_flatten.mp hb
    rcases List.mem_or_eq_of_mem_set hT with hT | rfl
    · exact dj a ha a (List.mem_flatten.mpr ⟨T, hT, haT⟩) rfl
    · rcases h a haT with z | z
      · exact dj a ha a (List.mem_flatten.mpr ⟨S, List.mem_of_getElem? e, z⟩) rfl
      · exact z (by rw [List.flatten_cons]; exact List.mem_append_left _ ha)
section
variable {K : PySem.W.Frag} {g : GF} {ω ω' lk : List Nat} {σ σ' : L2.St} {H H' H0 : Hp} {env e0 : Env} {foot f0 : List (List Addr)} {x k : Nat} {S S' : List Addr} {d : D} {v : V}
/-- one slot anew -/
theorem Sf.put (t : Sf K g ω σ H env foot) (hf : foot[x]? = some S) (st : Stays H H') (out : ∀ b, b ∉ S → H b ≠ none → H' b = H b) (hS : ∀ a ∈ S', a ∈ S ∨ a ∉ foot.flatten) (nd : S'.Nodup)
    (hv : σ'[x]? = some (some v)) (hσ : ∀ i, i ≠ x → σ'[i]? = σ[i]?) (hl : σ'.length = σ.length) (hω : ∀ i, i ≠ x → ω'.getD i 0 = ω.getD i 0) (o : Own K g H' (ω'.getD x 0) d v S') : Sf K g ω' σ' H' (env.set x (some d)) (foot.set x S') := by
  have hxl : x < foot.length := (List.getElem?_eq_some_iff.mp hf).1
  refine ⟨by rw [List.length_set, hl]; exact t.len, by rw [List.length_set, List.length_set]; exact t.lenF, fun i d' ei => ?_, fun i ei => ?_, flat_nodup_set t.nd hf nd hS⟩
  · by_cases hi : i = x
    · subst hi
      rw [List.getElem?_set_self (by rw [← t.lenF]; exact hxl)] at ei
      cases ei
      exact ⟨v, S', hv, List.getElem?_set_self hxl, o⟩
    · rw [List.getElem?_set_ne (fun z => hi z.symm)] at ei
      obtain ⟨w, T, h1, h2, q⟩ := t.slot i d' ei
      refine ⟨w, T, (hσ i hi).trans h1, by rw [List.getElem?_set_ne (fun z => hi z.symm)]; exact h2, ?_⟩
      rw [hω i hi]
      refine q.stay st fun a ha u eu => (out a (fun z => hi (foot_disj t.nd h2 hf ha z)) (by rw [eu]; simp)).trans eu
  · have hi : i ≠ x := fun z => by
      subst z
      rw [List.getElem?_set_self (by rw [← t.lenF]; exact hxl)] at ei
      cases ei
    rw [List.getElem?_set_ne (fun z => hi z.symm)] at ei ⊢
    exact t.dead i ei
theorem Chg.put (c : Chg lk f0 e0 H0 foot env H) (hx : x ∉ lk) (hf : foot[x]? = some S) (dom : ∀ a, H a ≠ none → H' a ≠ none) (out : ∀ b, b ∉ S → H b ≠ none → H' b = H b) (hS : ∀ a ∈ S', a ∈ S ∨ Av lk f0 a ∨ H0 a = none) (o : Option D) :
    Chg lk f0 e0 H0 (foot.set x S') (env.set x o) H' := by
  have avS : ∀ a ∈ S, Av lk foot a := fun a ha => ⟨x, S, hx, hf, ha⟩
  have hxl : x < foot.length := (List.getElem?_eq_some_iff.mp hf).1
  refine ⟨⟨fun a u ea na => ?_, fun a na => dom a (c.step.dom a na)⟩, fun a ha => ?_, fun i hi => ?_, by rw [List.length_set]; exact c.len⟩
  · have e1 := c.step.keep a u ea na
    refine (out a (fun z => ?_) (by rw [e1]; simp)).trans e1
    rcases c.own a (avS a z) with q | q
    · exact na q
    · rw [q] at ea; cases ea
  · obtain ⟨i, T, ni, hT, haT⟩ := ha
    by_cases hi : i = x
    · subst hi
      rw [List.getElem?_set_self hxl] at hT
      cases hT
      rcases hS a haT with z | z
      · exact c.own a (avS a z)
      · exact z
    · rw [List.getElem?_set_ne (fun z => hi z.symm)] at hT
      exact c.own a ⟨i, T, ni, hT, haT⟩
  · have hne : x ≠ i := fun z => hx (z ▸ hi)
    rw [List.getElem?_set_ne hne, List.getElem?_set_ne hne]
    exact c.lkd i hi
theorem OwnL.append {P : D → V → List Addr → Prop} : ∀ {ds : List D} {vs : List V} {Ss : List (List Addr)} {es : List D} {ws : List V} {Ts : List (List Addr)}, OwnL P ds vs Ss → OwnL P es ws Ts → OwnL P (ds ++ es) (vs ++ ws) (Ss ++ Ts)
  | [], [], [], _, _, _, _, h => h
  | d :: ds, v :: vs, S :: Ss, _, _, _, h, q => ⟨h.1, OwnL.append h.2 q⟩
  | [], [], _ :: _, _, _, _, h, _ => h.elim
  | [], _ :: _, [], _, _, _, h, _ => h.elim
  | [], _ :: _, _ :: _, _, _, _, h, _ => h.elim
  | _ :: _, [], [], _, _, _, h, _ => h.elim
  | _ :: _, [], _ :: _, _, _, _, h, _ => h.elim
  | _ :: _, _ :: _, [], _, _, _, h, _ => h.elim
theorem OwnL.eraseIdx {P : D → V → List Addr → Prop} : ∀ {ds : List D} {vs : List V} {Ss : List (List Addr)} (i : Nat), OwnL P ds vs Ss → OwnL P (ds.eraseIdx i) (vs.eraseIdx i) (Ss.eraseIdx i)
  | [], [], [], i, h => by simp; trivial
  | d :: ds, v :: vs, S :: Ss, 0, h => by simpa using h.2
  | d :: ds, v :: vs, S :: Ss, i + 1, h => by simpa using ⟨h.1, OwnL.eraseIdx i h.2⟩
  | [], [], _ :: _, _, h => h.elim
  | [], _ :: _, [], _, h => h.elim
  | [], _ :: _, _ :: _, _, h => h.elim
  | _ :: _, [], [], _, h => h.elim
  | _ :: _, [], _ :: _, _, h => h.elim
  | _ :: _, _ :: _, [], _, h => h.elim
theorem OwnL.set {P : D → V → List Addr → Prop} {d' : D} {v' : V} {T : List Addr} (p : P d' v' T) : ∀ {ds : List D} {vs : List V} {Ss : List (List Addr)} (i : Nat), OwnL P ds vs Ss → OwnL P (ds.set i d') (vs.set i v') (Ss.set i T)
  | [], [], [], i, h => by simp; trivial
  | d :: ds, v :: vs, S :: Ss, 0, h => by simpa using ⟨p, h.2⟩
  | d :: ds, v :: vs, S :: Ss, i + 1, h => by simpa using ⟨h.1, OwnL.set p i h.2⟩
  | [], [], _ :: _, _, h => h.elim
  | [], _ :: _, [], _, h => h.elim
  | [], _ :: _, _ :: _, _, h => h.elim
  | _ :: _, [], [], _, h => h.elim
  | _ :: _, [], _ :: _, _, h => h.elim
  | _ :: _, _ :: _, [], _, h => h.elim
theorem flat_erase {Ss : List (List Addr)} : ∀ (i : Nat), ((Ss.eraseIdx i).flatten).Sublist Ss.flatten := by
  induction Ss with
  | nil => intro i; simp
  | cons T Ss ih =>
    intro i
    cases i with
    | zero => rw [List.eraseIdx_cons_zero, List.flatten_cons]; exact List.sublist_append_right _ _
    | succ i => rw [List.eraseIdx_cons_succ, List.flatten_cons, List.flatten_cons]; exact (List.Sublist.refl _).append (ih i)
theorem flat_disj {Ss : List (List Addr)} {T : List Addr} : ∀ {i : Nat}, Ss.flatten.Nodup → Ss[i]? = some T → ∀ a ∈ T, a ∉ (Ss.eraseIdx i).flatten := by
  induction Ss with
  | nil => intro i _ e; simp at e
  | cons F Ss ih =>
    intro i nd e a ha z
    rw [List.flatten_cons] at nd
    obtain ⟨n1, n2, dj⟩ := List.nodup_append.mp nd
    cases i with
    | zero =>
      simp at e; subst e
      rw [List.eraseIdx_cons_zero] at z
      exact dj a ha a z rfl
    | succ i =>
      have e : Ss[i]? = some T := by simpa using e
      rw [List.eraseIdx_cons_succ, List.flatten_cons] at z
      rcases List.mem_append.mp z with z | z
      · exact dj a z a (List.mem_flatten.mpr ⟨T, List.mem_of_getElem? e, ha⟩) rfl
      · exact ih n2 e a ha z
end
section
variable {X : Cx} {g : GF} {ec : EC} {W : WX} {e a b c : Expr} {es : List Expr} {lk lk1 lk2 lk3 ω ω' ω1 ω2 ω3 : List Nat} {i k m : Nat} {base : Option Nat} {f fa fb fc : Env → R D} {x : Str} {p apos cpos : Pos}
def oneR (fa : Env → R D) (env : Env) : R (List D) := (fa env).bind fun x e1 => (R.ok [] e1).bind fun xs e2 => .ok (x :: xs) e2
theorem ty_list {K : PySem.W.Frag} {H : Hp} {ds : List D} {v : V} {S : List Addr} (o : Own K g H k (.lst ds) v S) : tyV K "list" v H := by
  obtain ⟨a, xs, rfl, hx, _⟩ := Vw.lstA (g := g) (m := k) ⟨k, S, Nat.le_refl _, o⟩
  exact .inl ⟨rfl, xs, hx⟩
theorem notSuper (x m : Str) (p : Pos) (env : PySem.Env) : attributeBase (.Name x p) m env (eval (.Name x p) env) = eval (.Name x p) env := rfl
theorem few1 (na : ∀ z p, a ≠ .Starred z p) (env : PySem.Env) : ((backTo cpos (starEach [a] env)).all (fun x => !x.1) && (backToKw cpos (keywordEach [] env)).all (fun x => x.1.isSome)
      && decide (([a] : List Expr).length + ([] : List Keyword).length + (if ([] : List Keyword).isEmpty then 0 else 1) < 30)) = true := by
  rw [star_cons na]; rfl
/-- x.append(a) -/
theorem rp_append (hp : PE X (.Name x p) (tVar i)) (hl : (apos.endLine == cpos.line) = true) (na : ∀ z p, a ≠ .Starred z p) (hi : i ∉ lk) (hk : ω.getD i 0 = k + 1) (ha : RP X g ec W a (i :: lk) ω ω1 k none fa) :
    RP X g ec W (.Call (.Attribute (.Name x p) "append" apos) [a] [] cpos) lk ω ω1 0 none (mu0R .append i (oneR fa)) := by
  have sub : ∀ j ∈ lk, j ∈ i :: lk := fun j h => List.mem_cons_of_mem _ h
  refine ⟨pe_imp (pe_bm PySem.F.plainAttrs_list PySem.F.slot_list_append PySem.F.type_list_append mt_append hp (pa_cons ha.pe pa_nil (star_cons na _)) (notSuper _ _ _ _) (few1 na _) hl (star_cons na _) (back_nil _ _)) fun σ H Q ⟨env, foot, sf, q⟩ => ?_, fun j hj => ha.kp j (sub j hj)⟩
  unfold mu0R at q
  cases hd : getV i env with
  | none => rw [hd] at q; exact q.elim
  | some d0 =>
    rw [hd] at q
    cases d0 <;> try exact q.elim
    rename_i ds
    have hi0 := getV_some hd
    obtain ⟨v, S, hv, hS, o⟩ := sf.slot i _ hi0
    refine ⟨v, hv, ty_list o, env, foot, sf, (Out.bind.mp (Out.bind.mp q)).imp (fun y env1 _ q v1 H1 p1 => ?_) fun x e h cls dd H' pp => h cls dd H' (pp.over Chg.refl Kp.refl sub)⟩
    obtain ⟨f1, sf1, c1, T, o1, nd1, dj1, own1⟩ := p1
    obtain ⟨hf1, he1⟩ := c1.lkd i List.mem_cons_self
    have q : Out (match getV i env1 with
      | some d => match mutD .append d [y] with
        | some ar => R.ok ar.1 (env1.set i (some ar.2))
        | none => R.err
      | none => R.err) _ _ := q
    have hd1 : getV i env1 = some (.lst ds) := by
      unfold getV at hd ⊢
      rw [he1]; exact hd
    rw [hd1] at q
    simp only [mutD] at q
    by_cases hz : ds.length < SZ
    · rw [if_pos hz] at q
      obtain ⟨v', S', hv', hS', o'⟩ := sf1.slot i _ (getV_some hd1)
      rw [hv] at hv'; cases hv'
      have hk1 : ω1.getD i 0 = k + 1 := (ha.kp i List.mem_cons_self).trans hk
      rw [hk1] at o'
      obtain ⟨l, xs, Ss, rfl, eH, r, eS⟩ := o'
      have hln := r.length.1
      refine ⟨l, xs, v1, rfl, rfl, eH, by rw [← hln, ← SZ_eq]; exact hz, q _ _ ?_⟩
      have lS : l ∈ S' := by rw [eS]; exact List.mem_cons_self
      have hSf : ∀ a ∈ S', a ∈ f1.flatten := fun a ha => List.mem_flatten.mpr ⟨S', List.mem_of_getElem? hS', ha⟩
      have ndS : S'.Nodup := (List.sublist_flatten_of_mem (List.mem_of_getElem? hS')).nodup sf1.nd
      have st : Stays H1 (upd H1 l (.lst (xs ++ [v1]))) := Stays.upd_mu eH trivial
      have out : ∀ b, b ≠ l → (upd H1 l (.lst (xs ++ [v1]))) b = H1 b := fun b hb => upd_ne hb
      have nT : ∀ a ∈ T, a ≠ l := fun a ha z => dj1 a ha (by rw [z]; exact hSf l lS)
      rw [eS] at ndS
      obtain ⟨n1, n2⟩ := List.nodup_cons.mp ndS
      refine ⟨f1.set i (l :: (Ss ++ [T]).flatten), sf1.put (S' := l :: (Ss ++ [T]).flatten) hS' st (fun b hb _ => out b fun z => hb (by rw [z]; exact lS)) (fun a ha => ?_) ?_ hv (fun _ _ => rfl) rfl (fun _ _ => rfl) ?_, ?_, [], ⟨rfl, .non⟩, .nil, no_mem, no_mem⟩
      · rcases List.mem_cons.mp ha with rfl | ha
        · exact .inl lS
        · rw [List.flatten_append, List.mem_append] at ha
          rcases ha with ha | ha
          · exact .inl (by rw [eS]; exact List.mem_cons_of_mem _ ha)
          · have ha : a ∈ T := by simpa using ha
            exact .inr (dj1 a ha)
      · refine List.nodup_cons.mpr ⟨fun z => ?_, ?_⟩
        · rw [List.flatten_append, List.mem_append] at z
          rcases z with z | z
          · exact n1 z
          · exact nT l (by simpa using z) rfl
        · rw [List.flatten_append]
          refine List.nodup_append.mpr ⟨n2, by simpa using nd1, fun a ha b hb e => ?_⟩
          subst e
          have hb : a ∈ T := by simpa using hb
          exact dj1 a hb (hSf a (by rw [eS]; exact List.mem_cons_of_mem _ ha))
      · rw [hk1]
        refine ⟨l, xs ++ [v1], Ss ++ [T], rfl, upd_same, OwnL.append (OwnL.imp (fun d w U hU o => o.stay st fun a ha u eu => (out a fun z => ?_).trans eu) r) ⟨o1.stay st fun a ha u eu => (out a (nT a ha)).trans eu, trivial⟩, rfl⟩
        subst z
        exact n1 (List.mem_flatten.mpr ⟨U, hU, ha⟩)
      · refine Chg.put ⟨c1.step.mono fun a h => h.sub sub, fun a ha => ?_, fun j hj => c1.lkd j (sub j hj), c1.len⟩ hi hS' (fun a na => ?_) (fun b hb _ => out b fun z => hb (by rw [z]; exact lS)) (fun a ha => ?_) _
        · obtain ⟨j, U, nj, hU, haU⟩ := ha
          by_cases hj : j = i
          · subst hj
            rw [hf1] at hU
            exact .inl ⟨j, U, hi, hU, haU⟩
          · rcases c1.own a ⟨j, U, fun z => (List.mem_cons.mp z).elim hj nj, hU, haU⟩ with z | z
            · exact .inl (z.sub sub)
            · exact .inr z
        · by_cases h : a = l
          · subst h; rw [upd_same]; simp
          · rw [upd_ne h]; exact na
        · rcases List.mem_cons.mp ha with rfl | ha
          · exact .inl lS
          · rw [List.flatten_append, List.mem_append] at ha
            rcases ha with ha | ha
            · exact .inl (by rw [eS]; exact List.mem_cons_of_mem _ ha)
            · have ha : a ∈ T := by simpa using ha
              rcases own1 a ha with z | z
              · exact .inr (.inl (z.sub sub))
              · exact .inr (.inr z)
    · rw [if_neg hz] at q; exact q.elim
end
end VK
set_option Elab.async false
set_option linter.all false
set_option maxHeartbeats 1000000
/-! changes of owned things, 2 -/
namespace VK
open PySem PySem.Spec PyProof.Rows L2
theorem Chg.unlock {lk : List Nat} {i : Nat} {f f1 : List (List Addr)} {e e1 : Env} {H H1 : Hp} (c : Chg (i :: lk) f e H f1 e1 H1) (hi : i ∉ lk) : Chg lk f e H f1 e1 H1 := by
  have sub : ∀ j ∈ lk, j ∈ i :: lk := fun j h => List.mem_cons_of_mem _ h
  refine ⟨c.step.mono fun a h => h.sub sub, fun a ha => ?_, fun j hj => c.lkd j (sub j hj), c.len⟩
  obtain ⟨j, U, nj, hU, haU⟩ := ha
  by_cases hj : j = i
  · subst hj
    rw [(c.lkd j List.mem_cons_self).1] at hU
    exact .inl ⟨j, U, hi, hU, haU⟩
  · rcases c.own a ⟨j, U, fun z => (List.mem_cons.mp z).elim hj nj, hU, haU⟩ with z | z
    · exact .inl (z.sub sub)
    · exact .inr z
section
variable {K : PySem.W.Frag} {g : GF} {ω lk : List Nat} {σ : L2.St} {H H0 : Hp} {env e0 : Env} {foot f0 : List (List Addr)} {i k : Nat} {ds : List D} {v : V}
/-- the list of a slot, and what may come in its place -/
theorem upd_list (t : Sf K g ω σ H env foot) (c : Chg lk f0 e0 H0 foot env H) (hi : i ∉ lk) (hd : env[i]? = some (some (.lst ds))) (hv : σ[i]? = some (some v)) (hk : ω.getD i 0 = k + 1) :
    ∃ l xs Ss, v = .ref l ∧ H l = some (.lst xs) ∧ OwnL (Own K g H k) ds xs Ss ∧ (l :: Ss.flatten).Nodup ∧ foot[i]? = some (l :: Ss.flatten) ∧ (∀ a ∈ l :: Ss.flatten, a ∈ foot.flatten) ∧
      ∀ ds' xs' Ss', OwnL (Own K g H k) ds' xs' Ss' → (l :: Ss'.flatten).Nodup → (∀ a ∈ Ss'.flatten, a ∈ Ss.flatten ∨ (a ∉ foot.flatten ∧ (Av lk f0 a ∨ H0 a = none))) →
        Sf K g ω σ (upd H l (.lst xs')) (env.set i (some (.lst ds'))) (foot.set i (l :: Ss'.flatten)) ∧ Chg lk f0 e0 H0 (foot.set i (l :: Ss'.flatten)) (env.set i (some (.lst ds'))) (upd H l (.lst xs')) ∧ Stays H (upd H l (.lst xs')) := by
  obtain ⟨v', S, hv', hS, o⟩ := t.slot i _ hd
  rw [hv] at hv'; cases hv'
  rw [hk] at o
  obtain ⟨l, xs, Ss, rfl, eH, r, eS⟩ := o
  have hSf : ∀ a ∈ S, a ∈ foot.flatten := fun a ha => List.mem_flatten.mpr ⟨S, List.mem_of_getElem? hS, ha⟩
  have ndS : S.Nodup := (List.sublist_flatten_of_mem (List.mem_of_getElem? hS)).nodup t.nd
  subst eS
  refine ⟨l, xs, Ss, rfl, eH, r, ndS, hS, hSf, fun ds' xs' Ss' o' nd' hS' => ?_⟩
  have st : Stays H (upd H l (.lst xs')) := Stays.upd_mu eH trivial
  have out : ∀ b, b ≠ l → (upd H l (.lst xs')) b = H b := fun b hb => upd_ne hb
  obtain ⟨n1, n2⟩ := List.nodup_cons.mp nd'
  refine ⟨t.put hS st (fun b hb _ => out b fun z => hb (by rw [z]; exact List.mem_cons_self)) (fun a ha => ?_) nd' hv (fun _ _ => rfl) rfl (fun _ _ => rfl) ?_, c.put hi hS (fun a na => ?_) (fun b hb _ => out b fun z => hb (by rw [z]; exact List.mem_cons_self)) (fun a ha => ?_) _, st⟩
  · rcases List.mem_cons.mp ha with rfl | ha
    · exact .inl List.mem_cons_self
    · rcases hS' a ha with z | z
      · exact .inl (List.mem_cons_of_mem _ z)
      · exact .inr z.1
  · rw [hk]
    refine ⟨l, xs', Ss', rfl, upd_same, OwnL.imp (fun d w U hU o => o.stay st fun a ha u eu => (out a fun z => ?_).trans eu) o', rfl⟩
    subst z
    exact n1 (List.mem_flatten.mpr ⟨U, hU, ha⟩)
  · by_cases h : a = l
    · subst h; rw [upd_same]; simp
    · rw [upd_ne h]; exact na
  · rcases List.mem_cons.mp ha with rfl | ha
    · exact .inl List.mem_cons_self
    · rcases hS' a ha with z | z
      · exact .inl (List.mem_cons_of_mem _ z)
      · exact .inr z.2
theorem OwnL.dropLast {P : D → V → List Addr → Prop} {ds : List D} {vs : List V} {Ss : List (List Addr)} (h : OwnL P ds vs Ss) : OwnL P ds.dropLast vs.dropLast Ss.dropLast := by
  have l := h.length
  have := h.eraseIdx (vs.length - 1)
  rw [← l.1] at this
  have e1 : ds.eraseIdx (ds.length - 1) = ds.dropLast := List.eraseIdx_length_sub_one
  have e2 : vs.eraseIdx (ds.length - 1) = vs.dropLast := by rw [l.1]; exact List.eraseIdx_length_sub_one
  have e3 : Ss.eraseIdx (ds.length - 1) = Ss.dropLast := by rw [l.1, ← l.2]; exact List.eraseIdx_length_sub_one
  rw [e1, e2, e3] at this
  exact this
end
section
variable {X : Cx} {g : GF} {ec : EC} {W : WX} {e a b c : Expr} {es : List Expr} {lk lk1 lk2 lk3 ω ω' ω1 ω2 ω3 : List Nat} {i k m : Nat} {base : Option Nat} {f fa fb fc : Env → R D} {x : Str} {p apos cpos : Pos}
/-- an item taken out -/
theorem popped {K : PySem.W.Frag} {H H0 : Hp} {σ : L2.St} {env env1 : Env} {foot f1 : List (List Addr)} {l : Addr} {ds : List D} {xs : List V} {Ss : List (List Addr)} {j : Nat} {y : D} {w : V}
    (r : OwnL (Own K g H k) ds xs Ss) (nd : (l :: Ss.flatten).Nodup) (sub : ∀ a ∈ l :: Ss.flatten, a ∈ f1.flatten) (hf : f1[i]? = some (l :: Ss.flatten)) (nf : f1.flatten.Nodup) (own : ∀ a ∈ l :: Ss.flatten, Av lk foot a ∨ H0 a = none) (hy : ds[j]? = some y) (hw : xs[j]? = some w)
    (q : ∀ ds' xs' Ss', OwnL (Own K g H k) ds' xs' Ss' → (l :: Ss'.flatten).Nodup → (∀ a ∈ Ss'.flatten, a ∈ Ss.flatten ∨ (a ∉ f1.flatten ∧ (Av lk foot a ∨ H0 a = none))) →
        Sf K g ω1 σ (upd H l (.lst xs')) (env1.set i (some (.lst ds'))) (f1.set i (l :: Ss'.flatten)) ∧ Chg lk foot env H0 (f1.set i (l :: Ss'.flatten)) (env1.set i (some (.lst ds'))) (upd H l (.lst xs')) ∧ Stays H (upd H l (.lst xs'))) :
    PvP K g ω1 k none lk σ H0 foot env y (env1.set i (some (.lst (ds.eraseIdx j)))) w (upd H l (.lst (xs.eraseIdx j))) := by
  obtain ⟨w', T, h1, h2, oT⟩ := r.get hy
  rw [hw] at h1; cases h1
  obtain ⟨n1, n2⟩ := List.nodup_cons.mp nd
  have hT : ∀ a ∈ T, a ∈ Ss.flatten := fun a ha => List.mem_flatten.mpr ⟨T, List.mem_of_getElem? h2, ha⟩
  have hS' := (flat_erase (Ss := Ss) j)
  obtain ⟨sf, c, st⟩ := q (ds.eraseIdx j) (xs.eraseIdx j) (Ss.eraseIdx j) (r.eraseIdx j) (List.nodup_cons.mpr ⟨fun z => n1 (hS'.subset z), hS'.nodup n2⟩) fun a ha => .inl (hS'.subset ha)
  refine ⟨_, sf, c, T, oT.stay st fun a ha u eu => ?_, (List.sublist_flatten_of_mem (List.mem_of_getElem? h2)).nodup n2, fun a ha z => ?_, fun a ha => own a (List.mem_cons_of_mem _ (hT a ha))⟩
  · rw [upd_ne (fun z => n1 (by rw [← z]; exact hT a ha))]; exact eu
  · obtain ⟨U, hU, haU⟩ := List.mem_flatten.mp z
    obtain ⟨n, hn⟩ := List.getElem?_of_mem hU
    by_cases hni : n = i
    · subst hni
      rw [List.getElem?_set_self (List.getElem?_eq_some_iff.mp hf).1] at hn
      cases hn
      rcases List.mem_cons.mp haU with rfl | haU
      · exact n1 (hT _ ha)
      · exact flat_disj n2 h2 a ha haU
    · rw [List.getElem?_set_ne (fun z => hni z.symm)] at hn
      exact hni (foot_disj nf hn hf haU (List.mem_cons_of_mem _ (hT a ha)))
def nilR (env : Env) : R (List D) := .ok [] env
/-- x.pop() -/
theorem rp_pop (hp : PE X (.Name x p) (tVar i)) (hl : (apos.endLine == cpos.line) = true) (hi : i ∉ lk) (hk : ω.getD i 0 = k + 1) :
    RP X g ec W (.Call (.Attribute (.Name x p) "pop" apos) [] [] cpos) lk ω ω k none (mu0R .pop i nilR) := by
  refine ⟨pe_imp (pe_bm0 PySem.F.plainAttrs_list PySem.F.slot_list_pop PySem.F.type_list_pop mt_pop hp (notSuper _ _ _ _) hl) fun σ H Q ⟨env, foot, sf, q⟩ => ?_, Kp.refl⟩
  unfold mu0R at q
  cases hd : getV i env with
  | none => rw [hd] at q; exact q.elim
  | some d0 =>
    rw [hd] at q
    cases d0 <;> try exact q.elim
    rename_i ds
    have q : Out (match getV i env with
      | some d => match mutD .pop d [] with
        | some ar => R.ok ar.1 (env.set i (some ar.2))
        | none => R.err
      | none => R.err) _ _ := q
    rw [hd] at q
    simp only [mutD] at q
    have hi0 := getV_some hd
    obtain ⟨v, S, hv, hS, o⟩ := sf.slot i _ hi0
    obtain ⟨l, xs, Ss, rfl, eH, r, nd, hf, hsub, go⟩ := upd_list sf (Chg.refl (lk := lk)) hi hi0 hv hk
    have hln := r.length.1
    cases hy : ds[ds.length - 1]? with
    | none => rw [hy] at q; exact q.elim
    | some y =>
      rw [hy] at q
      have q : ∀ v H', PvP X.K g ω k none lk σ H foot env y (env.set i (some (.lst ds.dropLast))) v H' → Q v H' := q
      obtain ⟨w, T, hw, _, _⟩ := r.get hy
      refine ⟨.ref l, hv, ty_list o, l, xs, w, rfl, rfl, eH, by rw [← hln]; exact hw, q _ _ ?_⟩
      have := popped (i := i) (k := k) (lk := lk) r nd hsub hf sf.nd (fun a ha => .inl ⟨i, _, hi, hf, ha⟩) hy hw go
      rw [List.eraseIdx_length_sub_one, hln, List.eraseIdx_length_sub_one] at this
      exact this
/-- x.pop(a) -/
theorem rp_popAt (hp : PE X (.Name x p) (tVar i)) (hl : (apos.endLine == cpos.line) = true) (na : ∀ z p, a ≠ .Starred z p) (hi : i ∉ lk) (hk : ω.getD i 0 = k + 1) (ha : RV X g ec W a (i :: lk) ω ω1 fa) :
    RP X g ec W (.Call (.Attribute (.Name x p) "pop" apos) [a] [] cpos) lk ω ω1 k none (mu0R .popAt i (oneR fa)) := by
  have sub : ∀ j ∈ lk, j ∈ i :: lk := fun j h => List.mem_cons_of_mem _ h
  refine ⟨pe_imp (pe_bm PySem.F.plainAttrs_list PySem.F.slot_list_pop PySem.F.type_list_pop mt_popAt hp (pa_cons ha.pe pa_nil (star_cons na _)) (notSuper _ _ _ _) (few1 na _) hl (star_cons na _) (back_nil _ _)) fun σ H Q ⟨env, foot, sf, q⟩ => ?_, fun j hj => ha.kp j (sub j hj)⟩
  unfold mu0R at q
  cases hd : getV i env with
  | none => rw [hd] at q; exact q.elim
  | some d0 =>
    rw [hd] at q
    cases d0 <;> try exact q.elim
    rename_i ds
    have hi0 := getV_some hd
    obtain ⟨v, S, hv, hS, o⟩ := sf.slot i _ hi0
    refine ⟨v, hv, ty_list o, env, foot, sf, (Out.bind.mp (Out.bind.mp q)).imp (fun y env1 ea q0 v1 H1 p1 => ?_) fun x e h cls dd H' pp => h cls dd H' (pp.over Chg.refl Kp.refl sub)⟩
    obtain ⟨f1, sf1, c1, r1⟩ := p1
    obtain ⟨hf1, he1⟩ := c1.lkd i List.mem_cons_self
    clear ea
    have q : Out (match getV i env1 with
      | some d => match mutD .popAt d [y] with
        | some ar => R.ok ar.1 (env1.set i (some ar.2))
        | none => R.err
      | none => R.err) _ _ := q0
    clear q0
    have hd1 : getV i env1 = some (.lst ds) := by
      unfold getV at hd ⊢
      rw [he1]; exact hd
    rw [hd1] at q
    cases y <;> try exact q.elim
    rename_i n
    simp only [mutD] at q
    have hk1 : ω1.getD i 0 = k + 1 := (ha.kp i List.mem_cons_self).trans hk
    by_cases hz : -(2 ^ 63) ≤ n ∧ n < 2 ^ 63
    · rw [if_pos hz] at q
      cases hj : ixD ds.length n with
      | none => rw [hj] at q; exact q.elim
      | some j =>
        rw [hj] at q
        cases hy : ds[j]? with
        | none => simp only [Option.bind_some, hy, Option.map_none] at q; exact q.elim
        | some y =>
          simp only [Option.bind_some, hy, Option.map_some] at q
          have q : ∀ v H', PvP X.K g ω1 k none lk σ H foot env y (env1.set i (some (.lst (ds.eraseIdx j)))) v H' → Q v H' := q
          cases r1
          obtain ⟨l, xs, Ss, rfl, eH, r, nd, hf, hsub, go⟩ := upd_list sf1 (c1.unlock hi) hi (getV_some hd1) hv hk1
          obtain ⟨w, T, hw, _, _⟩ := r.get hy
          have hj' : seqIndex? n xs.length = some j := by rw [← r.length.1]; exact (ixN_seq hj).1
          refine ⟨l, xs, n, j, w, rfl, rfl, eH, hz.1, hz.2, hj', hw, q _ _ ?_⟩
          exact popped (i := i) (k := k) (lk := lk) r nd hsub hf sf1.nd (fun a ha => (c1.unlock hi).own a ⟨i, _, hi, hf, ha⟩) hy hw go
    · rw [if_neg hz] at q; exact q.elim
/-- x.extend(a): a new list -/
theorem rp_extend (hp : PE X (.Name x p) (tVar i)) (hl : (apos.endLine == cpos.line) = true) (na : ∀ z p, a ≠ .Starred z p) (hi : i ∉ lk) (hk : ω.getD i 0 = k + 1) (ha : RP X g ec W a (i :: lk) ω ω1 (k + 1) none fa) :
    RP X g ec W (.Call (.Attribute (.Name x p) "extend" apos) [a] [] cpos) lk ω ω1 0 none (mu0R .extend i (oneR fa)) := by
  have sub : ∀ j ∈ lk, j ∈ i :: lk := fun j h => List.mem_cons_of_mem _ h
  refine ⟨pe_imp (pe_bm PySem.F.plainAttrs_list PySem.F.slot_list_extend PySem.F.type_list_extend mt_extend hp (pa_cons ha.pe pa_nil (star_cons na _)) (notSuper _ _ _ _) (few1 na _) hl (star_cons na _) (back_nil _ _)) fun σ H Q ⟨env, foot, sf, q⟩ => ?_, fun j hj => ha.kp j (sub j hj)⟩
  unfold mu0R at q
  cases hd : getV i env with
  | none => rw [hd] at q; exact q.elim
  | some d0 =>
    rw [hd] at q
    cases d0 <;> try exact q.elim
    rename_i ds
    have hi0 := getV_some hd
    obtain ⟨v, S, hv, hS, o⟩ := sf.slot i _ hi0
    refine ⟨v, hv, ty_list o, env, foot, sf, (Out.bind.mp (Out.bind.mp q)).imp (fun y env1 ea q0 v1 H1 p1 => ?_) fun x e h cls dd H' pp => h cls dd H' (pp.over Chg.refl Kp.refl sub)⟩
    obtain ⟨f1, sf1, c1, T, o1, nd1, dj1, own1⟩ := p1
    obtain ⟨hf1, he1⟩ := c1.lkd i List.mem_cons_self
    clear ea
    have q : Out (match getV i env1 with
      | some d => match mutD .extend d [y] with
        | some ar => R.ok ar.1 (env1.set i (some ar.2))
        | none => R.err
      | none => R.err) _ _ := q0
    clear q0
    have hd1 : getV i env1 = some (.lst ds) := by
      unfold getV at hd ⊢
      rw [he1]; exact hd
    rw [hd1] at q
    cases y <;> try exact q.elim
    rename_i zs
    simp only [mutD] at q
    have hk1 : ω1.getD i 0 = k + 1 := (ha.kp i List.mem_cons_self).trans hk
    by_cases hz : ds.length + zs.length ≤ SZ
    · rw [if_pos hz] at q
      have q : ∀ v H', PvP X.K g ω1 0 none lk σ H foot env .non (env1.set i (some (.lst (ds ++ zs)))) v H' → Q v H' := q
      obtain ⟨l, xs, Ss, rfl, eH, r, nd, hf, hsub, go⟩ := upd_list sf1 (c1.unlock hi) hi (getV_some hd1) hv hk1
      obtain ⟨b, ws, Ts, rfl, eB, rB, eT⟩ := o1
      subst eT
      obtain ⟨n1, n2⟩ := List.nodup_cons.mp nd1
      obtain ⟨m1, m2⟩ := List.nodup_cons.mp nd
      refine ⟨l, b, xs, ws, rfl, rfl, eH, eB, by rw [← r.length.1, ← rB.length.1, ← SZ_eq]; exact hz, q _ _ ?_⟩
      have g1 : (l :: (Ss ++ Ts).flatten).Nodup := by
        refine List.nodup_cons.mpr ⟨fun z => ?_, ?_⟩
        · rw [List.flatten_append, List.mem_append] at z
          rcases z with z | z
          · exact m1 z
          · exact dj1 l (List.mem_cons_of_mem _ z) (hsub l List.mem_cons_self)
        · rw [List.flatten_append]
          refine List.nodup_append.mpr ⟨m2, n2, fun a ha b hb e => ?_⟩
          subst e
          exact dj1 a (List.mem_cons_of_mem _ hb) (hsub a (List.mem_cons_of_mem _ ha))
      have g2 : ∀ a ∈ (Ss ++ Ts).flatten, a ∈ Ss.flatten ∨ (a ∉ f1.flatten ∧ (Av lk foot a ∨ H a = none)) := fun a ha => by
        rw [List.flatten_append, List.mem_append] at ha
        rcases ha with ha | ha
        · exact .inl ha
        · exact .inr ⟨dj1 a (List.mem_cons_of_mem _ ha), (own1 a (List.mem_cons_of_mem _ ha)).imp (fun z => z.sub sub) id⟩
      obtain ⟨sf', c', st'⟩ := go (ds ++ zs) (xs ++ ws) (Ss ++ Ts) (r.append rB) g1 g2
      exact ⟨_, sf', c', [], ⟨rfl, .non⟩, .nil, no_mem, no_mem⟩
    · rw [if_neg hz] at q; exact q.elim
end
end VK
set_option Elab.async false
set_option linter.all false
set_option maxHeartbeats 1000000
/-! methods of texts, lists, dicts; displays of dicts -/
namespace VK
open PySem PySem.Spec PyProof.Rows L2
def notSup : Expr → Bool
  | .Call (.Name id _) [] [] _ => id != "super"
  | _ => true
theorem base_of {o : Expr} (h : notSup o = true) (m : Str) (env : PySem.Env) : attributeBase o m env (eval o env) = eval o env := by
  unfold attributeBase
  split
  · rename_i id p pos
    have h : (id != "super") = true := h
    rw [h]
    simp
  · rfl
section
variable {X : Cx} {g : GF} {ec : EC} {W : WX} {e a b c : Expr} {es : List Expr} {lk lk1 lk2 lk3 ω ω' ω1 ω2 ω3 : List Nat} {i k m : Nat} {base : Option Nat} {f fa fb fc : Env → R D} {x : Str} {p apos cpos : Pos}
def me1R (m : Me) (fa fb : Env → R D) (env : Env) : R D := (fa env).bind fun x e0 => if recvD m x then (oneR fb e0).bind fun xs e1 => liftO (methD m x xs) e1 else .err
theorem rp_me1 {m : Me} {T id : String} {name : Str} {r : V → List V → Hp → VK → Prop} (pa : PlainAttrs T) (slot : Slot T name id) (hty : typeOf (.builtin id) = pure (.type "method_descriptor")) (hm : MtR X id r)
    (hT : ∀ H d1 x, recvD m d1 = true → Vw X.K g H 1 d1 x → tyV X.K T x H)
    (hr : ∀ H d1 d2 d x y Q, Vw X.K g H 1 d1 x → Vw X.K g H 1 d2 y → methD m d1 [d2] = some d → (∀ v H', New X.K g H d v H' → Q v H') → r x [y] H Q)
    (hl : (apos.endLine == cpos.line) = true) (ns : notSup a = true) (nb : ∀ z p, b ≠ .Starred z p) (ha : RK X g ec W a 1 lk1 lk ω ω1 fa) (hb : RK X g ec W b 1 lk2 lk1 ω1 ω2 fb) :
    RP X g ec W (.Call (.Attribute a name apos) [b] [] cpos) lk ω ω2 1 none (me1R m fa fb) := by
  refine ⟨pe_imp (pe_bm pa slot hty hm ha.pe (pa_cons hb.pe pa_nil (star_cons nb _)) (base_of ns _ _) (few1 nb _) hl (star_cons nb _) (back_nil _ _)) fun σ H Q ⟨env, foot, sf, q⟩ => ⟨env, foot, sf, (Out.bind.mp q).imp (fun d1 env1 ea q0 v1 H1 p1 => ?_) fun _ _ h => h⟩, ha.kp.trans hb.kp ha.sub⟩
  obtain ⟨f1, sf1, c1, k1, S1, hk1, o1, n1⟩ := p1
  clear ea
  cases hrc : recvD m d1 with
  | false => rw [hrc] at q0; exact q0.elim
  | true =>
    rw [hrc] at q0
    refine ⟨hT _ _ _ hrc ⟨k1, S1, hk1, o1⟩, env1, f1, sf1, (Out.bind.mp (Out.bind.mp q0)).imp (fun d2 env2 eb q1 v2 H2 p2 => ?_) fun x e2 h cls dd H2 p => h cls dd H2 (p.over c1 ha.kp ha.sub)⟩
    obtain ⟨f2, sf2, c2, k2, S2, hk2, o2, n2⟩ := p2
    obtain ⟨d, hd, q2⟩ := Out.lift (show Out (liftO (methD m d1 [d2]) env2) _ _ from q1)
    exact hr H2 d1 d2 d v1 v2 Q ⟨k1, S1, hk1, o1.over n1 sf1 c2⟩ ⟨k2, S2, hk2, o2⟩ hd fun v H' nw => q2 v H' (nw.post sf2 (c1.trans' c2 ha.sub))
theorem tyStr {K : PySem.W.Frag} {H : Hp} {s : Str} {x : V} (w : Vw K g H m (.str s) x) : tyV K "str" x H := by cases w.str; rfl
theorem rp_split (hl : (apos.endLine == cpos.line) = true) (ns : notSup a = true) (nb : ∀ z p, b ≠ .Starred z p) (ha : RK X g ec W a 1 lk1 lk ω ω1 fa) (hb : RK X g ec W b 1 lk2 lk1 ω1 ω2 fb) :
    RP X g ec W (.Call (.Attribute a "split" apos) [b] [] cpos) lk ω ω2 1 none (me1R .split fa fb) :=
  rp_me1 (m := .split) PySem.F.plainAttrs_str PySem.F.slot_str_split PySem.F.type_str_split mt_split (fun H d1 x h w => by
    cases d1 <;> simp only [recvD, Bool.false_eq_true] at h
    exact tyStr w) (fun H d1 d2 d x y Q w1 w2 e q => by
    cases d1 <;> cases d2 <;> simp only [methD, reduceCtorEq] at e
    split at e
    · rename_i h
      cases e
      cases w1.str; cases w2.str
      refine ⟨_, _, rfl, rfl, by simpa using h.1, by rw [← SZ_eq]; exact h.2, fun p n => q _ _ (.lst n (Reps.strs _))⟩
    · cases e) hl ns nb ha hb
theorem rp_partition (hl : (apos.endLine == cpos.line) = true) (ns : notSup a = true) (nb : ∀ z p, b ≠ .Starred z p) (ha : RK X g ec W a 1 lk1 lk ω ω1 fa) (hb : RK X g ec W b 1 lk2 lk1 ω1 ω2 fb) :
    RP X g ec W (.Call (.Attribute a "partition" apos) [b] [] cpos) lk ω ω2 1 none (me1R .partition fa fb) :=
  rp_me1 (m := .partition) PySem.F.plainAttrs_str PySem.F.slot_str_partition PySem.F.type_str_partition mt_partition (fun H d1 x h w => by
    cases d1 <;> simp only [recvD, Bool.false_eq_true] at h
    exact tyStr w) (fun H d1 d2 d x y Q w1 w2 e q => by
    cases d1 <;> cases d2 <;> simp only [methD, reduceCtorEq] at e
    split at e
    · rename_i h
      cases e
      cases w1.str; cases w2.str
      refine ⟨_, _, rfl, rfl, by simpa using h.1, by rw [← SZ_eq]; exact h.2, fun p n => q _ _ (.tup n (.cons (.str _) (.cons (.str _) (.cons (.str _) .nil))))⟩
    · cases e) hl ns nb ha hb
theorem strsOf {K : PySem.W.Frag} {H : Hp} : ∀ {ds : List D} {vs : List V} {ns : List Str}, Reps K g H ds vs → strsD ds = some ns → vs = ns.map V.str
  | _, _, _, .nil, e => by cases e; rfl
  | d :: _, _, _, .cons h r, e => by
    cases d <;> simp only [strsD, reduceCtorEq] at e
    obtain ⟨ms, h1, h2⟩ := Option.map_eq_some_iff.mp e
    subst h2
    rw [strsOf r h1]
    cases h
    rfl
theorem rp_join (hl : (apos.endLine == cpos.line) = true) (ns : notSup a = true) (nb : ∀ z p, b ≠ .Starred z p) (ha : RK X g ec W a 1 lk1 lk ω ω1 fa) (hb : RK X g ec W b 1 lk2 lk1 ω1 ω2 fb) :
    RP X g ec W (.Call (.Attribute a "join" apos) [b] [] cpos) lk ω ω2 1 none (me1R .join fa fb) :=
  rp_me1 (m := .join) PySem.F.plainAttrs_str PySem.F.slot_str_join PySem.F.type_str_join mt_join (fun H d1 x h w => by
    cases d1 <;> simp only [recvD, Bool.false_eq_true] at h
    exact tyStr w) (fun H d1 d2 d x y Q w1 w2 e q => by
    cases d1 <;> simp only [methD, reduceCtorEq] at e
    obtain ⟨zs, h1, h2⟩ := Option.bind_eq_some_iff.mp e
    obtain ⟨ys, h3, h4⟩ := Option.bind_eq_some_iff.mp h2
    split at h4
    · rename_i hz
      cases h4
      cases w1.str
      cases d2 <;> simp only [seqOf, reduceCtorEq, Option.some.injEq] at h1
      · subst h1
        obtain ⟨p, vs, rfl, hx, r⟩ := w2.tup
        rw [strsOf r h3] at hx
        exact ⟨_, p, ys, rfl, rfl, .inr hx, hz, q _ _ (.str _)⟩
      · subst h1
        obtain ⟨p, vs, rfl, hx, r⟩ := w2.lst
        rw [strsOf r h3] at hx
        exact ⟨_, p, ys, rfl, rfl, .inl hx, hz, q _ _ (.str _)⟩
    · cases h4) hl ns nb ha hb
theorem toPys_get : ∀ (ds : List D) (j : Nat), (toPys ds)[j]? = (ds[j]?).map toPy
  | [], j => by simp [toPys]
  | d :: ds, 0 => by simp [toPys]
  | d :: ds, j + 1 => by simpa [toPys] using toPys_get ds j
theorem findIx_spec (x : D) : ∀ (ds : List D) (n : Nat), findIx x ds = some n → ∃ d, ds[n]? = some d ∧ deq d x = true ∧ ∀ (m : Nat) (d' : D), m < n → ds[m]? = some d' → deq d' x = false
  | [], n, h => by cases h
  | d :: ds, n, h => by
    unfold findIx at h
    by_cases hd : deq d x = true
    · rw [if_pos hd] at h
      cases h
      exact ⟨d, rfl, hd, fun m d' hm => absurd hm (by omega)⟩
    · rw [if_neg hd] at h
      obtain ⟨k, h1, h2⟩ := Option.map_eq_some_iff.mp h
      subst h2
      obtain ⟨d1, g1, g2, g3⟩ := findIx_spec x ds k h1
      refine ⟨d1, by simpa using g1, g2, fun m d' hm hd' => ?_⟩
      cases m with
      | zero => simp at hd'; subst hd'; simpa using hd
      | succ m => exact g3 m d' (by omega) (by simpa using hd')
theorem rp_index (hu : X.A.units + 65 < cLine) (hl : (apos.endLine == cpos.line) = true) (ns : notSup a = true) (nb : ∀ z p, b ≠ .Starred z p) (ha : RK X g ec W a 1 lk1 lk ω ω1 fa) (hb : RK X g ec W b 1 lk2 lk1 ω1 ω2 fb) :
    RP X g ec W (.Call (.Attribute a "index" apos) [b] [] cpos) lk ω ω2 1 none (me1R .index fa fb) :=
  rp_me1 (m := .index) PySem.F.plainAttrs_list PySem.F.slot_list_index PySem.F.type_list_index (mt_indexD hu) (fun H d1 x h w => by
    cases d1 <;> simp only [recvD, Bool.false_eq_true] at h
    obtain ⟨a, xs, rfl, hx, _⟩ := w.lstA
    exact .inl ⟨rfl, xs, hx⟩) (fun H d1 d2 d x y Q w1 w2 e q => by
    cases d1 <;> simp only [methD, reduceCtorEq] at e
    rename_i ds
    split at e
    · rename_i hp
      obtain ⟨h1, h2⟩ := Bool.and_eq_true_iff.mp hp
      obtain ⟨n, h3, h4⟩ := Option.map_eq_some_iff.mp e
      subst h4
      obtain ⟨dz, g1, g2, g3⟩ := findIx_spec _ _ _ h3
      obtain ⟨a, vs, rfl, _⟩ := w1.lst
      refine ⟨a, y, toPy d2, toPys ds, n, toPy dz, rfl, rfl, w1.dp h2, w2.dp h1, h2, h1, by rw [toPys_get, g1]; rfl, g2, fun mm z' hm hz' => ?_, q _ _ (.int _)⟩
      rw [toPys_get] at hz'
      obtain ⟨d', e1, e2⟩ := Option.map_eq_some_iff.mp hz'
      subst e2
      exact g3 mm d' hm e1
    · cases e) hl ns nb ha hb

/-! ### d.get -/
theorem Vw.isD {K : PySem.W.Frag} {H : Hp} {es : List (D × D)} {v : V} (w : Vw K g H m (.dic es) v) : ∃ a kvs, v = .ref a ∧ Rd H a (.dK kvs) ∧ RepK K g H es kvs := w.dic
theorem getD_rep {K : PySem.W.Frag} {H : Hp} {es : List (D × D)} {kvs : List (Key × V)} (r : RepK K g H es kvs) (key : Key) : (∃ d v, lookD (kD key) es = some d ∧ valV kvs key = some v ∧ Rep K g H d v) ∨ (lookD (kD key) es = none ∧ valV kvs key = none) := by
  have := r.look key
  cases h : lookD (kD key) es with
  | none => rw [h] at this; exact .inr ⟨rfl, this⟩
  | some d => rw [h] at this; obtain ⟨v, h1, h2⟩ := this; exact .inl ⟨d, v, rfl, h1, h2⟩
theorem m1_of (hl : (apos.endLine == cpos.line) = true) (ns : notSup a = true) (nb : ∀ z p, b ≠ .Starred z p) (name : Str) : M1 X a name apos b cpos := ⟨base_of ns _ _, few1 nb _, hl, by rw [star_cons nb]; rfl⟩
theorem rv_get1 (hu : X.A.units + 65 < cLine) (hl : (apos.endLine == cpos.line) = true) (ns : notSup a = true) (nb : ∀ z p, b ≠ .Starred z p) (ha : RK X g ec W a 1 lk1 lk ω ω1 fa) (hb : RV X g ec W b lk1 ω1 ω2 fb) :
    RV X g ec W (.Call (.Attribute a "get" apos) [b] [] cpos) lk ω ω2 (me1R .get1 fa fb) := by
  refine ⟨pe_imp (pe_dget1 (by omega) ha.pe hb.pe (m1_of hl ns nb _)) fun σ H Q ⟨env, foot, sf, q⟩ => ⟨env, foot, sf, (Out.bind.mp q).imp (fun d1 env1 ea q0 v1 H1 p1 => ?_) fun _ _ h => h⟩, ha.kp.trans hb.kp ha.sub⟩
  obtain ⟨f1, sf1, c1, k1, S1, hk1, o1, n1⟩ := p1
  clear ea
  cases hrc : recvD .get1 d1 with
  | false => rw [hrc] at q0; exact q0.elim
  | true =>
    rw [hrc] at q0
    cases d1 <;> simp only [recvD, Bool.false_eq_true] at hrc
    rename_i es
    obtain ⟨l, kvs, rfl, hd, r⟩ := Vw.dic (g := g) (m := 1) ⟨k1, S1, hk1, o1⟩
    refine ⟨l, rfl, .inl ⟨kvs, hd⟩, env1, f1, sf1, (Out.bind.mp (Out.bind.mp q0)).imp (fun d2 env2 eb q1 v2 H2 p2 => ?_) fun x e2 h cls dd H2 p => h cls dd H2 (p.over c1 ha.kp ha.sub)⟩
    obtain ⟨f2, sf2, c2, r2⟩ := p2
    obtain ⟨d, hd2, q2⟩ := Out.lift (show Out (liftO (methD .get1 (.dic es) [d2]) env2) _ _ from q1)
    simp only [methD] at hd2
    split at hd2
    · rename_i hkey
      cases hd2
      obtain ⟨key, rfl⟩ := isKey_of hkey
      cases r2.key
      obtain ⟨l', kvs', e', hd', r'⟩ := Vw.dic (g := g) (m := 1) (H := H2) ⟨k1, S1, hk1, o1.over n1 sf1 c2⟩
      cases e'
      rcases getD_rep r' key with ⟨d, v, h1, h2, h3⟩ | ⟨h1, h2⟩
      · refine ⟨some v, .inl ⟨kvs', key, hd', rfl, h2.symm⟩, q2 _ _ ⟨f2, sf2, c1.trans' c2 ha.sub, ?_⟩⟩
        rw [h1]; exact h3
      · refine ⟨none, .inl ⟨kvs', key, hd', rfl, h2.symm⟩, q2 _ _ ⟨f2, sf2, c1.trans' c2 ha.sub, ?_⟩⟩
        rw [h1]; exact .non
    · cases hd2

/-! ### names of built-in types, functions -/
theorem rv_fn {j : Nat} {u : Addr} (hg : Gl X x) (hm : X.mg x = some (.ref u)) (hf : g j u) (hd : (x == ("__debug__" : Str)) = false) : RV X g ec W (.Name x p) lk ω ω (fun env => .ok (.fn j) env) :=
  rp_of (pe_glob hg hm (show RelV (.ref u) (.ref u) from rfl) hd) fun H => .fn hf
theorem pe_ty {n : String} (B : BN X x (.type n)) : PE X (.Name x p) (tC (.ty n)) := pe_bltn B.gl B.mg B.bt rfl B.nn B.nd

/-! ### {k: v, ..} -/
theorem kV_kD {K : PySem.W.Frag} {H : Hp} {d : D} {v : V} (r : Rep K g H d v) (h : isKey d = true) : ∃ key, d = kD key ∧ v = kV key := by
  obtain ⟨key, rfl⟩ := isKey_of h
  exact ⟨key, rfl, r.key⟩
def pairV : List V → List (V × V)
  | k :: v :: r => (k, v) :: pairV r
  | _ => []
theorem RepK.any {K : PySem.W.Frag} {H : Hp} (key : Key) : ∀ {es : List (D × D)} {kvs : List (Key × V)}, RepK K g H es kvs → (es.any fun kv => deq kv.1 (kD key)) = (kvs.any fun kv => decide (kv.1 = key))
  | _, _, .nil => rfl
  | _, _, .cons h r => by
    rw [List.any_cons, List.any_cons, RepK.any key r, deq_kD]
theorem RepK.append {K : PySem.W.Frag} {H : Hp} : ∀ {es fs : List (D × D)} {kvs lvs : List (Key × V)}, RepK K g H es kvs → RepK K g H fs lvs → RepK K g H (es ++ fs) (kvs ++ lvs)
  | _, _, _, _, .nil, q => q
  | _, _, _, _, .cons h r, q => .cons h (RepK.append r q)
theorem RepK.mapPut {K : PySem.W.Frag} {H : Hp} {key : Key} {d : D} {v : V} (hd : Rep K g H d v) : ∀ {es : List (D × D)} {kvs : List (Key × V)}, RepK K g H es kvs → RepK K g H (es.map fun kv => if deq kv.1 (kD key) = true then (kv.1, d) else kv) (kvs.map fun kv => if kv.1 = key then (kv.1, v) else kv)
  | _, _, .nil => .nil
  | _, _, .cons (k := k) h r => by
    rw [List.map_cons, List.map_cons, deq_kD]
    by_cases hk : k = key
    · rw [if_pos (decide_eq_true hk), if_pos hk]
      exact .cons hd (RepK.mapPut hd r)
    · rw [if_neg (by rw [decide_eq_false hk]; simp), if_neg hk]
      exact .cons h (RepK.mapPut hd r)
theorem RepK.put {K : PySem.W.Frag} {H : Hp} {key : Key} {d : D} {v : V} {es : List (D × D)} {kvs : List (Key × V)} (r : RepK K g H es kvs) (hd : Rep K g H d v) : RepK K g H (putD (kD key) d es) (putK kvs key v) := by
  unfold putD putK
  rw [r.any key]
  split
  · exact r.mapPut hd
  · exact r.append (.cons hd .nil)
variable (X g ec W) in
structure RPs (pos : Pos) (ks : List (Option Expr)) (vs : List Expr) (lk ω ω' : List Nat) (fs : Env → R (List D)) : Prop where
  pp : ∃ trs, PPs X pos ks vs trs ∧ ∀ σ H Q, tL X.K g ec W lk ω ω' fs σ H (fun vs H' => Q (pairV vs) H') → tPairs trs σ H Q
  kp : Kp lk ω ω'
theorem rps_nil {pos : Pos} : RPs X g ec W pos [] [] lk ω ω nilR :=
  ⟨⟨[], pps_nil, fun σ H Q ⟨env, foot, sf, q⟩ => (show ∀ vs H', _ → _ from q) [] H ⟨foot, sf, Chg.refl, .nil⟩⟩, Kp.refl⟩
def kvR (fa fb : Env → R D) (fs : Env → R (List D)) (env : Env) : R (List D) := (fa env).bind fun x e1 => ((fb e1).bind fun y e2 => (fs e2).bind fun zs e3 => .ok (y :: zs) e3).bind fun xs e4 => .ok (x :: xs) e4
theorem rps_cons {pos : Pos} {ks : List (Option Expr)} {vs : List Expr} {fs : Env → R (List D)} (ha : RV X g ec W a lk ω ω1 fa) (hb : RV X g ec W b lk ω1 ω2 fb) (hr : RPs X g ec W pos ks vs lk ω2 ω3 fs) :
    RPs X g ec W pos (some a :: ks) (b :: vs) lk ω ω3 (kvR fa fb fs) := by
  have s0 : ∀ i ∈ lk, i ∈ lk := fun _ h => h
  obtain ⟨⟨trs, h1, h2⟩, kp3⟩ := hr
  refine ⟨⟨_, pps_cons ha.pe hb.pe h1, fun σ H Q ⟨env, foot, sf, q⟩ => ?_⟩, (ha.kp.trans hb.kp s0).trans kp3 s0⟩
  refine ⟨env, foot, sf, (Out.bind.mp q).imp (fun d1 env1 _ q v1 H1 p1 => ?_) fun _ _ h => h⟩
  obtain ⟨f1, sf1, c1, r1⟩ := p1
  refine ⟨env1, f1, sf1, (Out.bind.mp (Out.bind.mp q)).imp (fun d2 env2 _ q v2 H2 p2 => ?_) fun x e2 h cls dd H2 p => h cls dd H2 (p.over c1 ha.kp s0)⟩
  obtain ⟨f2, sf2, c2, r2⟩ := p2
  refine h2 σ H2 _ ⟨env2, f2, sf2, (Out.bind.mp q).imp (fun ds env3 _ q vs H3 p3 => ?_) fun x e2 h cls dd H2 p => h cls dd H2 (p.over (c1.trans' c2 s0) (ha.kp.trans hb.kp s0) s0)⟩
  obtain ⟨f3, sf3, c3, r3⟩ := p3
  exact q (v1 :: v2 :: vs) H3 ⟨f3, sf3, (c1.trans' c2 s0).trans' c3 s0, .cons (r1.over sf1 (c2.trans' c3 s0)) (.cons (r2.over sf2 c3) r3)⟩
def dicR (fs : Env → R (List D)) (env : Env) : R D := (fs env).bind fun xs e1 => match pairsD xs with
    | some kvs => if kvs.all (fun kv => isKey kv.1) && decide (kvs.length ≤ 15) then .ok (.dic (kvs.foldl (fun acc kv => putD kv.1 kv.2 acc) [])) e1 else .err
    | none => .err
theorem pairs_of {K : PySem.W.Frag} {H : Hp} : ∀ (kvs : List (D × D)) {ds : List D} {vs : List V}, Reps K g H ds vs → pairsD ds = some kvs → kvs.all (fun kv => isKey kv.1) = true →
    ∃ lvs : List (Key × V), pairV vs = lvs.map (fun kv => (kV kv.1, kv.2)) ∧ lvs.length = kvs.length ∧ ∀ (acc : List (D × D)) (accV : List (Key × V)), RepK K g H acc accV → RepK K g H (kvs.foldl (fun acc kv => putD kv.1 kv.2 acc) acc) (mergeK accV lvs)
  | kvs, _, _, .nil, e, _ => by cases e; exact ⟨[], rfl, rfl, fun _ _ r => r⟩
  | kvs, _, _, .cons h .nil, e, _ => by cases e
  | kvs, _, _, .cons h1 (.cons h2 r), e, hk => by
    obtain ⟨ms, e1, e2⟩ := Option.map_eq_some_iff.mp e
    subst e2
    rw [List.all_cons, Bool.and_eq_true] at hk
    obtain ⟨key, rfl, rfl⟩ := kV_kD h1 hk.1
    obtain ⟨lvs, g1, g2, g3⟩ := pairs_of ms r e1 hk.2
    refine ⟨(key, _) :: lvs, by rw [List.map_cons, ← g1]; rfl, by simp [g2], fun acc accV ra => ?_⟩
    exact g3 _ _ (ra.put h2)
theorem rp_dic {pos : Pos} {ks : List (Option Expr)} {vs : List Expr} {fs : Env → R (List D)} (h0 : ks ≠ []) (hall : ks.all (·.isSome) = true) (hl : ks.length = vs.length) (h15 : ks.length ≤ 15) (h : RPs X g ec W pos ks vs lk ω ω1 fs) :
    RP X g ec W (.Dict ks vs pos) lk ω ω1 1 none (dicR fs) := by
  obtain ⟨⟨trs, h1, h2⟩, kp⟩ := h
  refine ⟨pe_imp (pe_disp h1 hall hl h0 h15) fun σ H Q ⟨env, foot, sf, q⟩ p n => ?_, kp⟩
  have c0 : Chg lk foot env H foot env (upd H p (.dK [])) := Chg.refl.new n
  have s0 : ∀ i ∈ lk, i ∈ lk := fun _ h => h
  have pf := sf.notFoot n
  refine h2 σ _ _ ⟨env, foot, sf.new n, (Out.bind.mp q).imp (fun ds env1 _ q0 vs H1 p1 => ?_) fun x e2 h cls dd H2 p => h cls dd H2 (p.over c0 Kp.refl s0)⟩
  obtain ⟨f1, sf1, c1, r1⟩ := p1
  have hp : H1 p = some (.dK []) := c1.step.keep p _ upd_same fun z => pf z.mem
  refine ⟨hp, ?_⟩
  cases hd : pairsD ds with
  | none => rw [hd] at q0; exact q0.elim
  | some kvs =>
    rw [hd] at q0
    have q0 : Out (if (kvs.all (fun kv => isKey kv.1) && decide (kvs.length ≤ 15)) = true then R.ok (D.dic (kvs.foldl (fun acc kv => putD kv.1 kv.2 acc) [])) env1 else R.err) _ _ := q0
    by_cases hz : (kvs.all (fun kv => isKey kv.1) && decide (kvs.length ≤ 15)) = true
    · rw [if_pos hz] at q0
      have q0 : ∀ v H', PvP X.K g ω1 1 none lk σ H foot env (.dic (kvs.foldl (fun acc kv => putD kv.1 kv.2 acc) [])) env1 v H' → Q v H' := q0
      obtain ⟨z1, z2⟩ := Bool.and_eq_true_iff.mp hz
      obtain ⟨lvs, g1, g2, g3⟩ := pairs_of kvs r1 hd z1
      refine ⟨lvs, g1, by rw [g2]; exact of_decide_eq_true z2, q0 _ _ ?_⟩
      have pf1 : p ∉ f1.flatten := fun z => by
        obtain ⟨T, hT, haT⟩ := List.mem_flatten.mp z
        obtain ⟨j, hj⟩ := List.getElem?_of_mem hT
        by_cases hjl : j ∈ lk
        · rw [(c1.lkd j hjl).1] at hj
          exact pf (List.mem_flatten.mpr ⟨T, List.mem_of_getElem? hj, haT⟩)
        · rcases c1.own p ⟨j, T, hjl, hj, haT⟩ with z | z
          · exact pf z.mem
          · rw [upd_same] at z; cases z
      have st : Stays H1 (upd H1 p (.dK (mergeK [] lvs))) := Stays.upd_mu hp trivial
      have out : ∀ b, b ≠ p → (upd H1 p (.dK (mergeK [] lvs))) b = H1 b := fun b hb => upd_ne hb
      have cc := c0.trans' c1 s0
      refine ⟨f1, ⟨sf1.len, sf1.lenF, fun i d ei => ?_, sf1.dead, sf1.nd⟩, ⟨⟨fun a u ea na => ?_, fun a na => ?_⟩, cc.own, cc.lkd, cc.len⟩, [p], ⟨p, _, rfl, upd_same, (g3 [] [] .nil).stay st, rfl⟩, by simp, fun a ha => ?_, fun a ha => ?_⟩
      · obtain ⟨v, S, hv, hS, o⟩ := sf1.slot i d ei
        exact ⟨v, S, hv, hS, o.stay st fun a ha u eu => (out a fun z => pf1 (by rw [← z]; exact List.mem_flatten.mpr ⟨S, List.mem_of_getElem? hS, ha⟩)).trans eu⟩
      · rw [out a (ne_of_none ea n)]
        exact cc.step.keep a u ea na
      · by_cases hap : a = p
        · subst hap; rw [upd_same]; simp
        · rw [out a hap]; exact cc.step.dom a na
      · obtain rfl := List.mem_singleton.mp ha; exact pf1
      · obtain rfl := List.mem_singleton.mp ha; exact .inr n
    · rw [if_neg hz] at q0; exact q0.elim
theorem rp_dic0 {pos : Pos} : RP X g ec W (.Dict [] [] pos) lk ω ω 1 none (fun env => .ok (.dic []) env) := by
  refine ⟨pe_imp pe_dnewK fun σ H Q ⟨env, foot, sf, q⟩ p n => ?_, Kp.refl⟩
  have q : ∀ v H', PvP X.K g ω 1 none lk σ H foot env (.dic []) env v H' → Q v H' := q
  refine q _ _ ⟨foot, sf.new n, Chg.refl.new n, [p], ⟨p, [], rfl, upd_same, .nil, rfl⟩, by simp, fun a ha => ?_, fun a ha => ?_⟩
  · obtain rfl := List.mem_singleton.mp ha; exact sf.notFoot n
  · obtain rfl := List.mem_singleton.mp ha; exact .inr n
end
end VK
set_option Elab.async false
set_option linter.all false
set_option maxHeartbeats 1000000
/-! calls of own functions -/
namespace VK
open PySem PySem.Spec PyProof.Rows L2
/-- which parameters are changed (and how deep they are owned), how deep the answer is owned -/
structure Sig where
  io : List (Option Nat)
  rk : Nat
def ArgsOk (K : PySem.W.Frag) (g : GF) (H : Hp) : List (Option Nat) → List D → List V → List (List Addr) → Prop
  | [], [], [], [] => True
  | none :: s, d :: ds, v :: vs, S :: Ss => (S = [] ∧ Rep K g H d v) ∧ ArgsOk K g H s ds vs Ss
  | some k :: s, d :: ds, v :: vs, S :: Ss => Own K g H k d v S ∧ ArgsOk K g H s ds vs Ss
  | _, _, _, _ => False
/-- the changed parameters behind the call -/
def FinOk (K : PySem.W.Frag) (g : GF) (H : Hp) : List (Option Nat) → Env → List V → List (List Addr) → Prop
  | [], [], [], [] => True
  | none :: s, _ :: ds, v :: vs, S :: Ss => S = [] ∧ FinOk K g H s ds vs Ss
  | some k :: s, o :: ds, v :: vs, S :: Ss => (match o with
      | none => S = []
      | some d => Own K g H k d v S) ∧ FinOk K g H s ds vs Ss
  | _, _, _, _ => False
def OutC (r : CR) (P : D → Env → Prop) (E : D → Env → Prop) : Prop := match r with
  | .ok a e => P a e
  | .exc x e => E x e
  | .err => False
theorem OutC.imp {r : CR} {P P' E E' : D → Env → Prop} (h : OutC r P E) (hP : ∀ a e, r = .ok a e → P a e → P' a e) (hE : ∀ x e, E x e → E' x e) : OutC r P' E' := by
  cases r with
  | ok a e => exact hP a e rfl h
  | exc x e => exact hE x e h
  | err => exact h
/-- what a call of a function promises -/
def spF (K : PySem.W.Frag) (g : GF) (ec : EC) (sg : Sig) (call : List D → CR) : Sp := fun vs H Q E =>
  ∃ ds Ss, ArgsOk K g H sg.io ds vs Ss ∧ Ss.flatten.Nodup ∧ OutC (call ds)
    (fun d fin => ∀ v H' Ss' S, Step (fun a => a ∈ Ss.flatten) H H' → FinOk K g H' sg.io fin vs Ss' → Own K g H' sg.rk d v S → (Ss'.flatten ++ S).Nodup → (∀ a ∈ Ss'.flatten ++ S, a ∈ Ss.flatten ∨ H a = none) → Q v H')
    (fun x _ => ∀ cls dd H', Step (fun a => a ∈ Ss.flatten) H H' → ExR K g ec H' x cls dd → E cls dd H')
section
variable {K : PySem.W.Frag} {g : GF} {H H' : Hp}
theorem ArgsOk.len : ∀ {io : List (Option Nat)} {ds : List D} {vs : List V} {Ss : List (List Addr)}, ArgsOk K g H io ds vs Ss → vs.length = io.length ∧ ds.length = io.length ∧ Ss.length = io.length
  | [], [], [], [], _ => ⟨rfl, rfl, rfl⟩
  | none :: s, d :: ds, v :: vs, S :: Ss, h => by
    obtain ⟨h1, h2, h3⟩ := ArgsOk.len h.2
    simp [h1, h2, h3]
  | some k :: s, d :: ds, v :: vs, S :: Ss, h => by
    obtain ⟨h1, h2, h3⟩ := ArgsOk.len h.2
    simp [h1, h2, h3]
  | [], _ :: _, _, _, h => by simp [ArgsOk] at h
  | [], [], _ :: _, _, h => by simp [ArgsOk] at h
  | [], [], [], _ :: _, h => by simp [ArgsOk] at h
  | none :: _, [], _, _, h => by simp [ArgsOk] at h
  | none :: _, _ :: _, [], _, h => by simp [ArgsOk] at h
  | none :: _, _ :: _, _ :: _, [], h => by simp [ArgsOk] at h
  | some _ :: _, [], _, _, h => by simp [ArgsOk] at h
  | some _ :: _, _ :: _, [], _, h => by simp [ArgsOk] at h
  | some _ :: _, _ :: _, _ :: _, [], h => by simp [ArgsOk] at h
/-- the changed slots -/
def iosA : As → List Nat
  | .nil => []
  | .io i r => i :: iosA r
  | .val _ r => iosA r
/-- the written arguments are of the signature -/
def matchA (ω : List Nat) : As → List (Option Nat) → Bool
  | .nil, [] => true
  | .io i r, some k :: s => ω.getD i 0 == k && matchA ω r s
  | .val _ r, none :: s => matchA ω r s
  | _, _ => false
def footsA : As → List (List Addr) → List (List Addr)
  | .nil, _ => []
  | .io i r, f => (f[i]?).getD [] :: footsA r f
  | .val _ r, f => [] :: footsA r f
def ArgV (K : PySem.W.Frag) (g : GF) (H : Hp) (σ : L2.St) : As → List D → List V → Prop
  | .nil, [], [] => True
  | .io i r, ds, v :: vs => σ[i]? = some (some v) ∧ ArgV K g H σ r ds vs
  | .val _ r, d :: ds, v :: vs => Rep K g H d v ∧ ArgV K g H σ r ds vs
  | _, _, _ => False
theorem ArgV.stay (s : Stays H H') {σ : L2.St} : ∀ {as : As} {ds : List D} {vs : List V}, ArgV K g H σ as ds vs → ArgV K g H' σ as ds vs
  | .nil, [], [], _ => trivial
  | .io i r, ds, v :: vs, h => ⟨h.1, ArgV.stay s h.2⟩
  | .val _ r, d :: ds, v :: vs, h => ⟨h.1.stay s, ArgV.stay s h.2⟩
  | .nil, _ :: _, _, h => by simp [ArgV] at h
  | .nil, [], _ :: _, h => by simp [ArgV] at h
  | .io _ _, _, [], h => by simp [ArgV] at h
  | .val _ _, [], _, h => by simp [ArgV] at h
  | .val _ _, _ :: _, [], h => by simp [ArgV] at h
variable {ω lk : List Nat} {σ : L2.St} {env : Env} {foot : List (List Addr)}
theorem args_of (t : Sf K g ω σ H env foot) : ∀ {as : As} {io : List (Option Nat)} {ds ds' : List D} {vs : List V}, matchA ω as io = true → ArgV K g H σ as ds vs → gatherA as ds env = some ds' → ArgsOk K g H io ds' vs (footsA as foot)
  | .nil, [], [], ds', [], _, _, e => by cases e; trivial
  | .io i r, some k :: s, ds, ds', v :: vs, hm, h, e => by
    obtain ⟨h1, h2⟩ := Bool.and_eq_true_iff.mp hm
    obtain ⟨d, e1, e2⟩ := Option.bind_eq_some_iff.mp e
    obtain ⟨m, e3, e4⟩ := Option.bind_eq_some_iff.mp e2
    cases e4
    obtain ⟨v', S, hv, hS, o⟩ := t.slot i d (getV_some e1)
    rw [h.1] at hv; cases hv
    have hk : ω.getD i 0 = k := by simpa using h1
    rw [hk] at o
    refine ⟨?_, args_of t h2 h.2 e3⟩
    rw [hS]; exact o
  | .val _ r, none :: s, d :: ds, ds', v :: vs, hm, h, e => by
    obtain ⟨m, e3, e4⟩ := Option.bind_eq_some_iff.mp e
    cases e4
    exact ⟨⟨rfl, h.1⟩, args_of t hm h.2 e3⟩
  | .nil, _ :: _, _, _, _, hm, _, _ => by simp [matchA] at hm
  | .nil, [], _ :: _, _, _, _, h, _ => by simp [ArgV] at h
  | .nil, [], [], _, _ :: _, _, h, _ => by simp [ArgV] at h
  | .io _ _, [], _, _, _, hm, _, _ => by simp [matchA] at hm
  | .io _ _, none :: _, _, _, _, hm, _, _ => by simp [matchA] at hm
  | .io _ _, some _ :: _, _, _, [], _, h, _ => by simp [ArgV] at h
  | .val _ _, [], _, _, _, hm, _, _ => by simp [matchA] at hm
  | .val _ _, some _ :: _, _, _, _, hm, _, _ => by simp [matchA] at hm
  | .val _ _, none :: _, [], _, _, _, h, _ => by simp [ArgV] at h
  | .val _ _, none :: _, _ :: _, _, [], _, h, _ => by simp [ArgV] at h
theorem foots_mem : ∀ {as : As} {T : List Addr} {a : Addr}, T ∈ footsA as foot → a ∈ T → ∃ i ∈ iosA as, foot[i]? = some T
  | .nil, _, _, h, _ => by cases h
  | .io i r, T, a, h, ha => by
    rcases List.mem_cons.mp h with rfl | h
    · cases e : foot[i]? with
      | none => rw [e] at ha; cases ha
      | some S => exact ⟨i, List.mem_cons_self, by rw [e]; rfl⟩
    · obtain ⟨j, hj, e⟩ := foots_mem h ha
      exact ⟨j, List.mem_cons_of_mem _ hj, e⟩
  | .val _ r, T, a, h, ha => by
    rcases List.mem_cons.mp h with rfl | h
    · cases ha
    · exact foots_mem (as := r) h ha
theorem foots_nodup (nd : foot.flatten.Nodup) : ∀ {as : As}, (iosA as).Nodup → (footsA as foot).flatten.Nodup
  | .nil, _ => List.Pairwise.nil
  | .io i r, h => by
    obtain ⟨h1, h2⟩ := List.nodup_cons.mp h
    show ((foot[i]?).getD [] :: footsA r foot).flatten.Nodup
    rw [List.flatten_cons]
    refine List.nodup_append.mpr ⟨?_, foots_nodup nd h2, fun a ha b hb e => ?_⟩
    · cases e : foot[i]? with
      | none => exact List.Pairwise.nil
      | some S => exact (List.sublist_flatten_of_mem (List.mem_of_getElem? e)).nodup nd
    · subst e
      obtain ⟨T, hT, haT⟩ := List.mem_flatten.mp hb
      obtain ⟨j, hj, e2⟩ := foots_mem hT haT
      cases e : foot[i]? with
      | none => rw [e] at ha; cases ha
      | some S =>
        rw [e] at ha
        exact h1 (by rw [foot_disj nd e e2 ha haT]; exact hj)
  | .val _ r, h => by
    show ([] :: footsA r foot).flatten.Nodup
    rw [List.flatten_cons, List.nil_append]
    exact foots_nodup (as := r) nd h
/-! ### the changed slots die, the others are taken over, the changed ones come again -/
def dropF : As → List (List Addr) → List (List Addr)
  | .nil, f => f
  | .io i r, f => dropF r (f.set i [])
  | .val _ r, f => dropF r f
def putF : As → List (List Addr) → List (List Addr) → List (List Addr)
  | .io i r, S :: Ss, f => putF r Ss (f.set i S)
  | .val _ r, _ :: Ss, f => putF r Ss f
  | _, _, f => f
theorem Sf.kill (t : Sf K g ω σ H env foot) (i : Nat) : Sf K g ω σ H (env.set i none) (foot.set i []) := by
  refine ⟨by rw [List.length_set]; exact t.len, by rw [List.length_set, List.length_set]; exact t.lenF, fun j d ej => ?_, fun j ej => ?_, ?_⟩
  · by_cases hj : j = i
    · subst hj
      by_cases hl : j < env.length
      · rw [List.getElem?_set_self hl] at ej; cases ej
      · rw [List.getElem?_eq_none (by rw [List.length_set]; omega)] at ej; cases ej
    · rw [List.getElem?_set_ne (fun z => hj z.symm)] at ej
      obtain ⟨v, S, h1, h2, o⟩ := t.slot j d ej
      exact ⟨v, S, h1, by rw [List.getElem?_set_ne (fun z => hj z.symm)]; exact h2, o⟩
  · by_cases hj : j = i
    · subst hj
      have hl : j < env.length := by
        have := (List.getElem?_eq_some_iff.mp ej).1
        rw [List.length_set] at this; exact this
      exact List.getElem?_set_self (by rw [t.lenF]; exact hl)
    · rw [List.getElem?_set_ne (fun z => hj z.symm)] at ej ⊢
      exact t.dead j ej
  · cases e : foot[i]? with
    | none => rw [List.set_eq_of_length_le (List.getElem?_eq_none_iff.mp e)]; exact t.nd
    | some S => exact (flat_set e (List.nil_sublist _)).nodup t.nd
theorem Sf.kills : ∀ (as : As) {env : Env} {foot : List (List Addr)}, Sf K g ω σ H env foot → Sf K g ω σ H (dropA as env) (dropF as foot)
  | .nil, _, _, t => t
  | .io i r, _, _, t => Sf.kills r (t.kill i)
  | .val _ r, _, _, t => Sf.kills r t
theorem Sf.move (t : Sf K g ω σ H env foot) (st : Stays H H') (h : ∀ a ∈ foot.flatten, ∀ o, H a = some o → H' a = some o) : Sf K g ω σ H' env foot :=
  ⟨t.len, t.lenF, fun i d e => by
    obtain ⟨v, S, h1, h2, q⟩ := t.slot i d e
    exact ⟨v, S, h1, h2, q.stay st fun a ha u eu => h a (List.mem_flatten.mpr ⟨S, List.mem_of_getElem? h2, ha⟩) u eu⟩, t.dead, t.nd⟩
theorem nin_io {i j : Nat} {r : As} (h : j ∉ iosA (.io i r)) : j ≠ i ∧ j ∉ iosA r := ⟨fun z => h (by rw [z]; exact List.mem_cons_self), fun z => h (List.mem_cons_of_mem _ z)⟩
theorem dropF_get : ∀ (as : As) {f : List (List Addr)} {j : Nat}, (j ∈ iosA as → (dropF as f)[j]? = some [] ∨ (dropF as f)[j]? = none) ∧ (j ∉ iosA as → (dropF as f)[j]? = f[j]?)
  | .nil, f, j => ⟨fun h => absurd h (by simp [iosA]), fun _ => rfl⟩
  | .io i r, f, j => by
    obtain ⟨h1, h2⟩ := dropF_get r (f := f.set i []) (j := j)
    refine ⟨fun h => ?_, fun h => ?_⟩
    · by_cases hr : j ∈ iosA r
      · exact h1 hr
      · have e := h2 hr
        rcases List.mem_cons.mp h with rfl | h
        · show (dropF r (f.set j []))[j]? = _ ∨ _
          rw [show (dropF (.io j r) f)[j]? = (dropF r (f.set j []))[j]? from rfl, e]
          by_cases hl : j < f.length
          · exact .inl (List.getElem?_set_self hl)
          · exact .inr (List.getElem?_eq_none (by rw [List.length_set]; omega))
        · exact absurd h hr
    · have h := nin_io h
      rw [show (dropF (.io i r) f)[j]? = (dropF r (f.set i []))[j]? from rfl, h2 h.2, List.getElem?_set_ne (fun z => h.1 z.symm)]
  | .val _ r, f, j => dropF_get r
theorem dropA_get : ∀ (as : As) {e : Env} {j : Nat}, j ∉ iosA as → (dropA as e)[j]? = e[j]?
  | .nil, e, j, _ => rfl
  | .io i r, e, j, h => by
    have h := nin_io h
    rw [show (dropA (.io i r) e)[j]? = (dropA r (e.set i none))[j]? from rfl, dropA_get r h.2, List.getElem?_set_ne (fun z => h.1 z.symm)]
  | .val _ r, e, j, h => dropA_get r h
theorem dropA_len : ∀ (as : As) (e : Env), (dropA as e).length = e.length
  | .nil, e => rfl
  | .io i r, e => by rw [show dropA (.io i r) e = dropA r (e.set i none) from rfl, dropA_len r, List.length_set]
  | .val _ r, e => dropA_len r e
theorem putA_get : ∀ (as : As) {fin e : Env} {j : Nat}, j ∉ iosA as → (putA as fin e)[j]? = e[j]?
  | .nil, fin, e, j, _ => by cases fin <;> rfl
  | .io i r, [], e, j, h => rfl
  | .io i r, f :: fin, e, j, h => by
    have h := nin_io h
    rw [show putA (.io i r) (f :: fin) e = putA r fin (e.set i f) from rfl, putA_get r h.2, List.getElem?_set_ne (fun z => h.1 z.symm)]
  | .val _ r, [], e, j, h => rfl
  | .val _ r, f :: fin, e, j, h => putA_get r h
theorem putA_len : ∀ (as : As) (fin e : Env), (putA as fin e).length = e.length
  | .nil, fin, e => by cases fin <;> rfl
  | .io i r, [], e => rfl
  | .io i r, f :: fin, e => by rw [show putA (.io i r) (f :: fin) e = putA r fin (e.set i f) from rfl, putA_len r, List.length_set]
  | .val _ r, [], e => rfl
  | .val _ r, f :: fin, e => putA_len r fin e
theorem putF_get : ∀ (as : As) {Ss f : List (List Addr)} {j : Nat}, (j ∉ iosA as → (putF as Ss f)[j]? = f[j]?) ∧ ∀ T, (putF as Ss f)[j]? = some T → T ∈ Ss ∨ f[j]? = some T
  | .nil, Ss, f, j => by cases Ss <;> exact ⟨fun _ => rfl, fun T h => .inr h⟩
  | .io i r, [], f, j => ⟨fun _ => rfl, fun T h => .inr h⟩
  | .io i r, S :: Ss, f, j => by
    obtain ⟨h1, h2⟩ := putF_get r (Ss := Ss) (f := f.set i S) (j := j)
    have e : putF (.io i r) (S :: Ss) f = putF r Ss (f.set i S) := rfl
    refine ⟨fun h => ?_, fun T hT => ?_⟩
    · have h := nin_io h
      rw [e, h1 h.2, List.getElem?_set_ne (fun z => h.1 z.symm)]
    · rw [e] at hT
      rcases h2 T hT with q | q
      · exact .inl (List.mem_cons_of_mem _ q)
      · by_cases hj : j = i
        · subst hj
          by_cases hl : j < f.length
          · rw [List.getElem?_set_self hl] at q
            cases q
            exact .inl List.mem_cons_self
          · rw [List.getElem?_eq_none (by rw [List.length_set]; omega)] at q; cases q
        · rw [List.getElem?_set_ne (fun z => hj z.symm)] at q
          exact .inr q
  | .val _ r, [], f, j => ⟨fun _ => rfl, fun T h => .inr h⟩
  | .val _ r, S :: Ss, f, j => by
    obtain ⟨h1, h2⟩ := putF_get r (Ss := Ss) (f := f) (j := j)
    exact ⟨h1, fun T hT => (h2 T hT).imp (List.mem_cons_of_mem _) id⟩
theorem revive : ∀ {as : As} {io : List (Option Nat)} {fin : Env} {ds : List D} {vs : List V} {Ss : List (List Addr)} {env : Env} {foot : List (List Addr)}, Sf K g ω σ H env foot → matchA ω as io = true → ArgV K g H' σ as ds vs → FinOk K g H io fin vs Ss → Ss.flatten.Nodup → (∀ a ∈ Ss.flatten, a ∉ foot.flatten) →
    (∀ i ∈ iosA as, foot[i]? = some [] ∨ foot[i]? = none) → (iosA as).Nodup → Sf K g ω σ H (putA as fin env) (putF as Ss foot)
  | .nil, _, fin, _, _, Ss, _, _, t, _, _, _, _, _, _, _ => by cases fin <;> cases Ss <;> exact t
  | .io i r, some k :: s, o :: fin, ds, v :: vs, S :: Ss, env, foot, t, hm, hv, hf, nd, hd, hi, hn => by
    obtain ⟨h1, h2⟩ := Bool.and_eq_true_iff.mp hm
    have hk : ω.getD i 0 = k := by simpa using h1
    obtain ⟨n1, n2⟩ := List.nodup_cons.mp hn
    rw [List.flatten_cons] at nd
    obtain ⟨m1, m2, m3⟩ := List.nodup_append.mp nd
    have hdS : ∀ a ∈ S, a ∉ foot.flatten := fun a ha => hd a (by rw [List.flatten_cons]; exact List.mem_append_left _ ha)
    have one : Sf K g ω σ H (env.set i o) (foot.set i S) := by
      cases o with
      | none => rw [show S = [] from hf.1]; exact t.kill i
      | some d =>
        rcases hi i List.mem_cons_self with e | e
        · exact t.put e Stays.refl (fun _ _ _ => rfl) (fun a ha => .inr (hdS a ha)) m1 hv.1 (fun _ _ => rfl) rfl (fun _ _ => rfl) (by rw [hk]; exact hf.1)
        · have l1 := List.getElem?_eq_none_iff.mp e
          rw [List.set_eq_of_length_le (by rw [← t.lenF]; exact l1), List.set_eq_of_length_le l1]
          exact t
    refine revive (as := r) one h2 hv.2 hf.2 m2 (fun a ha z => ?_) (fun j hj => ?_) n2
    · obtain ⟨T, hT, haT⟩ := List.mem_flatten.mp z
      rcases List.mem_or_eq_of_mem_set hT with hT | rfl
      · exact hd a (by rw [List.flatten_cons]; exact List.mem_append_right _ ha) (List.mem_flatten.mpr ⟨T, hT, haT⟩)
      · exact m3 a haT a ha rfl
    · have hji : i ≠ j := fun z => n1 (by rw [z]; exact hj)
      rw [List.getElem?_set_ne hji]
      exact hi j (List.mem_cons_of_mem _ hj)
  | .val _ r, none :: s, o :: fin, d :: ds, v :: vs, S :: Ss, env, foot, t, hm, hv, hf, nd, hd, hi, hn => by
    have e : S = [] := hf.1
    subst e
    exact revive (as := r) t hm hv.2 hf.2 (by simpa using nd) (fun a ha => hd a (by simpa using ha)) hi hn
  | .io _ _, [], _, _, _, _, _, _, _, hm, _, _, _, _, _, _ => by simp [matchA] at hm
  | .io _ _, none :: _, _, _, _, _, _, _, _, hm, _, _, _, _, _, _ => by simp [matchA] at hm
  | .val _ _, [], _, _, _, _, _, _, _, hm, _, _, _, _, _, _ => by simp [matchA] at hm
  | .val _ _, some _ :: _, _, _, _, _, _, _, _, hm, _, _, _, _, _, _ => by simp [matchA] at hm
  | .io _ _, some _ :: _, [], _, _, _, _, _, _, _, _, hf, _, _, _, _ => by simp [FinOk] at hf
  | .io _ _, some _ :: _, _ :: _, _, [], _, _, _, _, _, hv, _, _, _, _, _ => by simp [ArgV] at hv
  | .io _ _, some _ :: _, _ :: _, _, _ :: _, [], _, _, _, _, _, hf, _, _, _, _ => by simp [FinOk] at hf
  | .val _ _, none :: _, [], _, _, _, _, _, _, _, _, hf, _, _, _, _ => by simp [FinOk] at hf
  | .val _ _, none :: _, _ :: _, [], _, _, _, _, _, _, hv, _, _, _, _, _ => by simp [ArgV] at hv
  | .val _ _, none :: _, _ :: _, _ :: _, [], _, _, _, _, _, hv, _, _, _, _, _ => by simp [ArgV] at hv
  | .val _ _, none :: _, _ :: _, _ :: _, _ :: _, [], _, _, _, _, _, hf, _, _, _, _ => by simp [FinOk] at hf
end
end VK
set_option Elab.async false
set_option linter.all false
set_option maxHeartbeats 1000000
/-! calls of own functions, 2 -/
namespace VK
open PySem PySem.Spec PyProof.Rows L2
section
variable {X : Cx} {g : GF} {ec : EC} {W : WX} {e a b c : Expr} {es : List Expr} {lk lk1 lk2 lk3 ω ω' ω1 ω2 ω3 : List Nat} {i k m n : Nat} {base : Option Nat} {f fa fb fc : Env → R D} {x : Str} {p pos apos cpos : Pos} {fs : Env → R (List D)} {as : As}
def PvA (K : PySem.W.Frag) (g : GF) (ω' : List Nat) (as : As) (lk : List Nat) (σ : L2.St) (H : Hp) (foot : List (List Addr)) (env : Env) (ds : List D) (env' : Env) (vs : List V) (H' : Hp) : Prop :=
  ∃ foot', Sf K g ω' σ H' env' foot' ∧ Chg lk foot env H foot' env' H' ∧ ArgV K g H' σ as ds vs
variable (X g ec W) in
structure RA (es : List Expr) (lk ω ω' : List Nat) (as : As) (fs : Env → R (List D)) : Prop where
  pa : PA X es (tG X.K g ec W (PvA X.K g ω' as) lk ω fs)
  kp : Kp lk ω ω'
theorem ra_nil : RA X g ec W [] lk ω ω .nil nilR := by
  refine ⟨pa_imp pa_nil fun σ H Q ⟨env, foot, sf, q⟩ => ?_, Kp.refl⟩
  have q : ∀ vs H', PvA X.K g ω .nil lk σ H foot env [] env vs H' → Q vs H' := q
  exact q [] H ⟨foot, sf, Chg.refl, trivial⟩
theorem ra_val {E0 : E} (na : ∀ z p, a ≠ .Starred z p) (ha : RV X g ec W a lk ω ω1 fa) (hr : RA X g ec W es lk ω1 ω2 as fs) : RA X g ec W (a :: es) lk ω ω2 (.val E0 as) (consR fa fs) := by
  have s0 : ∀ i ∈ lk, i ∈ lk := fun _ h => h
  refine ⟨pa_imp (pa_cons ha.pe hr.pa (star_cons na _)) fun σ H Q ⟨env, foot, sf, q⟩ => ⟨env, foot, sf, (Out.bind.mp q).imp (fun d1 env1 _ q v1 H1 p1 => ?_) fun _ _ h => h⟩, ha.kp.trans hr.kp s0⟩
  obtain ⟨f1, sf1, c1, r1⟩ := p1
  refine ⟨env1, f1, sf1, (Out.bind.mp q).imp (fun ds env2 _ q vs H2 p2 => ?_) fun x e2 h cls dd H2 p => h cls dd H2 (p.over c1 ha.kp s0)⟩
  obtain ⟨f2, sf2, c2, r2⟩ := p2
  exact q (v1 :: vs) H2 ⟨f2, sf2, c1.trans' c2 s0, r1.over sf1 c2, r2⟩
def ioR (i : Nat) (fs : Env → R (List D)) (env : Env) : R (List D) := match getV i env with
  | some _ => fs env
  | none => .err
theorem ra_io (hp : PE X (.Name x p) (tVar i)) (hr : RA X g ec W es lk ω ω1 as fs) : RA X g ec W (.Name x p :: es) lk ω ω1 (.io i as) (ioR i fs) := by
  refine ⟨pa_imp (pa_cons hp hr.pa) fun σ H Q ⟨env, foot, sf, q⟩ => ?_, hr.kp⟩
  unfold ioR at q
  cases hd : getV i env with
  | none => rw [hd] at q; exact q.elim
  | some d =>
    rw [hd] at q
    obtain ⟨v, S, hv, _, _⟩ := sf.slot i d (getV_some hd)
    refine ⟨v, hv, env, foot, sf, Out.imp q (fun ds env2 _ q vs H2 p2 => ?_) fun x e2 h => h⟩
    obtain ⟨f2, sf2, c2, r2⟩ := p2
    exact q (v :: vs) H2 ⟨f2, sf2, c2, hv, r2⟩
/-- the call itself -/
theorem call_post {T : Tab} {sg : Sig} {j : Nat} {Q : VK} {σ : L2.St} {H H1 : Hp} {foot f1 : List (List Addr)} {env env1 : Env} {ds : List D} {vs : List V} (sf1 : Sf X.K g ω1 σ H1 env1 f1) (c1 : Chg lk foot env H f1 env1 H1) (kp : Kp lk ω ω1) (av : ArgV X.K g H1 σ as ds vs)
    (hm : matchA ω1 as sg.io = true) (hn : (iosA as).Nodup) (hlk : ∀ i ∈ iosA as, i ∉ lk)
    (q : Out (callR T j as ds env1) (fun d env' => ∀ v H', PvP X.K g ω1 sg.rk none lk σ H foot env d env' v H' → Q v H') (fun x env' => ∀ cls dd H', PX X.K g ec lk ω σ H foot env x env' cls dd H' → W cls dd σ H')) :
    spF X.K g ec sg (T.call j) vs H1 Q (WE W σ) := by
  unfold callR at q
  cases hg : gatherA as ds env1 with
  | none => rw [hg] at q; exact q.elim
  | some ds' =>
    rw [hg] at q
    dsimp only at q
    have ao := args_of sf1 hm av hg
    have nd := foots_nodup (as := as) sf1.nd hn
    have inF : ∀ a ∈ (footsA as f1).flatten, ∃ i ∈ iosA as, ∃ S, f1[i]? = some S ∧ a ∈ S := fun a ha => by
      obtain ⟨T, hT, haT⟩ := List.mem_flatten.mp ha
      obtain ⟨i, hi, e⟩ := foots_mem hT haT
      exact ⟨i, hi, T, e, haT⟩
    have avF : ∀ a ∈ (footsA as f1).flatten, Av lk f1 a := fun a ha => by
      obtain ⟨i, hi, S, e, haS⟩ := inF a ha
      exact ⟨i, S, hlk i hi, e, haS⟩
    have dropOut : ∀ a ∈ (dropF as f1).flatten, a ∉ (footsA as f1).flatten := fun a ha z => by
      obtain ⟨U, hU, haU⟩ := List.mem_flatten.mp ha
      obtain ⟨j, hj⟩ := List.getElem?_of_mem hU
      by_cases hji : j ∈ iosA as
      · rcases (dropF_get as (f := f1)).1 hji with e | e
        · rw [e] at hj; cases hj; cases haU
        · rw [e] at hj; cases hj
      · rw [(dropF_get as).2 hji] at hj
        obtain ⟨i, hi, S, e, haS⟩ := inF a z
        exact hji (by rw [foot_disj sf1.nd hj e haU haS]; exact hi)
    have dropIn : ∀ a ∈ (dropF as f1).flatten, a ∈ f1.flatten := fun a ha => by
      obtain ⟨U, hU, haU⟩ := List.mem_flatten.mp ha
      obtain ⟨j, hj⟩ := List.getElem?_of_mem hU
      by_cases hji : j ∈ iosA as
      · rcases (dropF_get as (f := f1)).1 hji with e | e
        · rw [e] at hj; cases hj; cases haU
        · rw [e] at hj; cases hj
      · rw [(dropF_get as).2 hji] at hj
        exact List.mem_flatten.mpr ⟨U, List.mem_of_getElem? hj, haU⟩
    have moved : ∀ {H' : Hp}, Step (fun a => a ∈ (footsA as f1).flatten) H1 H' → Stays H1 H' ∧ Sf X.K g ω1 σ H' (dropA as env1) (dropF as f1) := fun {H'} st => by
      have sty : Stays H1 H' := st.stays fun a ha => sf1.mut a (avF a ha).mem
      exact ⟨sty, (sf1.kills as).move sty fun a ha o eo => st.keep a o eo (dropOut a ha)⟩
    have dropAv : ∀ {j : Nat} {U : List Addr}, (dropF as f1)[j]? = some U → ∀ a ∈ U, f1[j]? = some U := fun {j U} hU a ha => by
      by_cases hji : j ∈ iosA as
      · rcases (dropF_get as (f := f1)).1 hji with e | e
        · rw [e] at hU; cases hU; cases ha
        · rw [e] at hU; cases hU
      · rw [(dropF_get as).2 hji] at hU; exact hU
    refine ⟨ds', footsA as f1, ao, nd, ?_⟩
    cases hc : T.call j ds' with
    | err => rw [hc] at q; exact q.elim
    | exc x0 fin =>
      rw [hc] at q
      have q : ∀ cls dd H', PX X.K g ec lk ω σ H foot env x0 (dropA as env1) cls dd H' → W cls dd σ H' := q
      intro cls dd H' st ex
      obtain ⟨sty, t⟩ := moved st
      refine q cls dd H' ⟨ω1, dropF as f1, kp, t, ⟨c1.step.trans (st.mono avF) fun a h => c1.own a h, fun a ha => ?_, fun i hi => ?_, by rw [dropA_len]; exact c1.len⟩, ex⟩
      · obtain ⟨j, U, nj, hU, haU⟩ := ha
        exact c1.own a ⟨j, U, nj, dropAv hU a haU, haU⟩
      · have ni : i ∉ iosA as := fun z => hlk i z hi
        rw [(dropF_get as).2 ni, dropA_get as ni]
        exact c1.lkd i hi
    | ok d0 fin =>
      rw [hc] at q
      have q : ∀ v H', PvP X.K g ω1 sg.rk none lk σ H foot env d0 (putA as fin (dropA as env1)) v H' → Q v H' := q
      intro v H' Ss' S st fo ow nd' sub
      obtain ⟨sty, t⟩ := moved st
      rw [List.nodup_append] at nd'
      obtain ⟨n1, n2, n3⟩ := nd'
      have fresh : ∀ a ∈ Ss'.flatten ++ S, a ∉ (dropF as f1).flatten := fun a ha z => by
        rcases sub a ha with q | q
        · exact dropOut a z q
        · obtain ⟨o, eo, _⟩ := sf1.mut a (dropIn a z)
          rw [eo] at q; cases q
      have t2 := revive (H' := H1) (as := as) (fin := fin) t hm av fo n1 (fun a ha => fresh a (List.mem_append_left _ ha)) (fun i hi => (dropF_get as).1 hi) hn
      have orig : ∀ a ∈ Ss'.flatten ++ S, Av lk foot a ∨ H a = none := fun a ha => by
        rcases sub a ha with q | q
        · exact c1.own a (avF a q)
        · exact .inr (c1.none_of q)
      refine q v H' ⟨putF as Ss' (dropF as f1), t2, ⟨c1.step.trans (st.mono avF) fun a h => c1.own a h, fun a ha => ?_, fun i hi => ?_, by rw [putA_len, dropA_len]; exact c1.len⟩, S, ow, n2, fun a ha z => ?_, fun a ha => orig a (List.mem_append_right _ ha)⟩
      · obtain ⟨j, U, nj, hU, haU⟩ := ha
        rcases (putF_get as).2 U hU with q | q
        · exact orig a (List.mem_append_left _ (List.mem_flatten.mpr ⟨U, q, haU⟩))
        · exact c1.own a ⟨j, U, nj, dropAv q a haU, haU⟩
      · have ni : i ∉ iosA as := fun z => hlk i z hi
        rw [(putF_get as).1 ni, (dropF_get as).2 ni, putA_get as ni, dropA_get as ni]
        exact c1.lkd i hi
      · obtain ⟨U, hU, haU⟩ := List.mem_flatten.mp z
        obtain ⟨j, hj⟩ := List.getElem?_of_mem hU
        rcases (putF_get as).2 U hj with q | q
        · exact n3 a (List.mem_flatten.mpr ⟨U, q, haU⟩) a ha rfl
        · exact fresh a (List.mem_append_right _ ha) (List.mem_flatten.mpr ⟨U, List.mem_of_getElem? q, haU⟩)
/-- what is known of a function of the program -/
structure FnI (X : Cx) (g : GF) (ec : EC) (T : Tab) (k : Nat) (sg : Sig) (j : Nat) (u : Addr) : Prop where
  ok : ∃ fd ps, FnOk X.prog X.w X.K X.mg X.base (L2.CX X.prog X.w) k u fd ps (spF X.K g ec sg (T.call j)) ∧ Binds X.K fd ps []
  kp : PySem.W.keepIn X.K (.ref u) = true
theorem pe_callS0 {CX : CXT} {fd : FuncData} {ps : List Str} {sp : Sp} {E : L2.St → XK} {u : Addr} (F : FnOk X.prog X.w X.K X.mg X.base CX k u fd ps sp) (hr : Room k X.A) (hg : Gl X x) (hm : X.mg x = some (.ref u)) (hk : PySem.W.keepIn X.K (.ref u) = true) (hb : Binds X.K fd ps []) (hx : ∀ σ, PassesAt CX X σ (E σ))
    (hdb : (x == ("__debug__" : Str)) = false) : PE X (.Call (.Name x p) [] [] pos) (tCallS sp E tNil) := by
  refine ⟨fun pins s σ H Q I h => ?_⟩
  refine wpAny_Call_Name_kw (ld_glob I hg hm ?_ hdb)
  exact PySem.W.callWith_K0 I.kIn hk (run_fnS (us := []) F hr hb (hx σ) I .nil h)
def noStar : List Expr → Bool
  | [] => true
  | .Starred _ _ :: _ => false
  | _ :: r => noStar r
theorem back_many : ∀ {es : List Expr}, noStar es = true → ∀ (pos : Pos) (env : PySem.Env), (backTo pos (starEach es env)).any (·.1) = false
  | [], _, _, _ => rfl
  | a :: es, h, pos, env => by
    have na : ∀ z p, a ≠ .Starred z p := fun z p e => by subst e; cases h
    have hr : noStar es = true := by cases a <;> first | exact h | cases h
    rw [star_cons na]
    exact back_many hr pos env
theorem rp_call {T : Tab} {sg : Sig} {j : Nat} {u : Addr} (tk : Takes X W) (hr : Room k X.A) (F : FnI X g ec T k sg j u) (hg : Gl X x) (hm : X.mg x = some (.ref u)) (hdb : (x == ("__debug__" : Str)) = false) (hst : noStar (a :: es) = true) (ha : RA X g ec W (a :: es) lk ω ω1 as fs)
    (hma : matchA ω1 as sg.io = true) (hn : (iosA as).Nodup) (hlk : ∀ i ∈ iosA as, i ∉ lk) :
    RP X g ec W (.Call (.Name x p) (a :: es) [] pos) lk ω ω1 sg.rk none (fun env => (fs env).bind fun ds e1 => callR T j as ds e1) := by
  obtain ⟨⟨fd, ps, hF, hB⟩, hK⟩ := F
  refine ⟨?_, ha.kp⟩
  have na : ∀ z p, a ≠ .Starred z p := fun z p e => by subst e; cases hst
  have hrs : noStar es = true := by cases a <;> first | exact hst | cases hst
  refine pe_imp (pe_callS hF hr hg hm hK hB (passAt tk) ha.pa hdb (star_cons na _) (back_many hrs _ _)) fun σ H Q ⟨env, foot, sf, q⟩ => ?_
  refine ⟨env, foot, sf, (Out.bind.mp q).imp (fun ds env1 _ q vs H1 p1 => ?_) fun _ _ h => h⟩
  obtain ⟨f1, sf1, c1, av⟩ := p1
  exact call_post sf1 c1 ha.kp av hma hn hlk q
theorem rp_call0 {T : Tab} {sg : Sig} {j : Nat} {u : Addr} (tk : Takes X W) (hr : Room k X.A) (F : FnI X g ec T k sg j u) (hg : Gl X x) (hm : X.mg x = some (.ref u)) (hdb : (x == ("__debug__" : Str)) = false) (hma : matchA ω .nil sg.io = true) :
    RP X g ec W (.Call (.Name x p) [] [] pos) lk ω ω sg.rk none (fun env => (nilR env).bind fun ds e1 => callR T j .nil ds e1) := by
  obtain ⟨⟨fd, ps, hF, hB⟩, hK⟩ := F
  refine ⟨pe_imp (pe_callS0 (E := WE W) hF hr hg hm hK hB (passAt tk) hdb) fun σ H Q ⟨env, foot, sf, q⟩ => ?_, Kp.refl⟩
  exact call_post sf Chg.refl Kp.refl (show ArgV X.K g H σ .nil [] [] from trivial) hma List.Pairwise.nil (fun i hi => absurd hi (by simp [iosA])) q
end
end VK
set_option Elab.async false
set_option linter.all false
set_option maxHeartbeats 1000000
/-! statements -/
namespace VK
open PySem PySem.Spec PyProof.Rows L2
def OutF (r : Fl) (nx bk ct : Env → Prop) (rt : D → Env → Prop) (E : D → Env → Prop) : Prop := match r with
  | .nx e => nx e | .ret d e => rt d e | .brk e => bk e | .cnt e => ct e | .exc x e => E x e | .err => False
theorem OutF.imp {r : Fl} {nx bk ct nx' bk' ct' : Env → Prop} {rt E rt' E' : D → Env → Prop} (h : OutF r nx bk ct rt E) (h1 : ∀ e, nx e → nx' e) (h2 : ∀ e, bk e → bk' e) (h3 : ∀ e, ct e → ct' e) (h4 : ∀ d e, rt d e → rt' d e) (h5 : ∀ d e, E d e → E' d e) : OutF r nx' bk' ct' rt' E' := by
  cases r with
  | nx e => exact h1 e h
  | ret d e => exact h4 d e h
  | brk e => exact h2 e h
  | cnt e => exact h3 e h
  | exc x e => exact h5 x e h
  | err => exact h
theorem OutF.ofR {α : Type} {r : R α} {f : α → Env → Fl} {nx bk ct : Env → Prop} {rt E : D → Env → Prop} (h : OutF (ofR r f) nx bk ct rt E) : Out r (fun a e => OutF (f a e) nx bk ct rt E) E := by
  cases r <;> exact h
theorem OutF.next {r : Fl} {g : Env → Fl} {nx bk ct : Env → Prop} {rt E : D → Env → Prop} (h : OutF (r.next g) nx bk ct rt E) : OutF r (fun e => OutF (g e) nx bk ct rt E) bk ct rt E := by
  cases r <;> exact h
section
variable (K : PySem.W.Frag) (g : GF) (ec : EC) (W : WX)
/-- what does not change of a def: the slots of its changed parameters, their depths, the depth of its answer, the depths at a loop's turn -/
structure Pn where
  pin : List Nat
  ωr : List Nat
  rk : Nat
  ωL : List Nat
def PvS (P : Pn) (ω' lk : List Nat) (σ : L2.St) (H : Hp) (foot : List (List Addr)) (env : Env) (env' : Env) (σ' : L2.St) (H' : Hp) : Prop :=
  ∃ foot', Sf K g ω' σ' H' env' foot' ∧ Chg lk foot env H foot' env' H' ∧ (∀ i ∈ lk, σ'[i]? = σ[i]?) ∧ ∀ i ∈ P.pin, σ'[i]? = σ[i]?
def PvRet (P : Pn) (lk : List Nat) (σ : L2.St) (H : Hp) (foot : List (List Addr)) (env : Env) (d : D) (env' : Env) (v : V) (H' : Hp) : Prop :=
  ∃ ω' foot' σ', Sf K g ω' σ' H' env' foot' ∧ Chg lk foot env H foot' env' H' ∧ (∀ i ∈ P.pin, σ'[i]? = σ[i]? ∧ ω'.getD i 0 = P.ωr.getD i 0) ∧
    ∃ S, Own K g H' P.rk d v S ∧ S.Nodup ∧ (∀ a ∈ S, ∀ i ∈ P.pin, ∀ T, foot'[i]? = some T → a ∉ T) ∧ ∀ a ∈ S, Av lk foot a ∨ H a = none
def PXS (P : Pn) (lk ω : List Nat) (σ : L2.St) (H : Hp) (foot : List (List Addr)) (env : Env) (x : D) (env' : Env) (cls : Value) (dd : Option Addr) (σ' : L2.St) (H' : Hp) : Prop :=
  ∃ ω' foot', (∀ i ∈ lk, ω'.getD i 0 = ω.getD i 0) ∧ Sf K g ω' σ' H' env' foot' ∧ Chg lk foot env H foot' env' H' ∧ (∀ i ∈ lk, σ'[i]? = σ[i]?) ∧ (∀ i ∈ P.pin, σ'[i]? = σ[i]?) ∧ ExR K g ec H' x cls dd
def tS (P : Pn) (lk ω ω' : List Nat) (f : Env → Fl) : TS := fun D σ H => ∃ env foot, Sf K g ω σ H env foot ∧ OutF (f env)
  (fun env' => ∀ σ' H', PvS K g P ω' lk σ H foot env env' σ' H' → D.nx σ' H')
  (fun env' => ∀ σ' H', PvS K g P P.ωL lk σ H foot env env' σ' H' → D.bk σ' H')
  (fun env' => ∀ σ' H', PvS K g P P.ωL lk σ H foot env env' σ' H' → D.ct σ' H')
  (fun d env' => ∀ v H', PvRet K g P lk σ H foot env d env' v H' → D.rt v H')
  (fun x env' => ∀ cls dd σ' H', PXS K g ec P lk ω σ H foot env x env' cls dd σ' H' → W cls dd σ' H')
end
section
variable (X : Cx) (g : GF) (ec : EC) (W : WX)
structure RS (P : Pn) (st : Stmt) (lk ω ω' : List Nat) (f : Env → Fl) : Prop where
  ps : PS X st (tS X.K g ec W P lk ω ω' f)
  kp : Kp lk ω ω'
structure RSs (P : Pn) (ss : List Stmt) (lk ω ω' : List Nat) (f : Env → Fl) : Prop where
  ps : PSs X ss (tS X.K g ec W P lk ω ω' f)
  kp : Kp lk ω ω'
end
section
variable {X : Cx} {g : GF} {ec : EC} {W : WX} {P : Pn} {e a b c : Expr} {st : Stmt} {ss : List Stmt} {lk lk1 lk2 lk3 ω ω' ω1 ω2 ω3 : List Nat} {i k m n : Nat} {base : Option Nat} {fa fb fc : Env → R D} {f f1 f2 : Env → Fl} {x : Str} {p pos apos cpos : Pos}
theorem ps_imp {t t' : TS} (h : PS X st t) (i : ∀ D σ H, t' D σ H → t D σ H) : PS X st t' := ⟨fun pins s σ H D I q => h.run pins s σ H D I (i D σ H q)⟩
theorem pss_imp {t t' : TS} (h : PSs X ss t) (i : ∀ D σ H, t' D σ H → t D σ H) : PSs X ss t' := ⟨fun pins s σ H D I q => h.run pins s σ H D I (i D σ H q)⟩
/-- the state behind a statement is told anew -/
def ghostE (X : Cx) (D : Ends) : Ends where
  nx := fun σ H => ∀ pins s, Inv X pins σ H s → ∃ H2, Inv X pins σ H2 s ∧ D.nx σ H2
  rt := D.rt
  bk := fun σ H => ∀ pins s, Inv X pins σ H s → ∃ H2, Inv X pins σ H2 s ∧ D.bk σ H2
  ct := fun σ H => ∀ pins s, Inv X pins σ H s → ∃ H2, Inv X pins σ H2 s ∧ D.ct σ H2
theorem SP_ghost {pins : List (Addr × Obj)} {D : Ends} {f : Flow} {s' : Shared} (h : SP X pins (ghostE X D) f s') : SP X pins D f s' := by
  cases f with
  | next => obtain ⟨σ', H', I, q⟩ := h; obtain ⟨H2, I2, q2⟩ := q pins s' I; exact ⟨σ', H2, I2, q2⟩
  | brk => obtain ⟨σ', H', I, q⟩ := h; obtain ⟨H2, I2, q2⟩ := q pins s' I; exact ⟨σ', H2, I2, q2⟩
  | cont => obtain ⟨σ', H', I, q⟩ := h; obtain ⟨H2, I2, q2⟩ := q pins s' I; exact ⟨σ', H2, I2, q2⟩
  | ret u => exact h
theorem ps_ghost {t t' : TS} (h : PS X st t) (i : ∀ D σ H, t' D σ H → t (ghostE X D) σ H) : PS X st t' := ⟨fun pins s σ H D I q => thn (h.run pins s σ H _ I (i D σ H q)) fun _ _ z => SP_ghost z⟩
theorem pss_ghost {t t' : TS} (h : PSs X ss t) (i : ∀ D σ H, t' D σ H → t (ghostE X D) σ H) : PSs X ss t' := ⟨fun pins s σ H D I q => thn (h.run pins s σ H _ I (i D σ H q)) fun _ _ z => SP_ghost z⟩
theorem PvS.low {K : PySem.W.Frag} {σ σ' : L2.St} {H H' : Hp} {foot : List (List Addr)} {env env' : Env} {pins : List (Addr × Obj)} {s : Shared} (hK : K = X.K) (h : PvS K g P ω1 lk σ H foot env env' σ' H') (hle : ∀ i, ω2.getD i 0 ≤ ω1.getD i 0) (hlk : Kp lk ω1 ω2) (I : Inv X pins σ' H' s) :
    ∃ H2, Inv X pins σ' H2 s ∧ PvS K g P ω2 lk σ H foot env env' σ' H2 := by
  subst hK
  obtain ⟨f', sf, c, h1, h2⟩ := h
  obtain ⟨H2, f2, I2, sf2, c2, st, _⟩ := Sf.lower (g := g) I sf hle hlk
  exact ⟨H2, I2, f2, sf2, c.trans' c2 fun _ h => h, h1, h2⟩
/-- less depths behind -/
theorem RS.low (h : RS X g ec W P st lk ω ω1 f) (hle : ∀ i, ω2.getD i 0 ≤ ω1.getD i 0) (hlk : Kp lk ω1 ω2) : RS X g ec W P st lk ω ω2 f := by
  refine ⟨ps_ghost h.ps fun D σ H ⟨env, foot, sf, q⟩ => ⟨env, foot, sf, q.imp (fun env' q σ' H' p pins s I => ?_) (fun env' q σ' H' p pins s I => ⟨H', I, q σ' H' p⟩) (fun env' q σ' H' p pins s I => ⟨H', I, q σ' H' p⟩) (fun _ _ h => h) fun _ _ h => h⟩, h.kp.trans hlk fun _ h => h⟩
  obtain ⟨H2, I2, p2⟩ := PvS.low rfl p hle hlk I
  exact ⟨H2, I2, q σ' H2 p2⟩
theorem RSs.low (h : RSs X g ec W P ss lk ω ω1 f) (hle : ∀ i, ω2.getD i 0 ≤ ω1.getD i 0) (hlk : Kp lk ω1 ω2) : RSs X g ec W P ss lk ω ω2 f := by
  refine ⟨pss_ghost h.ps fun D σ H ⟨env, foot, sf, q⟩ => ⟨env, foot, sf, q.imp (fun env' q σ' H' p pins s I => ?_) (fun env' q σ' H' p pins s I => ⟨H', I, q σ' H' p⟩) (fun env' q σ' H' p pins s I => ⟨H', I, q σ' H' p⟩) (fun _ _ h => h) fun _ _ h => h⟩, h.kp.trans hlk fun _ h => h⟩
  obtain ⟨H2, I2, p2⟩ := PvS.low rfl p hle hlk I
  exact ⟨H2, I2, q σ' H2 p2⟩
theorem PvS.refl {K : PySem.W.Frag} {σ : L2.St} {H : Hp} {foot : List (List Addr)} {env : Env} (sf : Sf K g ω σ H env foot) : PvS K g P ω lk σ H foot env env σ H := ⟨foot, sf, Chg.refl, fun _ _ => rfl, fun _ _ => rfl⟩
theorem PvS.trans {K : PySem.W.Frag} {σ σ1 σ2 : L2.St} {H H1 H2 : Hp} {foot f1 : List (List Addr)} {env env1 env2 : Env} (c : Chg lk foot env H f1 env1 H1) (e1 : ∀ i ∈ lk, σ1[i]? = σ[i]?) (e2 : ∀ i ∈ P.pin, σ1[i]? = σ[i]?) (s : ∀ i ∈ lk, i ∈ lk1) (h : PvS K g P ω1 lk1 σ1 H1 f1 env1 env2 σ2 H2) : PvS K g P ω1 lk σ H foot env env2 σ2 H2 := by
  obtain ⟨f2, sf, c2, g1, g2⟩ := h
  exact ⟨f2, sf, c.trans' c2 s, fun i hi => (g1 i (s i hi)).trans (e1 i hi), fun i hi => (g2 i hi).trans (e2 i hi)⟩
theorem PvRet.trans {K : PySem.W.Frag} {σ σ1 : L2.St} {H H1 H2 : Hp} {foot f1 : List (List Addr)} {env env1 env2 : Env} {d : D} {v : V} (c : Chg lk foot env H f1 env1 H1) (e2 : ∀ i ∈ P.pin, σ1[i]? = σ[i]?) (s : ∀ i ∈ lk, i ∈ lk1) (h : PvRet K g P lk1 σ1 H1 f1 env1 d env2 v H2) : PvRet K g P lk σ H foot env d env2 v H2 := by
  obtain ⟨ω', f2, σ2, sf, c2, g1, S, o, nd, dj, own⟩ := h
  refine ⟨ω', f2, σ2, sf, c.trans' c2 s, fun i hi => ⟨(g1 i hi).1.trans (e2 i hi), (g1 i hi).2⟩, S, o, nd, dj, fun a ha => ?_⟩
  rcases own a ha with z | z
  · exact c.own a (z.sub s)
  · exact .inr (c.none_of z)
theorem PXS.trans {K : PySem.W.Frag} {σ σ1 σ2 : L2.St} {H H1 H2 : Hp} {foot f1 : List (List Addr)} {env env1 env2 : Env} {d : D} {cls : Value} {dd : Option Addr} (c : Chg lk foot env H f1 env1 H1) (kp : Kp lk ω ω1) (e1 : ∀ i ∈ lk, σ1[i]? = σ[i]?) (e2 : ∀ i ∈ P.pin, σ1[i]? = σ[i]?) (s : ∀ i ∈ lk, i ∈ lk1) (h : PXS K g ec P lk1 ω1 σ1 H1 f1 env1 d env2 cls dd σ2 H2) : PXS K g ec P lk ω σ H foot env d env2 cls dd σ2 H2 := by
  obtain ⟨ω', f2, kp2, sf, c2, g1, g2, ex⟩ := h
  exact ⟨ω', f2, fun i hi => (kp2 i (s i hi)).trans (kp i hi), sf, c.trans' c2 s, fun i hi => (g1 i (s i hi)).trans (e1 i hi), fun i hi => (g2 i hi).trans (e2 i hi), ex⟩
theorem PX.xs {K : PySem.W.Frag} {σ : L2.St} {H H2 : Hp} {foot : List (List Addr)} {env env2 : Env} {d : D} {cls : Value} {dd : Option Addr} (h : PX K g ec lk ω σ H foot env d env2 cls dd H2) : PXS K g ec P lk ω σ H foot env d env2 cls dd σ H2 := by
  obtain ⟨ω', f2, kp2, sf, c2, ex⟩ := h
  exact ⟨ω', f2, kp2, sf, c2, fun _ _ => rfl, fun _ _ => rfl, ex⟩
/-- a run goes on from a later state -/
theorem tS_from {D : Ends} {σ σ1 : L2.St} {H H1 : Hp} {foot f1' : List (List Addr)} {env env1 : Env} (s : ∀ i ∈ lk, i ∈ lk1) (c : Chg lk foot env H f1' env1 H1) (kp : Kp lk ω ω1) (e1 : ∀ i ∈ lk, σ1[i]? = σ[i]?) (e2 : ∀ i ∈ P.pin, σ1[i]? = σ[i]?) (sf : Sf X.K g ω1 σ1 H1 env1 f1') (q : OutF (f env1)
  (fun env' => ∀ σ' H', PvS X.K g P ω' lk σ H foot env env' σ' H' → D.nx σ' H')
  (fun env' => ∀ σ' H', PvS X.K g P P.ωL lk σ H foot env env' σ' H' → D.bk σ' H')
  (fun env' => ∀ σ' H', PvS X.K g P P.ωL lk σ H foot env env' σ' H' → D.ct σ' H')
  (fun d env' => ∀ v H', PvRet X.K g P lk σ H foot env d env' v H' → D.rt v H')
  (fun x env' => ∀ cls dd σ' H', PXS X.K g ec P lk ω σ H foot env x env' cls dd σ' H' → W cls dd σ' H')) : tS X.K g ec W P lk1 ω1 ω' f D σ1 H1 :=
  ⟨env1, f1', sf, q.imp (fun _ q σ' H' p => q σ' H' (p.trans c e1 e2 s)) (fun _ q σ' H' p => q σ' H' (p.trans c e1 e2 s)) (fun _ q σ' H' p => q σ' H' (p.trans c e1 e2 s)) (fun _ _ q v H' p => q v H' (p.trans c e2 s)) fun _ _ q cls dd σ' H' p => q cls dd σ' H' (p.trans c kp e1 e2 s)⟩

theorem rss_nil : RSs X g ec W P [] lk ω ω .nx :=
  ⟨pss_imp pss_nil fun D σ H ⟨env, foot, sf, q⟩ => (show ∀ σ' H', _ → _ from q) σ H (PvS.refl sf), Kp.refl⟩
theorem rss_cons (h1 : RS X g ec W P st lk ω ω1 f1) (h2 : RSs X g ec W P ss lk ω1 ω2 f2) : RSs X g ec W P (st :: ss) lk ω ω2 (fun env => (f1 env).next f2) := by
  refine ⟨pss_imp (pss_cons h1.ps h2.ps) fun D σ H ⟨env, foot, sf, q⟩ => ⟨env, foot, sf, q.next.imp (fun env' q σ' H' p => ?_) (fun _ h => h) (fun _ h => h) (fun _ _ h => h) fun _ _ h => h⟩, h1.kp.trans h2.kp fun _ h => h⟩
  obtain ⟨f1', sf1, c, e1, e2⟩ := p
  exact tS_from (fun _ h => h) c h1.kp e1 e2 sf1 q
theorem rs_pass : RS X g ec W P (.Pass pos) lk ω ω .nx :=
  ⟨ps_imp ps_pass fun D σ H ⟨env, foot, sf, q⟩ => (show ∀ σ' H', _ → _ from q) σ H (PvS.refl sf), Kp.refl⟩
theorem rs_break (hle : ∀ i, P.ωL.getD i 0 ≤ ω.getD i 0) (hlk : Kp lk ω P.ωL) : RS X g ec W P (.Break pos) lk ω ω .brk :=
  ⟨ps_ghost ps_break fun D σ H ⟨env, foot, sf, q⟩ pins s I => by
    have q : ∀ σ' H', PvS X.K g P P.ωL lk σ H foot env env σ' H' → D.bk σ' H' := q
    obtain ⟨H2, I2, p2⟩ := PvS.low (lk := lk) (P := P) rfl (PvS.refl sf) hle hlk I
    exact ⟨H2, I2, q σ H2 p2⟩, Kp.refl⟩
theorem rs_cont (hle : ∀ i, P.ωL.getD i 0 ≤ ω.getD i 0) (hlk : Kp lk ω P.ωL) : RS X g ec W P (.Continue pos) lk ω ω .cnt :=
  ⟨ps_ghost ps_continue fun D σ H ⟨env, foot, sf, q⟩ pins s I => by
    have q : ∀ σ' H', PvS X.K g P P.ωL lk σ H foot env env σ' H' → D.ct σ' H' := q
    obtain ⟨H2, I2, p2⟩ := PvS.low (lk := lk) (P := P) rfl (PvS.refl sf) hle hlk I
    exact ⟨H2, I2, q σ H2 p2⟩, Kp.refl⟩
def isComp : Expr → Bool
  | .ListComp _ _ _ _ => true
  | .SetComp _ _ _ _ => true
  | .DictComp _ _ _ _ _ => true
  | _ => false
theorem no_swap (h : isComp e = false) (t : Option Expr) (n : Nat) (env : PySem.Env) : swapsWith e t n env = pure false := by
  cases e <;> first | rfl | cases h
theorem rs_expr (h : isComp e = false) (he : RP X g ec W e lk ω ω1 k base fa) : RS X g ec W P (.Expr e pos) lk ω ω1 (fun env => ofR (fa env) fun _ e1 => .nx e1) := by
  refine ⟨ps_imp (ps_expr he.pe (no_swap h _ _ _)) fun D σ H ⟨env, foot, sf, q⟩ => ⟨env, foot, sf, q.ofR.imp (fun d env1 _ q v H1 p => ?_) fun x e2 q cls dd H' p => q cls dd σ H' p.xs⟩, he.kp⟩
  obtain ⟨f1', sf1, c, _⟩ := p
  exact (show ∀ σ' H', _ → _ from q) σ H1 ⟨f1', sf1, c, fun _ _ => rfl, fun _ _ => rfl⟩
theorem rs_if {fc : Env → R Bool} {sa sb : List Stmt} (hc : RT X g ec W c lk ω ω1 fc) (ha : RSs X g ec W P sa lk ω1 ω2 f1) (hb : RSs X g ec W P sb lk ω1 ω2 f2) : RS X g ec W P (.If c sa sb pos) lk ω ω2 (fun env => ofR (fc env) fun t e1 => if t then f1 e1 else f2 e1) := by
  refine ⟨ps_imp (ps_if hc.pt ha.ps hb.ps) fun D σ H ⟨env, foot, sf, q⟩ => ⟨env, foot, sf, q.ofR.imp (fun t env1 _ q v H1 p => ?_) fun x e2 q cls dd H' p => q cls dd σ H' p.xs⟩, hc.kp.trans ha.kp fun _ h => h⟩
  obtain ⟨ev, f1', sf1, c⟩ := p
  subst ev
  cases v with
  | true =>
    rw [if_pos rfl] at q ⊢
    exact tS_from (fun _ h => h) c hc.kp (fun _ _ => rfl) (fun _ _ => rfl) sf1 q
  | false =>
    rw [if_neg Bool.false_ne_true] at q ⊢
    exact tS_from (fun _ h => h) c hc.kp (fun _ _ => rfl) (fun _ _ => rfl) sf1 q
/-- return of a thing that is not a slot's -/
theorem rs_ret (he : RP X g ec W e lk ω ω1 k none fa) (hk : k = P.rk) (hp : ∀ i ∈ P.pin, ω1.getD i 0 = P.ωr.getD i 0) : RS X g ec W P (.Return (some e) pos) lk ω ω1 (fun env => ofR (fa env) .ret) := by
  refine ⟨ps_imp (ps_ret he.pe) fun D σ H ⟨env, foot, sf, q⟩ => ⟨env, foot, sf, q.ofR.imp (fun d env1 _ q v H1 p => ?_) fun x e2 q cls dd H' p => q cls dd σ H' p.xs⟩, he.kp⟩
  obtain ⟨f1', sf1, c, S, o, nd, dj, own⟩ := p
  subst hk
  exact (show ∀ v H', _ → _ from q) v H1 ⟨ω1, f1', σ, sf1, c, fun i hi => ⟨rfl, hp i hi⟩, S, o, nd, fun a ha i _ T hT z => dj a ha (List.mem_flatten.mpr ⟨T, List.mem_of_getElem? hT, z⟩), own⟩
/-- return of a local's own thing -/
theorem rs_retN (hv : PE X e (tVar i)) (hk : ω.getD i 0 = P.rk) (hi : i ∉ P.pin) (hil : i ∉ lk) (hp : ∀ i ∈ P.pin, ω.getD i 0 = P.ωr.getD i 0) : RS X g ec W P (.Return (some e) pos) lk ω ω (fun env => ofR (liftO (getV i env) env) .ret) := by
  refine ⟨ps_imp (ps_ret hv) fun D σ H ⟨env, foot, sf, q⟩ => ?_, Kp.refl⟩
  obtain ⟨d, hd, q⟩ := Out.lift q.ofR
  obtain ⟨v, S, h1, h2, o⟩ := sf.slot i d (getV_some hd)
  rw [hk] at o
  exact ⟨v, h1, (show ∀ v H', _ → _ from q) v H ⟨ω, foot, σ, sf, Chg.refl, fun j hj => ⟨rfl, hp j hj⟩, S, o, (List.sublist_flatten_of_mem (List.mem_of_getElem? h2)).nodup sf.nd, fun a ha j hj T hT z => hi (by rw [foot_disj sf.nd h2 hT ha z]; exact hj), fun a ha => .inl ⟨i, S, hil, h2, ha⟩⟩⟩
theorem rs_retNone (hk : P.rk = 0) (hp : ∀ i ∈ P.pin, ω.getD i 0 = P.ωr.getD i 0) : RS X g ec W P (.Return none pos) lk ω ω (fun env => .ret .non env) := by
  refine ⟨ps_imp ps_retN fun D σ H ⟨env, foot, sf, q⟩ => ?_, Kp.refl⟩
  exact (show ∀ v H', _ → _ from q) .non H ⟨ω, foot, σ, sf, Chg.refl, fun j hj => ⟨rfl, hp j hj⟩, [], by rw [hk]; exact ⟨rfl, .non⟩, .nil, no_mem, no_mem⟩

/-! ### name = e -/
theorem set_post0 {σ : L2.St} {H H1 : Hp} {foot f1' : List (List Addr)} {env env1 : Env} {d : D} {v : V} {S : List Addr} (sf1 : Sf X.K g ω1 σ H1 env1 f1') (c : Chg lk foot env H f1' env1 H1) (o : Own X.K g H1 k d v S) (nd : S.Nodup) (dj : ∀ a ∈ S, a ∉ f1'.flatten) (own : ∀ a ∈ S, Av lk foot a ∨ H a = none)
    (hi : i ∉ lk) (hl : i < env1.length) (hω : i < ω1.length) : Sf X.K g (ω1.set i k) (σ.set i (some v)) H1 (env1.set i (some d)) (f1'.set i S) ∧ Chg lk foot env H (f1'.set i S) (env1.set i (some d)) H1 := by
  have hlf : i < f1'.length := by rw [sf1.lenF]; exact hl
  obtain ⟨T, hT⟩ : ∃ T, f1'[i]? = some T := ⟨_, List.getElem?_eq_getElem hlf⟩
  refine ⟨sf1.put hT Stays.refl (fun _ _ _ => rfl) (fun a ha => .inr (dj a ha)) nd (List.getElem?_set_self (by rw [sf1.len]; exact hl)) (fun j hj => List.getElem?_set_ne (fun z => hj z.symm)) (by rw [List.length_set]) (fun j hj => ?_) ?_, c.put hi hT (fun _ h => h) (fun _ _ _ => rfl) (fun a ha => .inr (own a ha)) _⟩
  · rw [getD_set _ _ _ _ hω, if_neg hj]
  · rw [getD_set _ _ _ _ hω, if_pos rfl]
    exact o
theorem set_post {σ : L2.St} {H H1 : Hp} {foot f1' : List (List Addr)} {env env1 : Env} {d : D} {v : V} {S : List Addr} (sf1 : Sf X.K g ω1 σ H1 env1 f1') (c : Chg lk foot env H f1' env1 H1) (o : Own X.K g H1 k d v S) (nd : S.Nodup) (dj : ∀ a ∈ S, a ∉ f1'.flatten) (own : ∀ a ∈ S, Av lk foot a ∨ H a = none)
    (hi : i ∉ lk) (hp : i ∉ P.pin) (hl : i < env1.length) (hω : i < ω1.length) : PvS X.K g P (ω1.set i k) lk σ H foot env (env1.set i (some d)) (σ.set i (some v)) H1 := by
  obtain ⟨h1, h2⟩ := set_post0 sf1 c o nd dj own hi hl hω
  exact ⟨_, h1, h2, fun j hj => List.getElem?_set_ne (fun z => hi (by rw [z]; exact hj)), fun j hj => List.getElem?_set_ne (fun z => hp (by rw [z]; exact hj))⟩
/-- name = e, by the reading of the assignment as a whole -/
theorem rs_setT {te : TE} {py : Pos} (hs : PS X (.Assign [.Name x py] e pos) (tAsg te (gName i))) (hte : ∀ σ H Q, tP X.K g ec W lk ω ω1 k none fa σ H Q → te σ H Q) (kp : Kp lk ω ω1) (hi : i ∉ lk) (hp : i ∉ P.pin) (hω : i < ω1.length) :
    RS X g ec W P (.Assign [.Name x py] e pos) lk ω (ω1.set i k) (fun env => ofR (fa env) fun d e1 => match bindT (.nm i) d e1 with
      | some e2 => .nx e2
      | none => .err) := by
  refine ⟨ps_imp hs fun D σ H ⟨env, foot, sf, q⟩ => hte σ H _ ⟨env, foot, sf, q.ofR.imp (fun d env1 ea q0 v H1 p => ?_) fun x e2 q cls dd H' p => q cls dd σ H' p.xs⟩, kp.set hi⟩
  obtain ⟨f1', sf1, c, S, o, nd, dj, own⟩ := p
  clear ea
  simp only [bindT] at q0
  by_cases hl : i < env1.length
  · rw [if_pos hl] at q0
    exact (show ∀ σ' H', _ → _ from q0) (σ.set i (some v)) H1 (set_post sf1 c o nd dj own hi hp hl hω)
  · rw [if_neg hl] at q0; exact q0.elim
theorem rs_set {py : Pos} (hN : X.N.Nodup) (hx : X.N[i]? = some x) (hL : Loc X.env.scope x) (hf : X.fn x = true ∨ X.env.scope.names.lookup x = some .local) (hc : isComp e = false) (he : RP X g ec W e lk ω ω1 k none fa) (hi : i ∉ lk) (hp : i ∉ P.pin) (hω : i < ω1.length) :
    RS X g ec W P (.Assign [.Name x py] e pos) lk ω (ω1.set i k) (fun env => ofR (fa env) fun d e1 => match bindT (.nm i) d e1 with
      | some e2 => .nx e2
      | none => .err) :=
  rs_setT (ps_set hN hx hL he.pe (no_swap hc _ _ _) hf) (fun _ _ _ h => h) he.kp hi hp hω
end
end VK
set_option Elab.async false
set_option linter.all false
set_option maxHeartbeats 1000000
/-! targets, iteration -/
namespace VK
open PySem PySem.Spec PyProof.Rows L2
mutual
def namesT : Tg → List Nat
  | .nm i => [i]
  | .tp ts => namesTs ts
def namesTs : Tgs → List Nat
  | .nil => []
  | .cons t ts => namesT t ++ namesTs ts
end
def zeroAt (ω : List Nat) (is : List Nat) : List Nat := is.foldl (fun w i => w.set i 0) ω
theorem zeroAt_append (ω : List Nat) (a b : List Nat) : zeroAt ω (a ++ b) = zeroAt (zeroAt ω a) b := List.foldl_append ..
theorem zeroAt_length (ω : List Nat) (is : List Nat) : (zeroAt ω is).length = ω.length := by
  induction is generalizing ω with
  | nil => rfl
  | cons i is ih => show (zeroAt (ω.set i 0) is).length = _; rw [ih, List.length_set]
section
variable (K : PySem.W.Frag) (g : GF)
/-- a frozen thing is bound -/
def tGt (lk ω ω' : List Nat) (T : Tg) : TG := fun v σ H Q => ∃ env foot d e', Sf K g ω σ H env foot ∧ Rep K g H d v ∧ bindT T d env = some e' ∧ ∀ σ' foot', Sf K g ω' σ' H e' foot' → Chg lk foot env H foot' e' H → (∀ i, i ∉ namesT T → σ'[i]? = σ[i]?) → Q σ' H
def tGts (lk ω ω' : List Nat) (T : Tgs) : TGs := fun vs σ H Q => ∃ env foot ds e', Sf K g ω σ H env foot ∧ Reps K g H ds vs ∧ bindTs T ds env = some e' ∧ ∀ σ' foot', Sf K g ω' σ' H e' foot' → Chg lk foot env H foot' e' H → (∀ i, i ∉ namesTs T → σ'[i]? = σ[i]?) → Q σ' H
end
section
variable (X : Cx) (g : GF)
structure RG (tg : Expr) (lk ω ω' : List Nat) (T : Tg) : Prop where
  pg : PG X tg (tGt X.K g lk ω ω' T)
structure RGs (ts : List Expr) (lk ω ω' : List Nat) (T : Tgs) : Prop where
  pg : PGs X ts (tGts X.K g lk ω ω' T)
end
section
variable {X : Cx} {g : GF} {ec : EC} {W : WX} {P : Pn} {e a b c tg iter : Expr} {es : List Expr} {st : Stmt} {ss : List Stmt} {lk lk1 lk2 lk3 ω ω' ω1 ω2 ω3 : List Nat} {i k m n : Nat} {base : Option Nat} {fa fb fc : Env → R D} {f f1 f2 : Env → Fl} {x : Str} {p pos apos cpos : Pos}
theorem pg_imp {t t' : TG} (h : PG X tg t) (i : ∀ v σ H Q, t' v σ H Q → t v σ H Q) : PG X tg t' := ⟨fun pins s σ H v u Q I r q => h.run pins s σ H v u Q I r (i v σ H Q q)⟩
theorem pgs_imp {t t' : TGs} (h : PGs X es t) (i : ∀ v σ H Q, t' v σ H Q → t v σ H Q) : PGs X es t' := ⟨fun pins s σ H v u Q I r q => h.run pins s σ H v u Q I r (i v σ H Q q)⟩
theorem pg_or {t t' : TG} (h : PG X tg t) (h' : PG X tg t') : PG X tg (fun v σ H Q => t v σ H Q ∨ t' v σ H Q) := ⟨fun pins s σ H v u Q I r q => q.elim (h.run pins s σ H v u Q I r) (h'.run pins s σ H v u Q I r)⟩
theorem rg_name (hN : X.N.Nodup) (hx : X.N[i]? = some x) (hL : Loc X.env.scope x) (hf : X.fn x = true ∨ X.env.scope.names.lookup x = some .local) (hi : i ∉ lk) (hω : i < ω.length) : RG X g (.Name x p) lk ω (ω.set i 0) (.nm i) := by
  refine ⟨pg_imp (pg_name (i := i) hN hx hL hf) fun v σ H Q ⟨env, foot, d, e', sf, r, hb, q⟩ => ?_⟩
  simp only [bindT] at hb
  split at hb
  · rename_i hl
    cases hb
    obtain ⟨f', sf', c', h1, _⟩ := set_post (P := ⟨[], [], 0, []⟩) (lk := lk) (ω1 := ω) (k := 0) (d := d) (v := v) sf Chg.refl ⟨rfl, r⟩ .nil no_mem no_mem hi (by simp) hl hω
    exact q _ f' sf' c' fun j hj => List.getElem?_set_ne (fun z => hj (by rw [z]; simp [namesT]))
  · cases hb
theorem rgs_nil : RGs X g [] lk ω ω .nil := by
  refine ⟨pgs_imp pgs_nil fun vs σ H Q ⟨env, foot, ds, e', sf, r, hb, q⟩ => ?_⟩
  cases r with
  | nil =>
    cases hb
    exact ⟨rfl, q σ foot sf Chg.refl fun _ _ => rfl⟩
  | cons h r => cases hb
theorem rgs_cons {T : Tg} {Ts : Tgs} (na : ∀ z p, a ≠ .Starred z p) (h1 : RG X g a lk ω ω1 T) (h2 : RGs X g es lk ω1 ω2 Ts) : RGs X g (a :: es) lk ω ω2 (.cons T Ts) := by
  have hs : (assignEach (a :: es) X.env).map (·.2) = assign a X.env :: (assignEach es X.env).map (·.2) := by
    cases a <;> first | rfl | exact absurd rfl (na _ _)
  refine ⟨pgs_imp (pgs_cons h1.pg h2.pg hs) fun vs σ H Q ⟨env, foot, ds, e', sf, r, hb, q⟩ => ?_⟩
  cases r with
  | nil => cases hb
  | cons h r =>
    obtain ⟨e1, g1, g2⟩ := Option.bind_eq_some_iff.mp hb
    refine ⟨_, _, rfl, env, foot, _, e1, sf, h, g1, fun σ1 f1 sf1 c1 k1 => ⟨e1, f1, _, e', sf1, r, g2, fun σ2 f2 sf2 c2 k2 => ?_⟩⟩
    exact q σ2 f2 sf2 (c1.trans' c2 fun _ h => h) fun i hi => (k2 i fun z => hi (by simp [namesTs, z])).trans (k1 i fun z => hi (by simp [namesTs, z]))
theorem assign_len : ∀ (es : List Expr) (env : PySem.Env), (assignEach es env).length = es.length
  | [], _ => rfl
  | a :: es, env => by cases a <;> simp [assignEach, assign_len es env]
theorem assign_star : ∀ {es : List Expr}, noStar es = true → ∀ env, (assignEach es env).findIdx? (·.1) = none
  | [], _, _ => rfl
  | a :: es, h, env => by
    have hr : noStar es = true := by cases a <;> first | exact h | cases h
    have ih := assign_star hr env
    cases a <;> first | cases h | (simp [assignEach, List.findIdx?_cons, ih])
theorem bindTs_len : ∀ {T : Tgs} {ds : List D} {env e' : Env}, bindTs T ds env = some e' → ds.length = (namesTs T).length ∨ True
  | _, _, _, _, _ => .inr trivial
def lenTs : Tgs → Nat
  | .nil => 0
  | .cons _ ts => lenTs ts + 1
theorem bindTs_n : ∀ (T : Tgs) {ds : List D} {env e' : Env}, bindTs T ds env = some e' → ds.length = lenTs T
  | .nil, [], _, _, _ => rfl
  | .nil, _ :: _, _, _, h => by cases h
  | .cons T Ts, [], _, _, h => by cases h
  | .cons T Ts, d :: ds, env, e', h => by
    obtain ⟨e1, _, g2⟩ := Option.bind_eq_some_iff.mp h
    simp [lenTs, bindTs_n Ts g2]
theorem rg_tup {kk : Nat} {Ts : Tgs} (hc : X.calm = true) (hst : noStar es = true) (hl : lenTs Ts = es.length) (h : RGs X g es lk ω ω1 Ts) : RG X g (.Tuple es kk pos) lk ω ω1 (.tp Ts) := by
  refine ⟨pg_imp (pg_or (pg_tup (n := es.length) hc h.pg (assign_len _ _) (assign_star hst _)) (pg_lst (n := es.length) hc h.pg (assign_len _ _) (assign_star hst _))) fun v σ H Q ⟨env, foot, d, e', sf, r, hb, q⟩ => ?_⟩
  obtain ⟨ds, h1, h2⟩ := Option.bind_eq_some_iff.mp (show (seqOf d).bind (fun ds => bindTs Ts ds env) = some e' from hb)
  have hn := bindTs_n Ts h2
  cases r with
  | tup hx rs =>
    cases h1
    exact .inl ⟨_, _, rfl, hx, by rw [← rs.length, hn, hl], env, foot, _, e', sf, rs, h2, q⟩
  | lst hx rs =>
    cases h1
    exact .inr ⟨_, _, rfl, hx.sq, by rw [← rs.length, hn, hl], env, foot, _, e', sf, rs, h2, q⟩
  | _ => cases h1

/-! ### iterators -/
/-- the iterator gives these things while only A's are changed -/
def ItOk (K : PySem.W.Frag) (g : GF) (J : L2.It) (H1 : Hp) (A : Addr → Prop) (ds : List D) : Prop := ∀ H2, Step A H1 H2 → Stays H1 H2 →
  (∀ i d, ds[i]? = some d → J.go i H2 ∧ ∀ x H3, J.yld i H2 x H3 → (H3 = H2 ∨ ∃ T xs, H2 T = none ∧ H3 = upd H2 T (.tup xs)) ∧ Rep K g H3 d x) ∧ ∀ i, ds.length ≤ i → J.stop i H2
abbrev tI (K : PySem.W.Frag) (g : GF) (ec : EC) (W : WX) (lk lk' ω ω' : List Nat) (fi : Env → R (List D)) : TI := fun σ H R =>
  ∃ env foot, Sf K g ω σ H env foot ∧ Out (fi env) (fun ds env' => ∀ J H' foot', Sf K g ω' σ H' env' foot' → Chg lk foot env H foot' env' H' → ItOk K g J H' (Av lk' foot') ds → R J H')
    (fun x env' => ∀ cls dd H', PX K g ec lk ω σ H foot env x env' cls dd H' → W cls dd σ H')
variable (X g ec W) in
structure RI (tg iter : Expr) (lk lk' ω ω' : List Nat) (fi : Env → R (List D)) : Prop where
  pi : PI X tg iter (tI X.K g ec W lk lk' ω ω' fi)
  kp : Kp lk ω ω'
  sub : ∀ i ∈ lk, i ∈ lk'
theorem pi_imp {w w' : TI} (h : PI X tg iter w) (i : ∀ σ H R, w' σ H R → w σ H R) : PI X tg iter w' := ⟨fun pins s σ H R I q => h.run pins s σ H R I (i σ H R q)⟩
theorem pi_or {w w' : TI} (h : PI X tg iter w) (h' : PI X tg iter w') : PI X tg iter (fun σ H R => w σ H R ∨ w' σ H R) := ⟨fun pins s σ H R I q => q.elim (h.run pins s σ H R I) (h'.run pins s σ H R I)⟩
/-- a list that stays: frozen, or owned by a locked slot -/
def StL (K : PySem.W.Frag) (g : GF) (H : Hp) (A : Addr → Prop) (ds : List D) (a : Addr) : Prop := ∃ xs, SqL K H a xs ∧ Reps K g H ds xs ∧ ∀ H2, Step A H H2 → Stays H H2 → SqL K H2 a xs
theorem stl_of {K : PySem.W.Frag} {H : Hp} {A : Addr → Prop} {ds : List D} {v : V} {S : List Addr} (o : Own K g H k (.lst ds) v S) (hk : k ≤ 1) (n : ∀ a ∈ S, ¬ A a) : ∃ a, v = .ref a ∧ StL K g H A ds a := by
  cases k with
  | zero =>
    obtain ⟨_, r⟩ := o
    cases r with
    | lst h r => exact ⟨_, rfl, _, h.sq, r, fun H2 _ st => (st.fzL h).sq⟩
  | succ k =>
    obtain rfl : k = 0 := by omega
    obtain ⟨a, xs, Ss, rfl, e, r, eS⟩ := o
    exact ⟨a, rfl, xs, SqL.of e, (OwnL.reps r).1, fun H2 s st => SqL.of (s.keep a _ e (n a (by rw [eS]; exact List.mem_cons_self)))⟩
theorem it_list {K : PySem.W.Frag} {H : Hp} {A : Addr → Prop} {ds : List D} {a : Addr} (h : StL K g H A ds a) : ItOk K g (Itl K a) H A ds := fun H2 s st => by
  obtain ⟨xs, h1, r, h2⟩ := h
  have hx := h2 H2 s st
  have r2 := r.stay st
  refine ⟨fun i d hd => ?_, fun i hi => ⟨xs, hx, by rw [← r.length]; exact hi⟩⟩
  obtain ⟨v, hv, rv⟩ := r2.get hd
  refine ⟨⟨xs, v, hx, hv⟩, fun x H3 y => ?_⟩
  obtain ⟨rfl, y⟩ := y
  have := y xs hx
  rw [hv] at this; cases this
  exact ⟨.inl rfl, rv⟩
theorem it_tup {K : PySem.W.Frag} {H : Hp} {A : Addr → Prop} {ds : List D} {a : Addr} {xs : List V} (h : SqT K H a xs) (r : Reps K g H ds xs) : ItOk K g (Itt K a) H A ds := fun H2 s st => by
  have hx := st.sqT h
  have r2 := r.stay st
  refine ⟨fun i d hd => ?_, fun i hi => ⟨xs, hx, by rw [← r.length]; exact hi⟩⟩
  obtain ⟨v, hv, rv⟩ := r2.get hd
  refine ⟨⟨xs, v, hx, hv⟩, fun x H3 y => ?_⟩
  obtain ⟨rfl, y⟩ := y
  have := y xs hx
  rw [hv] at this; cases this
  exact ⟨.inl rfl, rv⟩
theorem it_str {K : PySem.W.Frag} {H : Hp} {A : Addr → Prop} (z : Str) : ItOk K g (Its z) H A (z.cps.toList.map fun c => .str ⟨#[c]⟩) := fun H2 s st => by
  refine ⟨fun i d hd => ?_, fun i hi => by simpa [Its] using hi⟩
  rw [List.getElem?_map] at hd
  obtain ⟨c, h1, h2⟩ := Option.map_eq_some_iff.mp hd
  subst h2
  have hi : i < z.cps.size := by
    have := (List.getElem?_eq_some_iff.mp h1).1
    simpa using this
  refine ⟨hi, fun x H3 y => ?_⟩
  obtain ⟨rfl, c', h3, rfl⟩ := y
  have : z.cps[i]? = some c := by simpa using h1
  rw [this] at h3; cases h3
  exact ⟨.inl rfl, .str _⟩
theorem it_rng {K : PySem.W.Frag} {H : Hp} {A : Addr → Prop} (lo hi : Int) : ItOk K g (Itr lo (hi - lo).toNat) H A (rangeL lo hi) := fun H2 s st => by
  refine ⟨fun i d hd => ?_, fun i hi2 => by
    show (hi - lo).toNat ≤ i
    simpa [rangeL] using hi2⟩
  unfold rangeL at hd
  rw [List.getElem?_map] at hd
  obtain ⟨c, h1, h2⟩ := Option.map_eq_some_iff.mp hd
  subst h2
  obtain ⟨h3, h4⟩ := List.getElem?_eq_some_iff.mp h1
  rw [List.length_range] at h3
  have e : c = i := by rw [List.getElem_range] at h4; exact h4.symm
  subst e
  refine ⟨h3, fun x H3 y => ?_⟩
  obtain ⟨rfl, rfl⟩ := y
  exact ⟨.inl rfl, .int _⟩
def seqR (fa : Env → R D) (env : Env) : R (List D) := (fa env).bind fun x e1 => liftO (itemsOf x) e1
theorem ri_seq (ha : RK X g ec W a 1 lk1 lk ω ω1 fa) : RI X g ec W tg a lk lk1 ω ω1 (seqR fa) := by
  refine ⟨pi_imp (pi_or (pi_or (pi_list ha.pe) (pi_tup ha.pe)) (pi_str ha.pe)) fun σ H R ⟨env, foot, sf, q⟩ => ?_, ha.kp, ha.sub⟩
  have q := Out.bind.mp q
  cases hf : fa env with
  | err => rw [hf] at q; exact q.elim
  | exc x e1 =>
    rw [hf] at q
    exact .inl (.inl ⟨env, foot, sf, by rw [hf]; exact q⟩)
  | ok d e1 =>
    rw [hf] at q
    obtain ⟨ds, hd, q⟩ := Out.lift q
    cases d <;> simp only [itemsOf, reduceCtorEq, Option.some.injEq] at hd
    · subst hd
      refine .inr ⟨env, foot, sf, ?_⟩
      rw [hf]
      intro v1 H1 p1
      obtain ⟨f1, sf1, c1, k1, S1, hk1, o1, n1⟩ := p1
      exact ⟨_, Vw.str (g := g) (m := 1) ⟨k1, S1, hk1, o1⟩, q _ H1 f1 sf1 c1 (it_str _)⟩
    · subst hd
      refine .inl (.inr ⟨env, foot, sf, ?_⟩)
      rw [hf]
      intro v1 H1 p1
      obtain ⟨f1, sf1, c1, k1, S1, hk1, o1, n1⟩ := p1
      obtain ⟨a, xs, rfl, hx, r⟩ := Vw.tup (g := g) (m := 1) ⟨k1, S1, hk1, o1⟩
      exact ⟨a, rfl, ⟨xs, hx⟩, q _ H1 f1 sf1 c1 (it_tup hx r)⟩
    · subst hd
      refine .inl (.inl ⟨env, foot, sf, ?_⟩)
      rw [hf]
      intro v1 H1 p1
      obtain ⟨f1, sf1, c1, k1, S1, hk1, o1, n1⟩ := p1
      obtain ⟨a, rfl, sl⟩ := stl_of o1 hk1 n1
      exact ⟨a, rfl, ⟨_, sl.choose_spec.1⟩, q _ H1 f1 sf1 c1 (it_list sl)⟩
def rgR (fa : Env → R D) (env : Env) : R (List D) := (fa env).bind fun x e1 => match x with
    | .int n => if rgOk 0 n then .ok (rangeL 0 n) e1 else .err
    | _ => .err
theorem ri_rg (hg : Gl X "range") (hm : X.mg "range" = none) (na : ∀ z p, a ≠ .Starred z p) (ha : RV X g ec W a lk ω ω1 fa) : RI X g ec W tg (.Call (.Name "range" p) [a] [] pos) lk lk ω ω1 (rgR fa) := by
  refine ⟨pi_imp (pi_range1 hg hm (pa_cons ha.pe pa_nil (star_cons na _)) (star_cons na _)) fun σ H R ⟨env, foot, sf, q⟩ => ⟨env, foot, sf, (Out.bind.mp q).imp (fun d1 env1 ea q0 v1 H1 p1 => ?_) fun _ _ h => h⟩, ha.kp, fun _ h => h⟩
  obtain ⟨f1, sf1, c1, r1⟩ := p1
  clear ea
  cases d1 <;> try exact q0.elim
  rename_i n
  cases r1
  by_cases hz : rgOk 0 n = true
  · have q0 : Out (if rgOk 0 n = true then VK.R.ok (rangeL 0 n) env1 else VK.R.err) _ _ := q0
    rw [if_pos hz] at q0
    have hz := of_decide_eq_true hz
    refine ⟨n, rfl, by omega, by omega, ?_⟩
    have := it_rng (K := X.K) (g := g) (H := H1) (A := Av lk f1) 0 n
    rw [Int.sub_zero] at this
    exact (show ∀ J H' foot', _ → _ → _ → _ from q0) _ H1 f1 sf1 c1 this
  · have q0 : Out (if rgOk 0 n = true then VK.R.ok (rangeL 0 n) env1 else VK.R.err) _ _ := q0
    rw [if_neg hz] at q0; exact q0.elim
def rg2R (fa fb : Env → R D) (env : Env) : R (List D) := (fa env).bind fun x e1 => (fb e1).bind fun y e2 => match x, y with
    | .int m, .int n => if rgOk m n then .ok (rangeL m n) e2 else .err
    | _, _ => .err
theorem ri_rg2 (hg : Gl X "range") (hm : X.mg "range" = none) (na : ∀ z p, a ≠ .Starred z p) (nb : ∀ z p, b ≠ .Starred z p) (ha : RV X g ec W a lk ω ω1 fa) (hb : RV X g ec W b lk ω1 ω2 fb) : RI X g ec W tg (.Call (.Name "range" p) [a, b] [] pos) lk lk ω ω2 (rg2R fa fb) := by
  have s0 : ∀ i ∈ lk, i ∈ lk := fun _ h => h
  refine ⟨pi_imp (pi_range2 hg hm (pa_cons ha.pe (pa_cons hb.pe pa_nil (star_cons nb _)) (star_cons na _)) (by rw [star_cons na, star_cons nb]; rfl) (star_cons nb _)) fun σ H R ⟨env, foot, sf, q⟩ => ⟨env, foot, sf, (Out.bind.mp q).imp (fun d1 env1 ea q0 v1 H1 p1 => ?_) fun _ _ h => h⟩, ha.kp.trans hb.kp s0, s0⟩
  obtain ⟨f1, sf1, c1, r1⟩ := p1
  refine ⟨env1, f1, sf1, (Out.bind.mp q0).imp (fun d2 env2 eb q1 v2 H2 p2 => ?_) fun x e2 h cls dd H2 p => h cls dd H2 (p.over c1 ha.kp s0)⟩
  obtain ⟨f2, sf2, c2, r2⟩ := p2
  clear ea eb q0
  cases d1 <;> try exact q1.elim
  rename_i m
  cases d2 <;> try exact q1.elim
  rename_i n
  cases r1
  cases r2
  have q1 : Out (if rgOk m n = true then VK.R.ok (rangeL m n) env2 else VK.R.err) _ _ := q1
  by_cases hz : rgOk m n = true
  · rw [if_pos hz] at q1
    have hz := of_decide_eq_true hz
    refine ⟨m, n, rfl, ⟨by omega, by omega, by omega, by omega⟩, ?_⟩
    exact (show ∀ J H' foot', _ → _ → _ → _ from q1) _ H2 f2 sf2 (c1.trans' c2 s0) (it_rng m n)
  · rw [if_neg hz] at q1; exact q1.elim
end
end VK
set_option Elab.async false
set_option linter.all false
set_option maxHeartbeats 1000000
/-! loops -/
namespace VK
open PySem PySem.Spec PyProof.Rows L2
theorem OutF.forTurn {r : Fl} {nxt : Env → Fl} {nx bk ct : Env → Prop} {rt E : D → Env → Prop} (h : OutF (match r with
    | .nx e1 => nxt e1
    | .cnt e1 => nxt e1
    | .brk e1 => .nx e1
    | r => r) nx bk ct rt E) : OutF r (fun e => OutF (nxt e) nx bk ct rt E) nx (fun e => OutF (nxt e) nx bk ct rt E) rt E := by
  cases r <;> exact h
section
variable {X : Cx} {g : GF} {ec : EC} {W : WX} {P : Pn} {e a b c tg iter : Expr} {es : List Expr} {st : Stmt} {ss body : List Stmt} {lk lk1 lk2 lk3 ω ω' ω1 ω2 ω3 : List Nat} {i k m n : Nat} {base : Option Nat} {fa fb fc : Env → R D} {f f1 f2 : Env → Fl} {fi : Env → R (List D)} {x : Str} {p pos apos cpos : Pos} {T : Tg}
def atL (P : Pn) (ω : List Nat) : Pn := { P with ωL := ω }
theorem notComp_set (h : ∀ z k p, iter ≠ .Set z k p) (env : PySem.Env) (x : Value) : foldedSetIterable iter env x = pure x := by
  cases iter <;> first | rfl | exact absurd rfl (h _ _ _)
theorem rs_for (hp : PassesOwn (model X.prog X.w) X.A X.env X.xe) (hc : X.calm = true) (hset : ∀ z k p, iter ≠ .Set z k p) (hi : RI X g ec W tg iter lk lk1 ω ω1 fi) (hg : RG X g tg lk1 ω1 ω2 T) (kpT : Kp lk1 ω1 ω2) (hlk : ∀ i ∈ namesT T, i ∉ lk1) (hpin : ∀ i ∈ namesT T, i ∉ P.pin) (hb : RSs X g ec W (atL P ω1) body lk1 ω2 ω1 f) :
    RS X g ec W P (.For tg iter body [] pos) lk ω ω1 (fun env => ofR (fi env) fun xs e1 => forL (fun x e2 => match bindT T x e2 with
      | some e3 => f e3
      | none => .err) xs e1) := by
  refine ⟨ps_imp (ps_for hp hc hi.pi hg.pg hb.ps (notComp_set hset _)) fun De σ0 H0 ⟨env0, foot0, sf0, q⟩ => ⟨env0, foot0, sf0, q.ofR.imp (fun ds e1 _ q J H1 f1' sf1 c1 ok => ?_) fun x e2 q cls dd H' p => q cls dd σ0 H' p.xs⟩, hi.kp⟩
  let F : D → Env → Fl := fun x e2 => match bindT T x e2 with
    | some e3 => f e3
    | none => .err
  let Post : Fl → Prop := fun r => OutF r
    (fun env' => ∀ σ' H', PvS X.K g P ω1 lk σ0 H0 foot0 env0 env' σ' H' → De.nx σ' H')
    (fun env' => ∀ σ' H', PvS X.K g P P.ωL lk σ0 H0 foot0 env0 env' σ' H' → De.bk σ' H')
    (fun env' => ∀ σ' H', PvS X.K g P P.ωL lk σ0 H0 foot0 env0 env' σ' H' → De.ct σ' H')
    (fun d env' => ∀ v H', PvRet X.K g P lk σ0 H0 foot0 env0 d env' v H' → De.rt v H')
    (fun x env' => ∀ cls dd σ' H', PXS X.K g ec P lk ω σ0 H0 foot0 env0 x env' cls dd σ' H' → W cls dd σ' H')
  let At : List D → L2.St → Hp → Prop := fun rest σ H => ∃ env foot, Sf X.K g ω1 σ H env foot ∧ Chg lk1 f1' e1 H1 foot env H ∧ (∀ j ∈ lk1, σ[j]? = σ0[j]?) ∧ (∀ j ∈ P.pin, σ[j]? = σ0[j]?) ∧ Post (forL F rest env)
  refine ⟨fun i m σ H => i + m = ds.length ∧ At (ds.drop i) σ H, ⟨ds.length, by omega, e1, f1', sf1, Chg.refl, fun _ _ => rfl, fun _ _ => rfl, by rw [List.drop_zero]; exact q⟩, fun i m σ H hW => ?_⟩
  obtain ⟨em, env, foot, sf, cg, k1, k2, q⟩ := hW
  have sty := cg.step.stays fun a h => sf1.mut a h.mem
  obtain ⟨ok1, ok2⟩ := ok H cg.step sty
  have whole := c1.trans' cg hi.sub
  by_cases hlt : i < ds.length
  · have hd : ds.drop i = ds[i] :: ds.drop (i + 1) := List.drop_eq_getElem_cons hlt
    rw [hd] at q
    obtain ⟨go, yl⟩ := ok1 i ds[i] (List.getElem?_eq_getElem hlt)
    refine .inr ⟨go, fun σ' H' => At (ds.drop (i + 1)) σ' H', fun σ' H' h => ⟨m - 1, by omega, by omega, h⟩, fun x H3 hy => ?_⟩
    obtain ⟨hH, rx⟩ := yl x H3 hy
    have st3 : Sf X.K g ω1 σ H3 env foot ∧ Chg lk1 f1' e1 H1 foot env H3 := by
      rcases hH with rfl | ⟨T, xs, n, rfl⟩
      · exact ⟨sf, cg⟩
      · exact ⟨sf.new n, cg.new n⟩
    obtain ⟨sf3, cg3⟩ := st3
    have q : Post (match (match bindT T ds[i] env with
      | some e3 => f e3
      | none => Fl.err) with
      | .nx e1 => forL F (ds.drop (i + 1)) e1
      | .cnt e1 => forL F (ds.drop (i + 1)) e1
      | .brk e1 => .nx e1
      | r => r) := q
    cases hbd : bindT T ds[i] env with
    | none => rw [hbd] at q; exact q.elim
    | some e3 =>
      rw [hbd] at q
      have q := OutF.forTurn q
      refine ⟨env, foot, ds[i], e3, sf3, rx, hbd, fun σ2 f2 sf2 c2 k3 => ?_⟩
      have cg2 := cg3.trans' c2 fun _ h => h
      have all2 := c1.trans' cg2 hi.sub
      have n1 : ∀ j ∈ lk1, σ2[j]? = σ0[j]? := fun j hj => (k3 j fun z => hlk j z hj).trans (k1 j hj)
      have n2 : ∀ j ∈ P.pin, σ2[j]? = σ0[j]? := fun j hj => (k3 j fun z => hpin j z hj).trans (k2 j hj)
      have kp2 : Kp lk ω ω2 := hi.kp.trans kpT hi.sub
      have next : ∀ {e4 : Env}, Post (forL F (ds.drop (i + 1)) e4) → ∀ σ' H', PvS X.K g (atL P ω1) ω1 lk1 σ2 H3 f2 e3 e4 σ' H' → At (ds.drop (i + 1)) σ' H' := fun {e4} q σ' H' p => by
        obtain ⟨f4, sf4, c4, g1, g2⟩ := p
        exact ⟨e4, f4, sf4, cg2.trans' c4 fun _ h => h, fun j hj => (g1 j hj).trans (n1 j hj), fun j hj => (g2 j hj).trans (n2 j hj), q⟩
      exact ⟨e3, f2, sf2, q.imp (fun e4 q σ' H' p => next q σ' H' p) (fun e4 q σ' H' p => q σ' H' (PvS.trans all2 (fun j hj => n1 j (hi.sub j hj)) n2 hi.sub p)) (fun e4 q σ' H' p => next q σ' H' p)
        (fun d e4 q v H' p => q v H' (PvRet.trans all2 n2 hi.sub p)) fun x e4 q cls dd σ' H' p => q cls dd σ' H' (PXS.trans all2 kp2 (fun j hj => n1 j (hi.sub j hj)) n2 hi.sub p)⟩
  · refine .inl ⟨ok2 i (by omega), ?_⟩
    have hge : ds.length ≤ i := by omega
    rw [List.drop_eq_nil_of_le hge] at q
    exact (show ∀ σ' H', _ → _ from q) σ H ⟨foot, sf, whole, fun j hj => k1 j (hi.sub j hj), k2⟩
theorem rs_while {ft : Env → R Bool} (wf : Nat) (hp : PassesOwn (model X.prog X.w) X.A X.env X.xe) (hc : RT X g ec W c lk ω ω ft) (hb : RSs X g ec W (atL P ω) body lk ω ω f) : RS X g ec W P (.While c body [] pos) lk ω ω (whlL ft f wf) := by
  refine ⟨ps_imp (ps_while hp hc.pt hb.ps) fun De σ0 H0 ⟨env0, foot0, sf0, q⟩ => ?_, Kp.refl⟩
  let Post : Fl → Prop := fun r => OutF r
    (fun env' => ∀ σ' H', PvS X.K g P ω lk σ0 H0 foot0 env0 env' σ' H' → De.nx σ' H')
    (fun env' => ∀ σ' H', PvS X.K g P P.ωL lk σ0 H0 foot0 env0 env' σ' H' → De.bk σ' H')
    (fun env' => ∀ σ' H', PvS X.K g P P.ωL lk σ0 H0 foot0 env0 env' σ' H' → De.ct σ' H')
    (fun d env' => ∀ v H', PvRet X.K g P lk σ0 H0 foot0 env0 d env' v H' → De.rt v H')
    (fun x env' => ∀ cls dd σ' H', PXS X.K g ec P lk ω σ0 H0 foot0 env0 x env' cls dd σ' H' → W cls dd σ' H')
  let At : Nat → L2.St → Hp → Prop := fun n σ H => ∃ env foot, Sf X.K g ω σ H env foot ∧ Chg lk foot0 env0 H0 foot env H ∧ (∀ j ∈ lk, σ[j]? = σ0[j]?) ∧ (∀ j ∈ P.pin, σ[j]? = σ0[j]?) ∧ Post (whlL ft f n env)
  refine ⟨At, ⟨wf, env0, foot0, sf0, Chg.refl, fun _ _ => rfl, fun _ _ => rfl, q⟩, fun m σ H hW => ?_⟩
  obtain ⟨env, foot, sf, cg, k1, k2, q⟩ := hW
  cases m with
  | zero => exact q.elim
  | succ m =>
    have q : Post (ofR (ft env) fun k e1 => if k then (match f e1 with
      | .nx e2 => whlL ft f m e2
      | .cnt e2 => whlL ft f m e2
      | .brk e2 => .nx e2
      | r => r) else .nx e1) := q
    refine ⟨env, foot, sf, (OutF.ofR q).imp (fun t env1 _ q v1 H1 p => ?_) fun x e2 q cls dd H' p => q cls dd σ H' (PXS.trans cg Kp.refl k1 k2 (fun _ h => h) p.xs)⟩
    obtain ⟨ev, f1', sf1, c1⟩ := p
    subst ev
    have all1 := cg.trans' c1 fun _ h => h
    cases v1 with
    | false =>
      rw [if_neg Bool.false_ne_true] at q ⊢
      exact (show ∀ σ' H', _ → _ from q) σ H1 ⟨f1', sf1, all1, k1, k2⟩
    | true =>
      rw [if_pos rfl] at q ⊢
      have q := OutF.forTurn q
      refine ⟨At m, fun σ' H' h => ⟨m, Nat.lt_succ_self _, h⟩, env1, f1', sf1, ?_⟩
      have next : ∀ {e4 : Env}, Post (whlL ft f m e4) → ∀ σ' H', PvS X.K g (atL P ω) ω lk σ H1 f1' env1 e4 σ' H' → At m σ' H' := fun {e4} q σ' H' p => by
        obtain ⟨f4, sf4, c4, g1, g2⟩ := p
        exact ⟨e4, f4, sf4, all1.trans' c4 fun _ h => h, fun j hj => (g1 j hj).trans (k1 j hj), fun j hj => (g2 j hj).trans (k2 j hj), q⟩
      exact q.imp (fun e4 q σ' H' p => next q σ' H' p) (fun e4 q σ' H' p => q σ' H' (PvS.trans all1 k1 k2 (fun _ h => h) p)) (fun e4 q σ' H' p => next q σ' H' p)
        (fun d e4 q v H' p => q v H' (PvRet.trans all1 k2 (fun _ h => h) p)) fun x e4 q cls dd σ' H' p => q cls dd σ' H' (PXS.trans all1 Kp.refl k1 k2 (fun _ h => h) p)
/-- lesser depths ahead -/
theorem RS.pre (h : RS X g ec W P st lk ω1 ω2 f) (hle : ∀ i, ω1.getD i 0 ≤ ω.getD i 0) (hlk : Kp lk ω ω1) : RS X g ec W P st lk ω ω2 f := by
  refine ⟨⟨fun pins s σ H D I ⟨env, foot, sf, q⟩ => ?_⟩, hlk.trans h.kp fun _ h => h⟩
  obtain ⟨H2, f2, I2, sf2, c2, st, _⟩ := Sf.lower (g := g) I sf hle hlk
  exact h.ps.run pins s σ H2 D I2 (tS_from (fun _ h => h) c2 hlk (fun _ _ => rfl) (fun _ _ => rfl) sf2 q)

/-! ### targets = e; changes -/
def asgOk : Expr → Expr → Bool
  | .Tuple _ _ _, .Tuple _ _ _ => false
  | .List _ _, _ => false
  | .Starred _ _, _ => false
  | _, _ => true
theorem rs_asg (hcm : isComp e = false) (hok : asgOk tg e = true) (he : RV X g ec W e lk ω ω1 fa) (hg : RG X g tg lk ω1 ω2 T) (kpT : Kp lk ω1 ω2) (hlk : ∀ i ∈ namesT T, i ∉ lk) (hpin : ∀ i ∈ namesT T, i ∉ P.pin) :
    RS X g ec W P (.Assign [tg] e pos) lk ω ω2 (fun env => ofR (fa env) fun d e1 => match bindT T d e1 with
      | some e2 => .nx e2
      | none => .err) := by
  have hw : swappedStores [tg] e X.env = pure none := by
    cases tg <;> first | (cases hok; done) | rfl | (cases e <;> first | rfl | cases hok)
  have h1 : (assignEach [tg] X.env).map (·.2) = [assign tg X.env] := by
    cases tg <;> first | (cases hok; done) | rfl
  refine ⟨ps_imp (ps_asg he.pe hg.pg (no_swap hcm _ _ _) hw h1) fun De σ H ⟨env, foot, sf, q⟩ => ⟨env, foot, sf, q.ofR.imp (fun d env1 ea q0 v H1 p => ?_) fun x e2 q cls dd H' p => q cls dd σ H' p.xs⟩, he.kp.trans kpT fun _ h => h⟩
  obtain ⟨f1', sf1, c, r⟩ := p
  clear ea
  cases hbd : bindT T d env1 with
  | none => rw [hbd] at q0; exact q0.elim
  | some e2 =>
    rw [hbd] at q0
    refine ⟨env1, f1', d, e2, sf1, r, hbd, fun σ' f' sf' c' k => ?_⟩
    exact (show ∀ σ' H', _ → _ from q0) σ' H1 ⟨f', sf', c.trans' c' fun _ h => h, fun i hi => k i fun z => hlk i z hi, fun i hi => k i fun z => hpin i z hi⟩
end
end VK
set_option Elab.async false
set_option linter.all false
set_option maxHeartbeats 1000000
/-! statements, 2 -/
namespace VK
open PySem PySem.Spec PyProof.Rows L2
section
variable {X : Cx} {g : GF} {ec : EC} {W : WX} {P : Pn} {e a b c tg iter : Expr} {es : List Expr} {st : Stmt} {ss body : List Stmt} {lk lk1 lk2 lk3 ω ω' ω1 ω2 ω3 : List Nat} {i j k k1 k2 m n : Nat} {base : Option Nat} {fa fb fc : Env → R D} {f f1 f2 : Env → Fl} {fi : Env → R (List D)} {x y : Str} {p pos apos cpos : Pos} {T : Tg}
/-- a, b = e1, e2 -/
theorem rs_par {px py pt pt2 : Pos} {kt kt2 : Nat} (hc : X.calm = true) (hN : X.N.Nodup) (hx : X.N[i]? = some x) (hy : X.N[j]? = some y) (hij : i ≠ j) (lx : X.env.scope.names.lookup x = some .local) (ly : X.env.scope.names.lookup y = some .local)
    (hw : swappedStores [.Tuple [.Name x px, .Name y py] kt pt] (.Tuple [a, b] kt2 pt2) X.env = pure (some [x, y])) (na : ∀ z p, a ≠ .Starred z p) (nb : ∀ z p, b ≠ .Starred z p)
    (ha : RP X g ec W a lk ω ω1 k1 none fa) (hb : RP X g ec W b lk ω1 ω2 k2 none fb) (hi : i ∉ lk) (hj : j ∉ lk) (pi : i ∉ P.pin) (pj : j ∉ P.pin) (li : i < ω2.length) (lj : j < ω2.length) :
    RS X g ec W P (.Assign [.Tuple [.Name x px, .Name y py] kt pt] (.Tuple [a, b] kt2 pt2) pos) lk ω ((ω2.set i k1).set j k2) (fun env => ofR (consR fa (consR fb nilR) env) fun xs e1 => match bindTs (.cons (.nm i) (.cons (.nm j) .nil)) xs e1 with
      | some e2 => .nx e2
      | none => .err) := by
  have s0 : ∀ i ∈ lk, i ∈ lk := fun _ h => h
  refine ⟨ps_imp (ps_par hc hN hx hy hij lx ly (pa_cons ha.pe (pa_cons hb.pe pa_nil (star_cons nb _)) (star_cons na _)) hw rfl) fun De σ H ⟨env, foot, sf, q⟩ => ⟨env, foot, sf, (Out.bind.mp q.ofR).imp (fun d1 env1 ea q0 v1 H1 p1 => ?_) fun x e2 q cls dd H' p => q cls dd σ H' p.xs⟩, ((ha.kp.trans hb.kp s0).set hi).set hj⟩
  obtain ⟨f1', sf1, c1, S1, o1, nd1, dj1, own1⟩ := p1
  refine ⟨env1, f1', sf1, (Out.bind.mp (Out.bind.mp q0)).imp (fun d2 env2 eb q1 v2 H2 p2 => ?_) fun x e2 q cls dd H' p => q cls dd σ H' (p.over c1 ha.kp s0).xs⟩
  obtain ⟨f2', sf2, c2, S2, o2, nd2, dj2, own2⟩ := p2
  clear ea eb q0
  refine ⟨v1, v2, rfl, ?_⟩
  have nAv : ∀ a ∈ S1, ¬ Av lk f1' a := fun a ha z => dj1 a ha z.mem
  have o1' : Own X.K g H2 k1 d1 v1 S1 := o1.over nAv sf1 c2
  have live : ∀ a ∈ S1, H1 a ≠ none := fun a ha => by obtain ⟨u, eu, _⟩ := o1.mut a ha; rw [eu]; simp
  have dj1' : ∀ a ∈ S1, a ∉ f2'.flatten := fun a ha z => by
    obtain ⟨T, hT, haT⟩ := List.mem_flatten.mp z
    obtain ⟨j, hj⟩ := List.getElem?_of_mem hT
    by_cases hjl : j ∈ lk
    · rw [(c2.lkd j hjl).1] at hj
      exact dj1 a ha (List.mem_flatten.mpr ⟨T, List.mem_of_getElem? hj, haT⟩)
    · rcases c2.own a ⟨j, T, hjl, hj, haT⟩ with z | z
      · exact nAv a ha z
      · exact live a ha z
  have q1 : OutF (match bindTs (.cons (.nm i) (.cons (.nm j) .nil)) [d1, d2] env2 with
      | some e2 => Fl.nx e2
      | none => Fl.err) _ _ _ _ _ := q1
  by_cases hl : i < env2.length
  · by_cases hl2 : j < env2.length
    · have hb2 : bindTs (.cons (.nm i) (.cons (.nm j) .nil)) [d1, d2] env2 = some ((env2.set i (some d1)).set j (some d2)) := by
        simp [bindTs, bindT, hl, hl2]
      rw [hb2] at q1
      have cc := c1.trans' c2 s0
      obtain ⟨sA, cA⟩ := set_post0 (d := d1) (v := v1) sf2 cc o1' nd1 dj1' own1 hi hl li
      have own2' : ∀ a ∈ S2, Av lk foot a ∨ H a = none := fun a ha => by
        rcases own2 a ha with z | z
        · exact c1.own a z
        · exact .inr (c1.none_of z)
      have dj2' : ∀ a ∈ S2, a ∉ (f2'.set i S1).flatten := fun a ha z => by
        obtain ⟨T, hT, haT⟩ := List.mem_flatten.mp z
        rcases List.mem_or_eq_of_mem_set hT with hT | rfl
        · exact dj2 a ha (List.mem_flatten.mpr ⟨T, hT, haT⟩)
        · rcases own2 a ha with z | z
          · exact nAv a haT z
          · exact live a haT z
      obtain ⟨sB, cB⟩ := set_post0 (d := d2) (v := v2) sA cA o2 nd2 dj2' own2' hj (by rw [List.length_set]; exact hl2) (by rw [List.length_set]; exact lj)
      refine (show ∀ σ' H', _ → _ from q1) _ H2 ⟨_, sB, cB, fun l hl => ?_, fun l hl => ?_⟩
      · rw [List.getElem?_set_ne (fun z => hj (by rw [z]; exact hl)), List.getElem?_set_ne (fun z => hi (by rw [z]; exact hl))]
      · rw [List.getElem?_set_ne (fun z => pj (by rw [z]; exact hl)), List.getElem?_set_ne (fun z => pi (by rw [z]; exact hl))]
    · have hb2 : bindTs (.cons (.nm i) (.cons (.nm j) .nil)) [d1, d2] env2 = none := by
        simp [bindTs, bindT, hl, hl2]
      rw [hb2] at q1; exact q1.elim
  · have hb2 : bindTs (.cons (.nm i) (.cons (.nm j) .nil)) [d1, d2] env2 = none := by
      simp [bindTs, bindT, hl]
    rw [hb2] at q1; exact q1.elim
theorem setFlat_mem {Ss : List (List Addr)} {S1 : List Addr} {jj : Nat} {a : Addr} (h : a ∈ (Ss.set jj S1).flatten) : a ∈ Ss.flatten ∨ a ∈ S1 := by
  obtain ⟨T, hT, haT⟩ := List.mem_flatten.mp h
  rcases List.mem_or_eq_of_mem_set hT with hT | rfl
  · exact .inl (List.mem_flatten.mpr ⟨T, hT, haT⟩)
  · exact .inr haT
/-- the dict of a slot, and what may come in its place -/
theorem upd_dic {K : PySem.W.Frag} {σ : L2.St} {H H0 : Hp} {env e0 : Env} {foot f0 : List (List Addr)} {es : List (D × D)} {v : V} (t : Sf K g ω σ H env foot) (c : Chg lk f0 e0 H0 foot env H) (hi : i ∉ lk) (hd : env[i]? = some (some (.dic es))) (hv : σ[i]? = some (some v)) (hk : ω.getD i 0 = 0 + 1) :
    ∃ l kvs, v = .ref l ∧ H l = some (.dK kvs) ∧ RepK K g H es kvs ∧
      ∀ es' kvs', RepK K g H es' kvs' → Sf K g ω σ (upd H l (.dK kvs')) (env.set i (some (.dic es'))) (foot.set i [l]) ∧ Chg lk f0 e0 H0 (foot.set i [l]) (env.set i (some (.dic es'))) (upd H l (.dK kvs')) := by
  obtain ⟨v', S, hv', hS, o⟩ := t.slot i _ hd
  rw [hv] at hv'; cases hv'
  rw [hk] at o
  obtain ⟨l, kvs, rfl, eH, r, eS⟩ := o
  subst eS
  refine ⟨l, kvs, rfl, eH, r, fun es' kvs' r' => ?_⟩
  have st : Stays H (upd H l (.dK kvs')) := Stays.upd_mu eH trivial
  have out : ∀ b, b ≠ l → (upd H l (.dK kvs')) b = H b := fun b hb => upd_ne hb
  refine ⟨t.put hS st (fun b hb _ => out b fun z => hb (by rw [z]; exact List.mem_cons_self)) (fun a ha => .inl ha) (by simp) hv (fun _ _ => rfl) rfl (fun _ _ => rfl) ?_, c.put hi hS (fun a na => ?_) (fun b hb _ => out b fun z => hb (by rw [z]; exact List.mem_cons_self)) (fun a ha => .inl ha) _⟩
  · rw [hk]
    exact ⟨l, kvs', rfl, upd_same, r'.stay st, rfl⟩
  · by_cases h : a = l
    · subst h; rw [upd_same]; simp
    · rw [upd_ne h]; exact na
def tSetA : V → V → V → Hp → (Hp → Prop) → Prop := fun o i v H Q => rSetL o i v H Q ∨ ∃ a H', o = .ref a ∧ DPut H a i v H' ∧ Q H'
theorem set_all (hu : X.A.units + 65 < cLine) : PSet X tSetA := by
  intro pins s σ H o i v ov iv u Q I ro ri rv h
  rcases h with h | ⟨a, H', rfl, h, q⟩
  · exact set_list pins s σ H o i v ov iv u Q I ro ri rv h
  · obtain rfl : ov = Value.ref a := ro
    exact d_setItem (by omega) I h ri rv fun s' I' => ⟨H', I', q⟩
def set1R (l : Bool) (i : Nat) (fa fb : Env → R D) (e : Env) : Fl := ofR (fa e) fun y e1 => match getV i e1 with
    | none => .err
    | some _ => ofR (fb e1) fun j e2 => match getV i e2 with
      | none => .err
      | some d => if l && !isLst d then .err else match setIt d j y with
        | none => .err
        | some d' => .nx (e2.set i (some d'))
/-- x[b] = a -/
theorem rs_set1 {l : Bool} {tpos : Pos} (hu : X.A.units + 65 < cLine) (hx : PE X (.Name x p) (tVar i)) (hcm : isComp a = false) (hsl : ∀ lo hi s p, b ≠ .Slice lo hi s p) (ha : RP X g ec W a lk ω ω1 k none fa) (hb : RV X g ec W b (i :: lk) ω1 ω2 fb) (hi : i ∉ lk) (hk : ω1.getD i 0 = k + 1) (hkl : k = 0 ∨ l = true) :
    RS X g ec W P (.Assign [.Subscript (.Name x p) b tpos] a pos) lk ω ω2 (set1R l i fa fb) := by
  have s0 : ∀ i ∈ lk, i ∈ lk := fun _ h => h
  have sub : ∀ j ∈ lk, j ∈ i :: lk := fun j h => List.mem_cons_of_mem _ h
  have hw : swappedStores [.Subscript (.Name x p) b tpos] a X.env = pure none := rfl
  have hass : ∀ v, assign (.Subscript (.Name x p) b tpos) X.env v = (do
      let ov ← holding [v] (eval (.Name x p) X.env)
      let iv ← holding [v, ov] (eval b X.env)
      standAt tpos
      holding [v, ov, iv] (setItem ov iv v)
      release [v, ov, iv] []) := by
    intro v
    cases b <;> first | rfl | exact absurd rfl (hsl _ _ _ _)
  refine ⟨ps_imp (ps_asg ha.pe (pg_sub hx hb.pe (set_all hu) hass) (show swapsWithSole [.Subscript (.Name x p) b tpos] a pos.line X.env = pure false from no_swap hcm (some (.Subscript (.Name x p) b tpos)) pos.line X.env) hw rfl) fun De σ H ⟨env, foot, sf, q⟩ => ⟨env, foot, sf, q.ofR.imp (fun y env1 ea q0 v1 H1 p1 => ?_) fun x e2 q cls dd H' p => q cls dd σ H' p.xs⟩, ha.kp.trans hb.kp sub⟩
  obtain ⟨f1', sf1, c1, S1, o1, nd1, dj1, own1⟩ := p1
  clear ea
  cases hd1 : getV i env1 with
  | none => rw [hd1] at q0; exact q0.elim
  | some d1 =>
    rw [hd1] at q0
    have hi1 := getV_some hd1
    obtain ⟨v, Sx, hv, hSx, ox⟩ := sf1.slot i _ hi1
    refine ⟨v, hv, env1, f1', sf1, (OutF.ofR q0).imp (fun jd env2 eb q1 v2 H2 p2 => ?_) fun x e2 h cls dd H2 p => h cls dd σ H2 ((p.over Chg.refl Kp.refl sub).over c1 ha.kp s0).xs⟩
    obtain ⟨f2', sf2, c2, r2⟩ := p2
    clear eb q0
    obtain ⟨hf2, he2⟩ := c2.lkd i List.mem_cons_self
    have hd2 : getV i env2 = some d1 := by
      unfold getV at hd1 ⊢
      rw [he2]; exact hd1
    rw [hd2] at q1
    have nAv : ∀ a ∈ S1, ¬ Av (i :: lk) f1' a := fun a ha z => dj1 a ha z.mem
    have o1' : Own X.K g H2 k y v1 S1 := o1.over nAv sf1 c2
    have live : ∀ a ∈ S1, H1 a ≠ none := fun a ha => by obtain ⟨u, eu, _⟩ := o1.mut a ha; rw [eu]; simp
    have dj1' : ∀ a ∈ S1, a ∉ f2'.flatten := fun a ha z => by
      obtain ⟨T, hT, haT⟩ := List.mem_flatten.mp z
      obtain ⟨j, hj⟩ := List.getElem?_of_mem hT
      by_cases hjl : j ∈ i :: lk
      · rw [(c2.lkd j hjl).1] at hj
        exact dj1 a ha (List.mem_flatten.mpr ⟨T, List.mem_of_getElem? hj, haT⟩)
      · rcases c2.own a ⟨j, T, hjl, hj, haT⟩ with z | z
        · exact nAv a ha z
        · exact live a ha z
    have cc := c1.trans' (c2.unlock hi) s0
    have hk2 : ω2.getD i 0 = k + 1 := (hb.kp i List.mem_cons_self).trans hk
    dsimp only at q1
    by_cases hll : (l && !isLst d1) = true
    · rw [if_pos hll] at q1; exact q1.elim
    · rw [if_neg hll] at q1
      cases hs : setIt d1 jd y with
      | none => rw [hs] at q1; exact q1.elim
      | some d' =>
        rw [hs] at q1
        have q1 : ∀ σ' H', PvS X.K g P ω2 lk σ H foot env (env2.set i (some d')) σ' H' → De.nx σ' H' := q1
        cases d1 <;> simp only [setIt, reduceCtorEq] at hs
        · -- a list
          rename_i ds
          cases jd <;> simp only [reduceCtorEq] at hs
          rename_i nn
          obtain ⟨jj, hj, e'⟩ := Option.map_eq_some_iff.mp hs
          subst e'
          cases r2
          obtain ⟨la, xs, Ss, rfl, eH, r, nd, hf, hsub, go⟩ := upd_list sf2 cc hi (getV_some hd2) hv hk2
          have hj' : ixN xs.length nn = some jj := by rw [← r.length.1]; exact hj
          have hjl : jj < xs.length := (ixN_seq hj').2.1
          refine .inl ⟨la, xs, nn, jj, rfl, rfl, eH, hj', ?_⟩
          obtain ⟨n1, n2⟩ := List.nodup_cons.mp nd
          obtain ⟨U, hU⟩ : ∃ U, Ss[jj]? = some U := ⟨_, List.getElem?_eq_getElem (by rw [r.length.2]; exact hjl)⟩
          have g1 : (la :: (Ss.set jj S1).flatten).Nodup := by
            refine List.nodup_cons.mpr ⟨fun z => ?_, flat_nodup_set n2 hU nd1 fun a ha => .inr fun z => dj1' a ha (hsub a (List.mem_cons_of_mem _ z))⟩
            rcases setFlat_mem z with z | z
            · exact n1 z
            · exact dj1' la z (hsub la List.mem_cons_self)
          have g2 : ∀ a ∈ (Ss.set jj S1).flatten, a ∈ Ss.flatten ∨ (a ∉ f2'.flatten ∧ (Av lk foot a ∨ H a = none)) := fun a ha => by
            rcases setFlat_mem ha with z | z
            · exact .inl z
            · exact .inr ⟨dj1' a z, own1 a z⟩
          obtain ⟨sf', c', _⟩ := go (ds.set jj y) (xs.set jj v1) (Ss.set jj S1) (r.set o1' jj) g1 g2
          exact q1 σ _ ⟨_, sf', c', fun _ _ => rfl, fun _ _ => rfl⟩
        · -- a dict
          rename_i es'
          split at hs
          · rename_i hkey
            cases hs
            obtain ⟨key, rfl⟩ := isKey_of hkey.1
            rcases hkl with rfl | rfl
            · cases r2.key
              obtain ⟨la, kvs, rfl, eH, r, go⟩ := upd_dic sf2 cc hi (getV_some hd2) hv hk2
              obtain ⟨sf', c'⟩ := go (putD (kD key) y es') (putK kvs key v1) (r.put o1'.2)
              refine .inr ⟨la, _, rfl, .inl ⟨kvs, key, eH, rfl, by rw [← r.length, ← SZ_eq]; exact hkey.2, rfl⟩, q1 σ _ ⟨_, sf', c', fun _ _ => rfl, fun _ _ => rfl⟩⟩
            · exact absurd (show (true && !isLst (D.dic es')) = true from rfl) hll
          · cases hs
/-! ### x op= a -/
theorem iop_all (o : Op) : OpR X (inplaceOp (opOf o)) (fun x y H Q => ∃ d1 d2 d, Vw X.K g H 1 d1 x ∧ Vw X.K g H 1 d2 y ∧ augD o d1 d2 = some d ∧ ∀ v H', New X.K g H d v H' → Q v H') := by
  intro pins s σ H x y v u Q I rx ry h
  obtain ⟨d1, d2, d, w1, w2, he, q⟩ := h
  have ii : ∀ {i j : Int}, d1 = .int i → d2 = .int j → x = .int i ∧ y = .int j := fun e1 e2 => by subst e1 e2; exact ⟨w1.int, w2.int⟩
  unfold augD at he
  split at he
  all_goals first
    | (cases he; done)
    | (obtain ⟨e1, e2⟩ := ii rfl rfl)
    | skip
  · cases he; exact iop_add pins s σ H _ _ v u Q I rx ry ⟨_, _, e1, e2, q _ _ (.int _)⟩
  · cases he; exact iop_sub pins s σ H _ _ v u Q I rx ry ⟨_, _, e1, e2, q _ _ (.int _)⟩
  · split at he <;> cases he
    rename_i hz
    exact iop_mul pins s σ H _ _ v u Q I rx ry ⟨_, _, e1, e2, hz, q _ _ (.int _)⟩
  · split at he <;> cases he
    rename_i hz
    exact iop_fdiv pins s σ H _ _ v u Q I rx ry ⟨_, _, e1, e2, hz, q _ _ (.int _)⟩
  · split at he <;> cases he
    rename_i hz
    exact iop_mod pins s σ H _ _ v u Q I rx ry ⟨_, _, e1, e2, hz, q _ _ (.int _)⟩
  · cases he; exact iop_and pins s σ H _ _ v u Q I rx ry ⟨_, _, e1, e2, q _ _ (.int _)⟩
  · cases he; exact iop_or pins s σ H _ _ v u Q I rx ry ⟨_, _, e1, e2, q _ _ (.int _)⟩
  · split at he <;> cases he
    rename_i hz
    exact iop_shl pins s σ H _ _ v u Q I rx ry ⟨_, _, e1, e2, hz, q _ _ (.int _)⟩
  · split at he <;> cases he
    rename_i hz
    exact iop_shr pins s σ H _ _ v u Q I rx ry ⟨_, _, e1, e2, hz, q _ _ (.int _)⟩
  · split at he <;> cases he
    rename_i hz
    rw [SZ_eq] at hz
    exact iop_add_str pins s σ H _ _ v u Q I rx ry ⟨_, _, w1.str, w2.str, hz, q _ _ (.str _)⟩
theorem augD_flat {o : Op} {a b z : D} (h : augD o a b = some z) : (∃ n, z = .int n) ∨ ∃ t, z = .str t := by
  unfold augD at h
  split at h
  all_goals first
    | (cases h; done)
    | (cases h; exact .inl ⟨_, rfl⟩)
    | (split at h <;> cases h; first | exact .inl ⟨_, rfl⟩ | exact .inr ⟨_, rfl⟩)
def augR (o : Op) (i : Nat) (fa : Env → R D) (e : Env) : Fl := match getV i e with
    | none => .err
    | some old => ofR (fa e) fun y e1 => match augD o old y with
      | none => .err
      | some z => .nx (e1.set i (some z))
theorem rs_aug {o : Op} (hN : X.N.Nodup) (hx : X.N[i]? = some x) (hL : Loc X.env.scope x) (hf : X.fn x = true ∨ X.env.scope.names.lookup x = some .local) (ha : RV X g ec W a (i :: lk) ω ω1 fa) (hi : i ∉ lk) (hp : i ∉ P.pin) (hω : i < ω1.length) (h0 : ω.getD i 0 = 0) :
    RS X g ec W P (.AugAssign (.Name x p) (opOf o) a pos) lk ω (ω1.set i 0) (augR o i fa) := by
  have sub : ∀ j ∈ lk, j ∈ i :: lk := fun j h => List.mem_cons_of_mem _ h
  refine ⟨ps_imp (ps_aug hN hx hL ha.pe (iop_all (g := g) o) hf) fun De σ H ⟨env, foot, sf, q⟩ => ?_, fun j hj => ?_⟩
  · unfold augR at q
    cases hd : getV i env with
    | none => rw [hd] at q; exact q.elim
    | some old =>
      rw [hd] at q
      obtain ⟨v, S, hv, hS, o1⟩ := sf.slot i _ (getV_some hd)
      rw [h0] at o1
      refine ⟨v, hv, env, foot, sf, (OutF.ofR q).imp (fun y env1 ea q1 v1 H1 p1 => ?_) fun x e2 h cls dd H2 p => h cls dd σ H2 (p.over Chg.refl Kp.refl sub).xs⟩
      obtain ⟨f1', sf1, c1, r1⟩ := p1
      clear ea
      cases hz : augD o old y with
      | none => rw [hz] at q1; exact q1.elim
      | some z =>
        rw [hz] at q1
        have ro : Rep X.K g H1 old v := o1.2.over sf c1
        refine ⟨old, y, z, ⟨0, [], Nat.zero_le _, rfl, ro⟩, ⟨0, [], Nat.zero_le _, rfl, r1⟩, hz, fun w H' nw => ?_⟩
        have nf : Rep X.K g H' z w ∧ H' = H1 := by
          rcases augD_flat hz with ⟨n, rfl⟩ | ⟨t, rfl⟩ <;> cases nw with
          | flat r _ _ => exact ⟨r, rfl⟩
        obtain ⟨rw', rfl⟩ := nf
        have hl : i < env1.length := by
          have := (List.getElem?_eq_some_iff.mp (getV_some hd)).1
          rw [c1.len]; exact this
        exact (show ∀ σ' H', _ → _ from q1) _ _ (set_post (P := P) sf1 (c1.unlock hi) ⟨rfl, rw'⟩ .nil no_mem no_mem hi hp hl hω)
  · rw [getD_set _ _ _ _ hω, if_neg (fun z => hi (by rw [← z]; exact hj))]
    exact ha.kp j (sub j hj)
end
end VK
set_option Elab.async false
set_option linter.all false
set_option maxHeartbeats 1000000
/-! comprehensions -/
namespace VK
open PySem PySem.Spec PyProof.Rows L2
section
variable {X : Cx} {g : GF} {ec : EC} {W : WX} {P : Pn} {e a b c tg iter elt : Expr} {es : List Expr} {st : Stmt} {ss body : List Stmt} {lk lk1 lk2 lk3 ω ω' ω1 ω2 ω3 own : List Nat} {i j k k1 k2 m n : Nat} {base : Option Nat} {fa fb fc : Env → R D} {f f1 f2 : Env → Fl} {fi fs : Env → R (List D)} {fb' ft : Env → R Bool} {x y : Str} {p pos apos cpos : Pos} {T : Tg}
theorem wipeE_len (own : List Nat) (e : Env) : (VK.wipe own e).length = e.length := by
  induction own with
  | nil => rfl
  | cons i own ih => show ((VK.wipe own e).set i none).length = _; rw [List.length_set]; exact ih
theorem wipeE_in {own : List Nat} {e : Env} {i : Nat} (h : i ∈ own) : (VK.wipe own e)[i]? = some none ∨ (VK.wipe own e)[i]? = none := by
  induction own with
  | nil => cases h
  | cons j own ih =>
    show ((VK.wipe own e).set j none)[i]? = _ ∨ _
    by_cases hj : j = i
    · subst hj
      by_cases hl : j < (VK.wipe own e).length
      · exact .inl (List.getElem?_set_self hl)
      · exact .inr (List.getElem?_eq_none (by rw [show VK.wipe (j :: own) e = (VK.wipe own e).set j none from rfl, List.length_set]; omega))
    · rw [show VK.wipe (j :: own) e = (VK.wipe own e).set j none from rfl, List.getElem?_set_ne hj]
      exact ih ((List.mem_cons.mp h).resolve_left fun z => hj z.symm)
theorem wipeE_out {own : List Nat} {e : Env} {i : Nat} (h : i ∉ own) : (VK.wipe own e)[i]? = e[i]? := by
  induction own with
  | nil => rfl
  | cons j own ih =>
    have h2 := List.not_mem_of_not_mem_cons h
    rw [show VK.wipe (j :: own) e = (VK.wipe own e).set j none from rfl, List.getElem?_set_ne (fun z => h (by rw [z]; exact List.mem_cons_self))]
    exact ih h2
theorem backE_out {own : List Nat} {e0 e : Env} {i : Nat} (h : i ∉ own) : (VK.back own e0 e)[i]? = e[i]? := by
  induction own with
  | nil => rfl
  | cons j own ih =>
    rw [show VK.back (j :: own) e0 e = (VK.back own e0 e).set j ((e0[j]?).getD none) from rfl, List.getElem?_set_ne (fun z => h (by rw [z]; exact List.mem_cons_self))]
    exact ih (List.not_mem_of_not_mem_cons h)
theorem backE_len (own : List Nat) (e0 e : Env) : (VK.back own e0 e).length = e.length := by
  induction own with
  | nil => rfl
  | cons i own ih => rw [show VK.back (i :: own) e0 e = (VK.back own e0 e).set i ((e0[i]?).getD none) from rfl, List.length_set]; exact ih
theorem backE_in {own : List Nat} {e0 e : Env} (hl : e.length = e0.length) {i : Nat} (h : i ∈ own) : (VK.back own e0 e)[i]? = e0[i]? := by
  induction own with
  | nil => cases h
  | cons j own ih =>
    rw [show VK.back (j :: own) e0 e = (VK.back own e0 e).set j ((e0[j]?).getD none) from rfl]
    by_cases hj : j = i
    · subst hj
      by_cases hl2 : j < e0.length
      · rw [List.getElem?_set_self (by rw [backE_len, hl]; exact hl2), List.getElem?_eq_getElem hl2]; rfl
      · rw [List.getElem?_eq_none (by rw [List.length_set, backE_len, hl]; omega), List.getElem?_eq_none (by omega)]
    · rw [List.getElem?_set_ne hj]
      exact ih ((List.mem_cons.mp h).resolve_left fun z => hj z.symm)
theorem wipeS_out {σ : L2.St} {vs : List Nat} {i : Nat} (h : i ∉ vs) : (L2.wipe σ vs)[i]? = σ[i]? := by
  induction vs with
  | nil => rfl
  | cons j vs ih =>
    rw [show L2.wipe σ (j :: vs) = (L2.wipe σ vs).set j none from rfl, List.getElem?_set_ne (fun z => h (by rw [z]; exact List.mem_cons_self))]
    exact ih (List.not_mem_of_not_mem_cons h)
theorem wipeS_in {σ : L2.St} {vs : List Nat} {i : Nat} (h : i ∈ vs) (hl : i < σ.length) : (L2.wipe σ vs)[i]? = some none := by
  induction vs with
  | nil => cases h
  | cons j vs ih =>
    rw [show L2.wipe σ (j :: vs) = (L2.wipe σ vs).set j none from rfl]
    by_cases hj : j = i
    · subst hj; exact List.getElem?_set_self (by rw [L2.wipe_length]; exact hl)
    · rw [List.getElem?_set_ne hj]; exact ih ((List.mem_cons.mp h).resolve_left fun z => hj z.symm)
theorem wipeS_eq {σ σ' : L2.St} {vs : List Nat} (hl : σ'.length = σ.length) (h : ∀ i, i ∉ vs → σ'[i]? = σ[i]?) : L2.wipe σ' vs = L2.wipe σ vs := by
  refine List.ext_getElem? fun i => ?_
  by_cases hi : i ∈ vs
  · by_cases hl2 : i < σ.length
    · rw [wipeS_in hi hl2, wipeS_in hi (by omega)]
    · rw [List.getElem?_eq_none (by rw [L2.wipe_length]; omega), List.getElem?_eq_none (by rw [L2.wipe_length]; omega)]
  · rw [wipeS_out hi, wipeS_out hi, h i hi]
/-- the own slots forgotten -/
theorem Sf.wiped {K : PySem.W.Frag} {σ : L2.St} {H : Hp} {env : Env} {foot : List (List Addr)} (t : Sf K g ω σ H env foot) (h0 : ∀ i ∈ own, ω.getD i 0 = 0) : Sf K g ω (L2.wipe σ own) H (VK.wipe own env) foot := by
  refine ⟨by rw [L2.wipe_length, wipeE_len]; exact t.len, by rw [wipeE_len]; exact t.lenF, fun i d e => ?_, fun i e => ?_, t.nd⟩
  · by_cases hi : i ∈ own
    · rcases wipeE_in (e := env) hi with z | z <;> rw [z] at e <;> cases e
    · rw [wipeE_out hi] at e
      obtain ⟨v, S, h1, h2, o⟩ := t.slot i d e
      exact ⟨v, S, by rw [wipeS_out hi]; exact h1, h2, o⟩
  · by_cases hi : i ∈ own
    · have hl : i < env.length := by
        have := (List.getElem?_eq_some_iff.mp e).1
        rw [wipeE_len] at this; exact this
      cases hd : env[i]? with
      | none => exact absurd (List.getElem?_eq_none_iff.mp hd) (by omega)
      | some o =>
        cases o with
        | none => exact t.dead i hd
        | some d =>
          obtain ⟨v, S, h1, h2, o⟩ := t.slot i d hd
          rw [h0 i hi] at o
          rw [h2, o.1]
    · rw [wipeE_out hi] at e
      exact t.dead i e
/-- the own slots come again -/
theorem Sf.backed {K : PySem.W.Frag} {σ σ2 : L2.St} {H H2 : Hp} {env env2 : Env} {foot foot2 : List (List Addr)} (t0 : Sf K g ω σ H env foot) (t : Sf K g ω σ2 H2 env2 foot2) (st : Stays H H2) (h0 : ∀ i ∈ own, ω.getD i 0 = 0) (hl : env2.length = env.length) (hs : ∀ i, i ∉ own → σ2[i]? = σ[i]?) : Sf K g ω σ H2 (VK.back own env env2) foot2 := by
  have emp : ∀ i ∈ own, i < env.length → foot2[i]? = some [] := fun i hi hlt => by
    cases hd : env2[i]? with
    | none => exact absurd (List.getElem?_eq_none_iff.mp hd) (by omega)
    | some o =>
      cases o with
      | none => exact t.dead i hd
      | some d =>
        obtain ⟨v, S, h1, h2, o⟩ := t.slot i d hd
        rw [h0 i hi] at o
        rw [h2, o.1]
  refine ⟨by rw [backE_len, hl]; exact t0.len, by rw [backE_len]; exact t.lenF, fun i d e => ?_, fun i e => ?_, t.nd⟩
  · by_cases hi : i ∈ own
    · rw [backE_in hl hi] at e
      obtain ⟨v, S, h1, h2, o⟩ := t0.slot i d e
      rw [h0 i hi] at o ⊢
      exact ⟨v, [], h1, emp i hi (List.getElem?_eq_some_iff.mp e).1, rfl, o.2.stay st⟩
    · rw [backE_out hi] at e
      obtain ⟨v, S, h1, h2, o⟩ := t.slot i d e
      exact ⟨v, S, (hs i hi).symm.trans h1, h2, o⟩
  · by_cases hi : i ∈ own
    · rw [backE_in hl hi] at e
      exact emp i hi (List.getElem?_eq_some_iff.mp e).1
    · rw [backE_out hi] at e
      exact t.dead i e
theorem Out.fits {r : R (List D)} {P : List D → Env → Prop} {E : D → Env → Prop} (h : Out (VK.fits (noExc r)) P E) : Out r (fun xs e => xs.length ≤ SZ ∧ P xs e) (fun _ _ => False) := by
  cases r with
  | ok xs e =>
    have h : Out (if xs.length ≤ SZ then R.ok xs e else .err) P E := h
    by_cases hz : xs.length ≤ SZ
    · rw [if_pos hz] at h; exact ⟨hz, h⟩
    · rw [if_neg hz] at h; exact h.elim
  | exc x e => exact h
  | err => exact h
variable (X g ec W) in
/-- the tests of a comprehension -/
structure RTs (ifs : List Expr) (lk ω ω' : List Nat) (f : Env → R Bool) : Prop where
  pt : PTs X ifs (tT X.K g ec W lk ω ω' f)
  kp : Kp lk ω ω'
theorem rts_nil : RTs X g ec W [] lk ω ω (fun env => .ok true env) :=
  ⟨⟨fun pins s σ H Q I ⟨env, foot, sf, q⟩ => pts_nil.run pins s σ H Q I ((show ∀ v H', _ → _ from q) true H ⟨rfl, foot, sf, Chg.refl⟩)⟩, Kp.refl⟩
theorem rts_one (h : RT X g ec W c lk ω ω1 ft) : RTs X g ec W [c] lk ω ω1 ft := ⟨pts_one h.pt, h.kp⟩
abbrev W0 : WX := fun _ _ _ _ => False
theorem Chg.wiped {lk vs : List Nat} {f f' : List (List Addr)} {e e' : Env} {H H' : Hp} (c : Chg lk f e H f' e' H') (h : ∀ i ∈ vs, i ∉ lk) : Chg lk f e H f' (VK.wipe vs e') H' :=
  ⟨c.step, c.own, fun i hi => ⟨(c.lkd i hi).1, by rw [wipeE_out (fun z => h i z hi)]; exact (c.lkd i hi).2⟩, by rw [wipeE_len]; exact c.len⟩
theorem Chg.unwiped {lk vs : List Nat} {f f' : List (List Addr)} {e e' : Env} {H H' : Hp} (c : Chg lk f (VK.wipe vs e) H f' e' H') (h : ∀ i ∈ vs, i ∉ lk) : Chg lk f e H f' e' H' :=
  ⟨c.step, c.own, fun i hi => ⟨(c.lkd i hi).1, (c.lkd i hi).2.trans (wipeE_out (fun z => h i z hi))⟩, by rw [c.len, wipeE_len]⟩
theorem Chg.updNew {lk : List Nat} {f f' : List (List Addr)} {e e' : Env} {H H' : Hp} (c : Chg lk f e H f' e' H') {a : Addr} (n : H a = none) {o : HO} : Chg lk f e H f' e' (upd H' a o) :=
  ⟨⟨fun b u eb na => by rw [upd_ne (ne_of_none eb n)]; exact c.step.keep b u eb na, fun b nb => by
    by_cases hb : b = a
    · subst hb; rw [upd_same]; simp
    · rw [upd_ne hb]; exact c.step.dom b nb⟩, c.own, c.lkd, c.len⟩
theorem back_wipe {vs : List Nat} {e0 e : Env} (hl : e.length = e0.length) : VK.back vs e0 (VK.wipe vs e) = VK.back vs e0 e := by
  refine List.ext_getElem? fun i => ?_
  by_cases hi : i ∈ vs
  · rw [backE_in (by rw [wipeE_len]; exact hl) hi, backE_in hl hi]
  · rw [backE_out hi, backE_out hi, wipeE_out hi]
theorem Sf.mutD {K : PySem.W.Frag} {σ : L2.St} {H : Hp} {env : Env} {foot : List (List Addr)} (t : Sf K g ω σ H env foot) {a : Addr} {o : HO} {u : HO} (e : H a = some u) (m : Mu1 u) (n : a ∉ foot.flatten) : Sf K g ω σ (upd H a o) env foot :=
  t.move (Stays.upd_mu e m) fun b hb u' eu => by rw [upd_ne (fun z => n (by rw [← z]; exact hb))]; exact eu
/-- what is not in the state before and there does not come into it -/
theorem Chg.keeps {lk : List Nat} {f f' : List (List Addr)} {e e' : Env} {H H' : Hp} (c : Chg lk f e H f' e' H') {a : Addr} (n : a ∉ f.flatten) (h : H a ≠ none) : a ∉ f'.flatten := fun z => by
  obtain ⟨T, hT, haT⟩ := List.mem_flatten.mp z
  obtain ⟨j, hj⟩ := List.getElem?_of_mem hT
  by_cases hjl : j ∈ lk
  · rw [(c.lkd j hjl).1] at hj
    exact n (List.mem_flatten.mpr ⟨T, List.mem_of_getElem? hj, haT⟩)
  · rcases c.own a ⟨j, T, hjl, hj, haT⟩ with z | z
    · exact n z.mem
    · exact h z
/-- [elt for tg in iter if ..]: the reading -/
theorem t_lc {vs : List Nat} {w : TI} (hw : ∀ σ H R, tI X.K g ec W lk lk1 ω ω1 fi σ H R → w σ H R) (sub : ∀ i ∈ lk, i ∈ lk1) (h0 : ∀ i ∈ vs, ω1.getD i 0 = 0) (hol : ∀ i ∈ vs, i ∉ lk1) (hT : ∀ i ∈ namesT T, i ∈ vs) :
    ∀ σ H Q, tP X.K g ec W lk ω ω1 1 none (compR vs T fi ft (eltR fa)) σ H Q → tLc w (tGt X.K g lk1 ω1 ω1 T) (tT X.K g ec W0 lk1 ω1 ω1 ft) (tV X.K g ec W0 lk1 ω1 ω1 fa) vs σ H Q := by
  intro σ0 H0 Q ⟨env0, foot0, sf0, q⟩
  refine hw σ0 H0 _ ⟨env0, foot0, sf0, (Out.bind.mp q).imp (fun ds e1 _ q J H1 f1' sf1 c1 ok Dl nD => ?_) fun x e2 q => q⟩
  have q := Out.fits (Out.bind.mp q)
  have s1 : ∀ i ∈ lk1, i ∈ lk1 := fun _ h => h
  let F := turnR vs T ft (eltR fa)
  have nDf := sf1.notFoot nD
  -- what holds between the turns
  let Post : List D → List D → Env → Prop := fun accD zs e => (accD ++ zs).length ≤ SZ ∧ ∀ v H', PvP X.K g ω1 1 none lk σ0 H0 foot0 env0 (.lst (accD ++ zs)) (VK.back vs e1 e) v H' → Q v H'
  let At : List D → Hp → Prop := fun rest H => ∃ (env : Env) (foot : List (List Addr)) (accD : List D) (acc : List V), Sf X.K g ω1 (L2.wipe σ0 vs) H (VK.wipe vs env) foot ∧ Chg lk1 f1' e1 H1 foot (VK.wipe vs env) H ∧ Dl ∉ foot.flatten ∧ H Dl = some (.lst acc) ∧ Reps X.K g H accD acc ∧
    Out (turns F rest env) (Post accD) (fun _ _ => False)
  have start : At ds (upd H1 Dl (.lst [])) := ⟨e1, f1', [], [], (sf1.wiped h0).new nD, (Chg.refl.wiped hol).new nD, nDf, upd_same, .nil, q⟩
  refine ⟨fun i m H => i + m = ds.length ∧ At (ds.drop i) H, ⟨ds.length, by omega, by rw [List.drop_zero]; exact start⟩, fun i m H hW => ?_⟩
  obtain ⟨em, env, foot, accD, acc, sf, cg, nDl, hD, rA, q⟩ := hW
  have sty := cg.step.stays fun a h => sf1.mut a h.mem
  obtain ⟨ok1, ok2⟩ := ok H cg.step sty
  have hlen : env.length = e1.length := by have := cg.len; rw [wipeE_len] at this; exact this
  by_cases hlt : i < ds.length
  · have hd : ds.drop i = ds[i] :: ds.drop (i + 1) := List.drop_eq_getElem_cons hlt
    rw [hd] at q
    obtain ⟨go, yl⟩ := ok1 i ds[i] (List.getElem?_eq_getElem hlt)
    refine .inr ⟨go, fun H' => At (ds.drop (i + 1)) H', fun H' h => ⟨m - 1, by omega, by omega, h⟩, fun x H3 hy => ?_⟩
    obtain ⟨hH, rx⟩ := yl x H3 hy
    have st3 : Sf X.K g ω1 (L2.wipe σ0 vs) H3 (VK.wipe vs env) foot ∧ Chg lk1 f1' e1 H1 foot (VK.wipe vs env) H3 ∧ H3 Dl = some (.lst acc) ∧ Stays H H3 := by
      rcases hH with rfl | ⟨T, xs, n, rfl⟩
      · exact ⟨sf, cg, hD, Stays.refl⟩
      · exact ⟨sf.new n, cg.new n, by rw [upd_ne (ne_of_none hD n)]; exact hD, Stays.new n⟩
    obtain ⟨sf3, cg3, hD3, sty3⟩ := st3
    have q : Out ((turnR vs T ft (eltR fa) ds[i] env).bind fun ys e1 => (turns F (ds.drop (i + 1)) e1).bind fun zs e2 => .ok (ys ++ zs) e2) (Post accD) (fun _ _ => False) := q
    have q := Out.bind.mp q
    unfold turnR at q
    cases hbd : bindT T ds[i] (VK.wipe vs env) with
    | none => rw [hbd] at q; exact q.elim
    | some e3 =>
      rw [hbd] at q
      have q := Out.bind.mp q
      refine ⟨VK.wipe vs env, foot, ds[i], e3, sf3, rx, hbd, fun σ2 f2 sf2 c2 k3 => ?_⟩
      have hσ : L2.wipe σ2 vs = L2.wipe σ0 vs := wipeS_eq (by
        have a1 := sf2.len; have a2 := c2.len; have a3 := sf3.len
        rw [L2.wipe_length] at a3; omega) fun j hj => (k3 j fun z => hj (hT j z)).trans (wipeS_out hj)
      have cg2 := cg3.trans' c2 s1
      have nDl2 := c2.keeps nDl (by rw [hD3]; simp)
      have tail : ∀ {ys : List D} {vsY : List V} {e5 : Env} {f5 : List (List Addr)} {H5 : Hp}, Out ((turns F (ds.drop (i + 1)) e5).bind fun zs e2 => .ok (ys ++ zs) e2) (Post accD) (fun _ _ => False) →
          Sf X.K g ω1 σ2 H5 e5 f5 → Chg lk1 f1' e1 H1 f5 e5 H5 → Dl ∉ f5.flatten → H5 Dl = some (.lst (acc ++ vsY)) → Reps X.K g H5 (accD ++ ys) (acc ++ vsY) → At (ds.drop (i + 1)) H5 := fun {ys vsY e5 f5 H5} q sf5 c5 n5 d5 r5 => by
        refine ⟨e5, f5, accD ++ ys, acc ++ vsY, ?_, c5.wiped hol, n5, d5, r5, (Out.bind.mp q).imp (fun zs e2 _ h => ?_) fun _ _ h => h⟩
        · have := sf5.wiped h0
          rw [hσ] at this
          exact this
        · have h : Post accD (ys ++ zs) e2 := h
          show Post (accD ++ ys) zs e2
          unfold Post at h ⊢
          rw [List.append_assoc]
          exact h
      refine ⟨hσ, e3, f2, sf2, q.imp (fun t e4 _ q v4 H4 p4 => ?_) fun _ _ h => h.elim⟩
      obtain ⟨ev4, f4, sf4, c4⟩ := p4
      subst ev4
      have cg4 := cg2.trans' c4 s1
      have nDl4 := c4.keeps nDl2 (by rw [hD3]; simp)
      have hD4 : H4 Dl = some (.lst acc) := c4.step.keep Dl _ hD3 fun z => nDl2 z.mem
      have rA4 : Reps X.K g H4 accD acc := (rA.stay sty3).over sf2 c4
      cases v4 with
      | false =>
        rw [if_neg Bool.false_ne_true] at q ⊢
        refine tail (ys := []) (vsY := []) q sf4 cg4 nDl4 (by rw [List.append_nil]; exact hD4) (by rw [List.append_nil, List.append_nil]; exact rA4)
      | true =>
        rw [if_pos rfl] at q ⊢
        refine ⟨e4, f4, sf4, (Out.bind.mp q).imp (fun y e5 _ q v5 H5 p5 => ?_) fun _ _ h => h.elim⟩
        obtain ⟨f5, sf5, c5, r5⟩ := p5
        have q : Out ((turns F (ds.drop (i + 1)) e5).bind fun zs e2 => .ok ([y] ++ zs) e2) (Post accD) (fun _ _ => False) := q
        have hD5 : H5 Dl = some (.lst acc) := c5.step.keep Dl _ hD4 fun z => nDl4 z.mem
        have nDl5 := c5.keeps nDl4 (by rw [hD4]; simp)
        have rA5 : Reps X.K g H5 accD acc := rA4.over sf4 c5
        have hz : acc.length < sizeLine := by
          rw [← rA5.length, ← SZ_eq]
          cases ht : turns F (ds.drop (i + 1)) e5 with
          | ok zs e6 =>
            rw [ht] at q
            have h1 : (accD ++ ([y] ++ zs)).length ≤ SZ := (show Post accD ([y] ++ zs) e6 from q).1
            simp only [List.length_append, List.length_singleton] at h1
            omega
          | exc x e6 => rw [ht] at q; exact q.elim
          | err => rw [ht] at q; exact q.elim
        refine ⟨acc, hD5, hz, ?_⟩
        have st5 : Stays H5 (upd H5 Dl (.lst (acc ++ [v5]))) := Stays.upd_mu hD5 trivial
        exact tail (ys := [y]) (vsY := [v5]) q (sf5.mutD hD5 trivial nDl5) ((cg4.trans' c5 s1).updNew nD) nDl5 upd_same ((rA5.stay st5).append (.cons (r5.stay st5) .nil))
  · refine .inl ⟨ok2 i (by omega), ?_⟩
    have hge : ds.length ≤ i := by omega
    rw [List.drop_eq_nil_of_le hge] at q
    have q : Post accD [] env := q
    have q2 := q.2
    rw [List.append_nil] at q2
    have bk := Sf.backed (own := vs) sf1 sf sty h0 (by rw [wipeE_len]; exact hlen) fun j hj => wipeS_out hj
    rw [back_wipe hlen] at bk
    have cc : Chg lk foot0 env0 H0 foot (VK.wipe vs env) H := c1.trans' cg sub
    have holk : ∀ j ∈ lk, j ∉ vs := fun j hj z => hol j z (sub j hj)
    refine q2 _ H ⟨foot, bk, ⟨cc.step, cc.own, fun j hj => ⟨(cc.lkd j hj).1, ?_⟩, ?_⟩, [Dl], Own.one hD rA, by simp, fun a ha => ?_, fun a ha => ?_⟩
    · have := (cc.lkd j hj).2
      rw [wipeE_out (holk j hj)] at this
      rw [backE_out (holk j hj)]
      exact this
    · have := cc.len
      rw [wipeE_len] at this
      rw [backE_len]; exact this
    · obtain rfl := List.mem_singleton.mp ha; exact nDl
    · obtain rfl := List.mem_singleton.mp ha; exact .inr (c1.none_of nD)
end
end VK
set_option Elab.async false
set_option linter.all false
set_option maxHeartbeats 1000000
/-! comprehensions as rules; raise, try -/
namespace VK
open PySem PySem.Spec PyProof.Rows L2
section
variable {X : Cx} {g : GF} {ec : EC} {W : WX} {P : Pn} {e a b c tg iter elt : Expr} {es ifs : List Expr} {st : Stmt} {ss body : List Stmt} {lk lk1 lk2 lk3 ω ω' ω1 ω2 ω3 : List Nat} {i j k k1 k2 m n : Nat} {base : Option Nat} {fa fb fc : Env → R D} {f f1 f2 : Env → Fl} {fi fs : Env → R (List D)} {fb' ft : Env → R Bool} {x y : Str} {p pos apos cpos spos py : Pos} {T : Tg} {scope : Scope} {own : List (Str × Nat)}
theorem RG.cong {X' : Cx} (h : RG X' g tg lk ω ω2 T) (e : ∀ i, ω1.getD i 0 = ω2.getD i 0) : RG X' g tg lk ω ω1 T :=
  ⟨pg_imp h.pg fun v σ H Q ⟨env, foot, d, e', sf, r, hb, q⟩ => ⟨env, foot, d, e', sf, r, hb, fun σ' f' sf' c k => q σ' f' (sf'.cong e) c k⟩⟩
/-- what is wanted of a comprehension's block -/
structure LcOk (X : Cx) (g : GF) (ec : EC) (W : WX) (scope : Scope) (own : List (Str × Nat)) (tg iter elt : Expr) (ifs : List Expr) (lk lk1 ω ω1 : List Nat) (T : Tg) (fi : Env → R (List D)) (ft : Env → R Bool) (fa : Env → R D) : Prop where
  calm : X.calm = true
  nd : X.N.Nodup
  hi : RI X g ec W tg iter lk lk1 ω ω1 fi
  ok : BlkOk X.N X.env.scope scope own
  hg : ∀ (s : Shared) (H : Hp) (C : Addr) (cl : List (Str × Addr)) (fp : List Addr), RG (X.blk s H scope (compEnvC scope cl C X.env) fp) g tg lk1 ω1 ω1 T
  ht : ∀ (s : Shared) (H : Hp) (C : Addr) (cl : List (Str × Addr)) (fp : List Addr), RTs (X.blk s H scope (compEnvC scope cl C X.env) fp) g ec W0 ifs lk1 ω1 ω1 ft
  he : ∀ (s : Shared) (H : Hp) (C : Addr) (cl : List (Str × Addr)) (fp : List Addr), RV (X.blk s H scope (compEnvC scope cl C X.env) fp) g ec W0 elt lk1 ω1 ω1 fa
  set : ∀ z k p, iter ≠ .Set z k p
  h0 : ∀ i ∈ own.map (·.2), ω1.getD i 0 = 0
  ol : ∀ i ∈ own.map (·.2), i ∉ lk1
  nm : ∀ i ∈ namesT T, i ∈ own.map (·.2)
theorem rp_lc (L : LcOk X g ec W scope own tg iter elt ifs lk lk1 ω ω1 T fi ft fa) : RP X g ec W (.ListComp elt [⟨tg, iter, ifs, 0⟩] scope pos) lk ω ω1 1 none (compR (own.map (·.2)) T fi ft (eltR fa)) :=
  ⟨pe_imp (pe_lc L.calm L.nd L.hi.pi L.ok (fun s H C cl fp => (L.hg s H C cl fp).pg) (fun s H C cl fp => (L.ht s H C cl fp).pt) (fun s H C cl fp => (L.he s H C cl fp).pe) (notComp_set L.set _)) (t_lc (fun _ _ _ h => h) L.hi.sub L.h0 L.ol L.nm), L.hi.kp⟩
theorem rs_setLc (L : LcOk X g ec W scope own tg iter elt ifs lk lk1 ω ω1 T fi ft fa) (hk : X.env.scope.kind = .function) (hx : X.N[i]? = some x) (lx : X.env.scope.names.lookup x = some .local) (hl : (py.line == pos.line) = true)
    (ha : (scope.names.any fun (n, k) => n == x && (k == .local || k == .cell)) = false) (hi : i ∉ lk) (hp : i ∉ P.pin) (hω : i < ω1.length) :
    RS X g ec W P (.Assign [.Name x py] (.ListComp elt [⟨tg, iter, ifs, 0⟩] scope pos) spos) lk ω (ω1.set i 1) (fun env => ofR (compR (own.map (·.2)) T fi ft (eltR fa) env) fun d e1 => match bindT (.nm i) d e1 with
      | some e2 => .nx e2
      | none => .err) :=
  rs_setT (ps_setLc L.calm L.nd hx lx (sw_true hk lx hl ha) L.hi.pi L.ok (fun s H C cl fp => (L.hg s H C cl fp).pg) (fun s H C cl fp => (L.ht s H C cl fp).pt) (fun s H C cl fp => (L.he s H C cl fp).pe) (notComp_set L.set _)) (t_lc (fun _ _ _ h => h) L.hi.sub L.h0 L.ol L.nm) L.hi.kp hi hp hω

/-! ### raise -/
/-- an exception class of one's own that has nothing of its own -/
structure ExF (X : Cx) (ec : EC) (c : Nat) (x : Str) : Prop where
  ex : ∃ (C : Addr) (B newId initId : String) (bmB : List Value), ExcBaseFacts B newId initId bmB ∧ PySem.W.excIn X.K C bmB newId = true ∧ X.mg x = some (.ref C) ∧ PySem.W.keepIn X.K (.ref C) = true ∧ Raises X (.ref C) ∧ ec c C []
theorem rs_raise {mm : Str} {jj : Nat} {p2 : Pos} (hc : X.calm = true) (tk : Takes X W) (F : ExF X ec n x) (hg : Gl X x) (hdb : (x == ("__debug__" : Str)) = false) :
    RS X g ec W P (.Raise (some (.Call (.Name x p) [.Constant (.str mm) jj p2] [] cpos)) none pos) lk ω ω (fun env => .exc (.exc n [.str mm]) env) := by
  obtain ⟨C, B, newId, initId, bmB, h1, h2, h3, h4, h5, h6⟩ := F.ex
  refine ⟨ps_imp (ps_raise hc tk (pmk_own h1 h2 h3 h4 h5 hg hdb)) fun De σ H ⟨env, foot, sf, q⟩ => ?_, Kp.refl⟩
  exact (show ∀ cls dd σ' H', _ → _ from q) (.ref C) none σ H ⟨ω, foot, fun _ _ => rfl, sf, Chg.refl, fun _ _ => rfl, fun _ _ => rfl, n, [.str mm], C, [], rfl, h6, rfl, .inl rfl⟩

/-! ### try .. except -/
def zeroBut (lk ω : List Nat) : List Nat := (List.range ω.length).map fun i => if i ∈ lk then ω.getD i 0 else 0
theorem zeroBut_get (lk ω : List Nat) (i : Nat) : (zeroBut lk ω).getD i 0 = if i ∈ lk then ω.getD i 0 else 0 := by
  unfold zeroBut
  rw [List.getD_eq_getElem?_getD, List.getElem?_map]
  by_cases hi : i < ω.length
  · rw [List.getElem?_range hi]; rfl
  · rw [List.getElem?_eq_none (by rw [List.length_range]; omega)]
    have : ω.getD i 0 = 0 := getD_out hi
    rw [this]; simp
def triR (sup : Nat → Bool) (f1 f2 : Env → Fl) (env : Env) : Fl := match f1 env with
  | .exc (.exc k fs) e1 => if sup k then f2 e1 else .exc (.exc k fs) e1
  | .exc x e1 => .err
  | r => r
theorem rs_try {cv : Value} {sup : Nat → Bool} {b₀ : Stmt} {suite : List Stmt} {np pos' : Pos} (hs : X.stack = X.env :: X.outer) (hf : X.env.frame = some X.env.locals) (hc : Names X x cv) (tk : Takes X W) (hsup : ∀ k C fl, ec k C fl → PySem.W.exmOne X.K (.ref C) cv = some (sup k))
    (hb : ∀ (W : WX) (pn : List (Addr × Obj)) (xe : Value → Shared → Prop), Takes (X.tr pn xe) W → PassesOwn (model X.prog X.w) X.A X.env xe → RSs (X.tr pn xe) g ec W P body lk ω ω1 f1)
    (hsu : ∀ (a : Addr) (oe : Obj) (pn : List (Addr × Obj)), RSs (X.suite a ((a, oe) :: pn)) g ec W0 P (b₀ :: suite) lk (zeroBut lk ω) ω1 f2) (hne : ∀ env x e, f2 env ≠ .exc x e) (kp : Kp lk ω ω1) :
    RS X g ec W P (.Try body [.ExceptHandler (some (.Name x np)) none (b₀ :: suite) pos'] [] [] pos) lk ω ω1 (triR sup f1 f2) := by
  -- the suite from any depths
  let ts : TS := fun De σ H => ∃ ω', (∀ i ∈ lk, ω'.getD i 0 = ω.getD i 0) ∧ tS X.K g ec W0 P lk ω' ω1 f2 De σ H
  have hle : ∀ ω' : List Nat, (∀ i ∈ lk, ω'.getD i 0 = ω.getD i 0) → ∀ i, (zeroBut lk ω).getD i 0 ≤ ω'.getD i 0 := fun ω' h i => by
    rw [zeroBut_get]
    split
    · rename_i hi; rw [h i hi]; exact Nat.le_refl _
    · exact Nat.zero_le _
  have hsu2 : ∀ (a : Addr) (oe : Obj) (cls : Value) (d : Option Addr) (pn : List (Addr × Obj)), Zc cls d oe → (∃ vs, oe.data = .fields vs) → PSs (X.suite a ((a, oe) :: pn)) (b₀ :: suite) ts := fun a oe cls d pn _ _ => by
    refine ⟨fun pins s σ H De I ⟨ω', hω', env, foot, sf, q⟩ => ?_⟩
    have hlk : Kp lk ω' (zeroBut lk ω) := fun i hi => by rw [zeroBut_get, if_pos hi, hω' i hi]
    obtain ⟨H2, f2', I2, sf2, c2, st, _⟩ := Sf.lower (X := X.suite a ((a, oe) :: pn)) (g := g) I sf (hle ω' hω') hlk
    exact (hsu a oe pn).ps.run pins s σ H2 De I2 (tS_from (X := X.suite a ((a, oe) :: pn)) (fun _ h => h) c2 hlk (fun _ _ => rfl) (fun _ _ => rfl) sf2 q)
  refine ⟨ps_imp (ps_try_only (tb := fun W => tS X.K g ec W P lk ω ω1 f1) (ts := fun _ _ _ => ts) hs hf hc tk (fun W pn xe t po => (hb W pn xe t po).ps) hsu2) fun De σ H ⟨env, foot, sf, q⟩ => ⟨env, foot, sf, ?_⟩, kp⟩
  unfold triR at q
  cases hf1 : f1 env with
  | nx e => rw [hf1] at q; exact q
  | ret d e => rw [hf1] at q; exact q
  | brk e => rw [hf1] at q; exact q
  | cnt e => rw [hf1] at q; exact q
  | err => rw [hf1] at q; exact q
  | exc x0 e1 =>
    rw [hf1] at q
    cases x0 <;> try exact q.elim
    rename_i k fs
    intro cls dd σ' H' px
    obtain ⟨ω', f', kp', sf', c', g1, g2, ex⟩ := px
    obtain ⟨k', fs', C, fl, e, he, rfl, hx⟩ := id ex
    cases e
    refine ⟨sup k, hsup k C fl he, fun hb a na => ?_, fun hb => ?_⟩
    · have q : OutF (if sup k = true then f2 e1 else Fl.exc (.exc k fs) e1) _ _ _ _ _ := q
      rw [if_pos hb] at q
      refine ⟨ω', kp', ?_⟩
      refine ⟨e1, f', sf', ?_⟩
      cases h2 : f2 e1 with
      | nx e4 => rw [h2] at q; exact fun σ2 H2 p => (show ∀ σ' H', _ → _ from q) σ2 H2 (p.trans c' g1 g2 fun _ h => h)
      | brk e4 => rw [h2] at q; exact fun σ2 H2 p => (show ∀ σ' H', _ → _ from q) σ2 H2 (p.trans c' g1 g2 fun _ h => h)
      | cnt e4 => rw [h2] at q; exact fun σ2 H2 p => (show ∀ σ' H', _ → _ from q) σ2 H2 (p.trans c' g1 g2 fun _ h => h)
      | ret d e4 => rw [h2] at q; exact fun v H2 p => (show ∀ v H', _ → _ from q) v H2 (p.trans c' g2 fun _ h => h)
      | exc x2 e4 => exact absurd h2 (hne _ _ _)
      | err => rw [h2] at q; exact q.elim
    · have q : OutF (if sup k = true then f2 e1 else Fl.exc (.exc k fs) e1) _ _ _ _ _ := q
      rw [if_neg (by rw [hb]; simp)] at q
      exact (show ∀ cls dd σ' H', _ → _ from q) _ _ σ' H' ⟨ω', f', kp', sf', c', g1, g2, ex⟩
end
end VK
set_option Elab.async false
set_option linter.all false
/-! the reader, by one fuel; the ownership checker -/
namespace VK
open PySem PySem.Spec PyProof.Rows L2
structure Cn where
  N : List Str
  G : List (Str × GV)
  sc : Scope
  fn : Str → Bool
  deep : List Nat := []
def kd (Γ : Cn) (x : Str) : Option NameKind := Γ.sc.names.lookup x
def isLo (Γ : Cn) (x : Str) : Bool := kd Γ x == some .local || kd Γ x == some .cell || kd Γ x == some .free
def nmOk (x : Str) : Bool := x != "__debug__" && x != "__classdict__" && x != "__name__"
def isGl (Γ : Cn) (x : Str) : Bool := kd Γ x == some .globalImplicit && nmOk x
def slo (Γ : Cn) (x : Str) : X Nat := if isLo Γ x && nmOk x then ofO (ixOf x Γ.N) else no
/-- a name that may be stored -/
def sto (Γ : Cn) (x : Str) : X Nat := if kd Γ x == some .local || (kd Γ x == some .cell && Γ.fn x) then ofO (ixOf x Γ.N) else no
def rEs (r : Expr → X E) : List Expr → X Es
  | [] => .ok .nil
  | e :: es => do
    let a ← r e
    let b ← rEs r es
    .ok (.cons a b)
def rKV (r : Expr → X E) : List (Option Expr) → List Expr → X Es
  | [], [] => .ok .nil
  | some k :: ks, v :: vs => do
    let a ← r k
    let b ← r v
    let c ← rKV r ks vs
    .ok (.cons a (.cons b c))
  | _, _ => no
def rAs (Γ : Cn) (r : Expr → X E) : List Expr → List Bool → X As
  | [], _ => .ok .nil
  | e :: es, true :: io => match e with
    | .Name x _ => do
      let i ← slo Γ x
      let b ← rAs Γ r es io
      .ok (.io i b)
    | _ => no
  | e :: es, io => do
    let a ← r e
    let b ← rAs Γ r es io.tail
    .ok (.val a b)
def rBool (r : Expr → X E) (f : E → E → E) : List Expr → X E
  | [] => no
  | [a] => r a
  | a :: es => do
    let x ← r a
    let y ← rBool r f es
    .ok (f x y)
def rO (r : Expr → X E) : Option Expr → X E
  | none => .ok .none
  | some e => do .ok (.ai (← r e))
def pr1 : List (Str × Pr) := [("len", .len), ("tuple", .tuple), ("list", .list), ("sorted", .sorted), ("sum", .sum), ("max", .max), ("min", .min), ("abs", .abs), ("int", .int), ("str", .str), ("all", .all), ("any", .any)]
def pr2 : List (Str × Pr) := [("max", .max2), ("min", .min2)]
def tys : List (Str × Ty) := [("int", .int), ("bool", .bool), ("str", .str), ("tuple", .tuple), ("list", .list), ("dict", .dict)]
/-- the built-in names that are read -/
def bltN : List Str := ["len", "tuple", "list", "sorted", "sum", "max", "min", "abs", "int", "str", "all", "any", "bool", "dict", "isinstance", "range"]
def rIsi (Γ : Cn) (r : Expr → X E) (a b : Expr) : X E := match b with
  | .Name t _ => if isGl Γ t && (Γ.G.lookup t).isNone then (do
      let t ← ofO (tys.lookup t)
      let a ← r a
      .ok (.pr (.isi [t]) (.cons a .nil))) else no
  | _ => no
def rBlt (Γ : Cn) (r : Expr → X E) (x : Str) : List Expr → X E
  | [a] => do
    let p ← ofO (pr1.lookup x)
    let a ← r a
    .ok (.pr p (.cons a .nil))
  | [a, b] => if x = "isinstance" then rIsi Γ r a b else (do
    let p ← ofO (pr2.lookup x)
    let a ← r a
    let b ← r b
    .ok (.pr p (.cons a (.cons b .nil))))
  | _ => no
def rCallN (Γ : Cn) (r : Expr → X E) (x : Str) (es : List Expr) : X E := if isGl Γ x then (match Γ.G.lookup x with
    | some (.fn i io) => do .ok (.call i (← rAs Γ r es io))
    | some _ => no
    | none => rBlt Γ r x es) else no
def rMeth (Γ : Cn) (r : Expr → X E) (o : Expr) (m : Str) (es : List Expr) : X E := match es with
  | [] => if m = "pop" then (match o with
      | .Name x _ => do .ok (.mu0 .pop (← slo Γ x) .nil)
      | _ => no) else no
  | [a] => if m = "append" ∨ m = "extend" ∨ (m = "pop") then (match o with
      | .Name x _ => do
        let i ← slo Γ x
        let a ← r a
        .ok (.mu0 (if m = "append" then .append else if m = "extend" then .extend else .popAt) i (.cons a .nil))
      | _ => no)
    else if notSup o then (do
      let k ← (if m = "split" then (.ok .split : X Me) else if m = "partition" then .ok .partition else if m = "join" then .ok .join else if m = "index" then .ok .index else if m = "get" then .ok .get1 else no)
      let o ← r o
      let a ← r a
      .ok (.me k o (.cons a .nil)))
    else no
  | _ => no
def rTgs (f : Expr → X Tg) : List Expr → X Tgs
  | [] => .ok .nil
  | e :: es => do
    let t ← f e
    let ts ← rTgs f es
    .ok (.cons t ts)
def rTg (Γ : Cn) : Nat → Expr → X Tg
  | 0, _ => no
  | n + 1, .Name x _ => do .ok (.nm (← sto Γ x))
  | n + 1, .Tuple es _ _ => do
    .ok (.tp (← rTgs (rTg Γ n) es))
  | _, _ => no
def rI (Γ : Cn) (r : Expr → X E) (it : Expr) : X It := match it with
  | .Call (.Name x _) es [] _ => if x = "range" then (if isGl Γ x && (Γ.G.lookup x).isNone then (match es with
      | [a] => do .ok (.rg (← r a))
      | [a, b] => do
        let a ← r a
        let b ← r b
        .ok (.rg2 a b)
      | _ => no) else no) else (do .ok (.e (← r it)))
  | it => do .ok (.e (← r it))
def rIf (r : Expr → X E) : List Expr → X E
  | [] => .ok (.c (.bl true))
  | [c] => r c
  | _ => no
def ownS (N : List Str) (sc : Scope) : X (List (Str × Nat)) :=
  (sc.names.filter fun y => (y.2 == .local || y.2 == .cell) && N.contains y.1).mapM fun y => (ofO (ixOf y.1 N)).map fun i => (y.1, i)
/-- BlkOk, decided -/
def blkB (N : List Str) (sc scope : Scope) (own : List (Str × Nat)) : Bool :=
  scope.kind == .function && (scope.names.all fun y => scope.names.lookup y.1 == some y.2) && (own.all fun p => N[p.2]? == some p.1) &&
  (scope.names.all fun y => y.2 != .free || sc.names.lookup y.1 == some .cell || sc.names.lookup y.1 == some .free) &&
  (scope.names.all fun y => !(y.2 == .local || y.2 == .cell) || (own.map (·.1)).contains y.1 || !N.contains y.1)
def inner (Γ : Cn) (sc : Scope) : Cn := { Γ with sc := relS sc Γ.sc, fn := fun x => sc.names.lookup x == some .cell }
def rLc (r : Cn → Expr → X E) (Γ : Cn) (elt : Expr) (gens : List Comprehension) (sc : Scope) : X E := match gens with
  | [⟨t, it, ifs, 0⟩] => do
    let own ← ownS Γ.N sc
    if blkB Γ.N Γ.sc sc own then (do
      let i ← rI Γ (r Γ) it
      let T ← rTg (inner Γ sc) 4 t
      let c ← rIf (r (inner Γ sc)) ifs
      let e ← r (inner Γ sc) elt
      .ok (.comp (own.map (·.2)) (.last (own.map (·.2)) T i c e))) else no
  | _ => no
def rSub (r : Expr → X E) (a i : Expr) : X E := match i with
  | .Slice lo hi st _ => (match st with
    | none => do
      let a ← r a
      let l ← rO r lo
      let h ← rO r hi
      .ok (.sl a l h)
    | some (.UnaryOp .USub (.Constant (.int 1) _ _) _) => if lo.isNone && hi.isNone then (do .ok (.rev (← r a))) else no
    | _ => no)
  | i => do
    let a ← r a
    let i ← r i
    .ok (.sub a i)
/-- [..] * n is told apart -/
def opF (a : Expr) (o : Op) : Op := match a, o with
  | .List _ _, .mul => .rep
  | _, o => o
def stepE (r : Cn → Expr → X E) (Γ : Cn) (e : Expr) : X E := match e with
  | .Constant k _ _ => (match k with
    | .none => .ok (.c .non)
    | .bool b => .ok (.c (.bl b))
    | .int i => .ok (.c (.int i))
    | .str s => .ok (.c (.str s))
    | _ => no)
  | .Name x _ => if isLo Γ x then (do .ok (.v (← slo Γ x))) else if isGl Γ x then (match Γ.G.lookup x with
    | some (.fn i _) => .ok (.c (.fn i))
    | some (.cst d) => .ok (.c d)
    | _ => no) else no
  | .BinOp a o b _ => do
    let x ← r Γ a
    let y ← r Γ b
    let o ← cOp o
    .ok (.op (opF a o) x y)
  | .UnaryOp o a _ => do
    let x ← r Γ a
    match o with
    | .USub => .ok (.neg x)
    | .Invert => .ok (.inv x)
    | .Not => .ok (.not x)
    | _ => no
  | .BoolOp o vs _ => (match vs with
    | a :: b :: vs => (match o with
      | .And => rBool (r Γ) .and (a :: b :: vs)
      | .Or => rBool (r Γ) .or (a :: b :: vs))
    | _ => no)
  | .Compare a ops bs _ => (match ops, bs with
    | [o], [b] => do
      let o ← cCm o b
      let x ← r Γ a
      let y ← r Γ b
      .ok (.cmp o x y)
    | [o1, o2], [b, c] => do
      let o1 ← cCm o1 b
      let o2 ← cCm o2 c
      let x ← r Γ a
      let y ← r Γ b
      let z ← r Γ c
      .ok (.ch o1 o2 x y z)
    | _, _ => no)
  | .IfExp c a b _ => do
    let c ← r Γ c
    let a ← r Γ a
    let b ← r Γ b
    .ok (.ite c a b)
  | .Tuple es _ _ => if es.length ≤ 1000 then (do .ok (.tup (← rEs (r Γ) es))) else no
  | .List es _ => if es.length ≤ 1000 then (do .ok (.lst (← rEs (r Γ) es))) else no
  | .Dict ks vs _ => if ks.length ≤ 15 then (do .ok (.dic (← rKV (r Γ) ks vs))) else no
  | .Subscript a i _ => rSub (r Γ) a i
  | .ListComp elt gens sc _ => rLc r Γ elt gens sc
  | .Call f es kws pos => if kws.isEmpty then (match f with
    | .Name x _ => rCallN Γ (r Γ) x es
    | .Attribute o m apos => if apos.endLine == pos.line then rMeth Γ (r Γ) o m es else no
    | .Subscript a i p => if es.isEmpty then no else (do
      let f ← rSub (r Γ) a i
      let as ← rAs Γ (r Γ) es []
      .ok (.callv f as))
    | _ => no) else no
  | _ => no
def rE : Nat → Cn → Expr → X E
  | 0 => fun _ _ => no
  | n + 1 => stepE (rE n)

/-! ### the checker -/
abbrev Sgs := List (Nat × Sig)
def tmpO (lk : List Nat) (r : List Nat × Nat × Option Nat) : Option (List Nat × Nat) := match r with
  | (ω, k, none) => some (ω, k)
  | (ω, k, some x) => (valO lk (ω, k, some x)).map fun ω => (ω, 0)
/-- a function that may be a value -/
def fcB (s : Sig) : Bool := s.rk == 0 && s.io.all (·.isNone)
def cOk (sg : Sgs) : D → Bool
  | .fn i => (sg.lookup i).any fcB
  | _ => true
def pkm : Pr → Nat
  | .isi _ => 9
  | _ => 1
/-- as a test: looked at -/
def fin (t : Bool) (lk : List Nat) (o : Option (List Nat × Nat × Option Nat)) : Option (List Nat × Nat × Option Nat) :=
  if t then o.bind fun r => (pkO 9 lk r).map fun q => (q.1, 0, none) else o
mutual
def oE (sg : Sgs) (t : Bool) (lk ω : List Nat) : E → Option (List Nat × Nat × Option Nat)
  | .c d => fin t lk (if cOk sg d then some (ω, 0, none) else none)
  | .v i => fin t lk (if ω.getD i 0 = 0 then some (ω, 0, none) else some (ω, ω.getD i 0, some i))
  | .op o a b => fin t lk (if o = .rep then (do
      let (ω1, k, bs) ← oE sg false lk ω a
      if 1 ≤ k ∧ bs = none then (do
        let (ω2, _) ← pkO 1 lk (← oE sg false lk ω1 b)
        some (ω2, 1, none)) else none)
    else (do
      let (ω1, lk1) ← pkO 1 lk (← oE sg false lk ω a)
      let (ω2, _) ← pkO 1 lk1 (← oE sg false lk1 ω1 b)
      some (ω2, 1, none)))
  | .neg a => fin t lk (do
    let (ω1, _) ← pkO 1 lk (← oE sg false lk ω a)
    some (ω1, 1, none))
  | .inv a => fin t lk (do
    let (ω1, _) ← pkO 1 lk (← oE sg false lk ω a)
    some (ω1, 1, none))
  | .not a => if t then oE sg true lk ω a else (do
    let (ω1, _) ← pkO 9 lk (← oE sg false lk ω a)
    some (ω1, 1, none))
  | .and a b => if t then (do
    let (ω1, _, _) ← oE sg true lk ω a
    let (ω2, _, _) ← oE sg true lk ω1 b
    if ω2 = ω1 then some (ω1, 0, none) else none)
  else (do
    let ω1 ← valO lk (← oE sg false lk ω a)
    let ω2 ← valO lk (← oE sg false lk ω1 b)
    if ω2 = ω1 then some (ω1, 0, none) else none)
  | .or a b => if t then (do
    let (ω1, _, _) ← oE sg true lk ω a
    let (ω2, _, _) ← oE sg true lk ω1 b
    if ω2 = ω1 then some (ω1, 0, none) else none)
  else (do
    let ω1 ← valO lk (← oE sg false lk ω a)
    let ω2 ← valO lk (← oE sg false lk ω1 b)
    if ω2 = ω1 then some (ω1, 0, none) else none)
  | .cmp _ a b => fin t lk (do
    let (ω1, lk1) ← pkO 9 lk (← oE sg false lk ω a)
    let (ω2, _) ← pkO 9 lk1 (← oE sg false lk1 ω1 b)
    some (ω2, 1, none))
  | .ch _ _ a b c => fin t lk (do
    let (ω1, lk1) ← pkO 9 lk (← oE sg false lk ω a)
    let (ω2, lk2) ← pkO 9 lk1 (← oE sg false lk1 ω1 b)
    let (ω3, _) ← pkO 9 lk2 (← oE sg false lk2 ω2 c)
    if ω3 = ω2 then some (ω2, 1, none) else none)
  | .ite c a b => if t then none else (do
    let (ω1, _, _) ← oE sg true lk ω c
    let (ω2, k) ← tmpO lk (← oE sg false lk ω1 a)
    let (ω3, k') ← tmpO lk (← oE sg false lk ω1 b)
    if ω3 = ω2 then some (ω2, min k k', none) else none)
  | .tup es => fin t lk (do
    let ω1 ← oL sg lk ω es
    some (ω1, 0, none))
  | .lst es => fin t lk (do
    let ω1 ← oL sg lk ω es
    some (ω1, 1, none))
  | .dic es => fin t lk (do
    let ω1 ← oL sg lk ω es
    some (ω1, 1, none))
  | .sub a i => fin t lk (do
    match ← oE sg false lk ω a with
    | (ω1, k + 2, some x) => do
      let ω2 ← valO (x :: lk) (← oE sg false (x :: lk) ω1 i)
      some (ω2, k + 1, some x)
    | r => do
      let (ω1, lk1) ← pkO 1 lk r
      let ω2 ← valO lk1 (← oE sg false lk1 ω1 i)
      some (ω2, 0, none))
  | .sl a lo hi => fin t lk (do
    let (ω1, lk1) ← pkO 1 lk (← oE sg false lk ω a)
    let ω2 ← oP sg lk1 ω1 lo
    let ω3 ← oP sg lk1 ω2 hi
    some (ω3, 1, none))
  | .rev a => fin t lk (do
    let (ω1, _) ← pkO 1 lk (← oE sg false lk ω a)
    some (ω1, 1, none))
  | .call f as => fin t lk (do
    let s ← sg.lookup f
    let ω1 ← oA sg lk ω as
    if matchA ω1 as s.io ∧ (iosA as).Nodup ∧ (∀ i ∈ iosA as, i ∉ lk) then some (ω1, s.rk, none) else none)
  | .callv f as => fin t lk (do
    let ω1 ← valO lk (← oE sg false lk ω f)
    let ω2 ← oA sg lk ω1 as
    if iosA as = [] then some (ω2, 0, none) else none)
  | .pr p (.cons a .nil) => fin t lk (do
    let (ω1, _) ← pkO (pkm p) lk (← oE sg false lk ω a)
    some (ω1, 1, none))
  | .pr _ (.cons a (.cons b .nil)) => fin t lk (do
    let (ω1, lk1) ← pkO 1 lk (← oE sg false lk ω a)
    let (ω2, _) ← pkO 1 lk1 (← oE sg false lk1 ω1 b)
    some (ω2, 1, none))
  | .me m a (.cons b .nil) => fin t lk (do
    let (ω1, lk1) ← pkO 1 lk (← oE sg false lk ω a)
    if m = .get1 then (do
      let ω2 ← valO lk1 (← oE sg false lk1 ω1 b)
      some (ω2, 0, none))
    else (do
      let (ω2, _) ← pkO 1 lk1 (← oE sg false lk1 ω1 b)
      some (ω2, 1, none)))
  | .mu0 m i .nil => fin t lk (if m = .pop ∧ i ∉ lk ∧ 1 ≤ ω.getD i 0 then some (ω, ω.getD i 0 - 1, none) else none)
  | .mu0 m i (.cons a .nil) => fin t lk (if i ∉ lk ∧ 1 ≤ ω.getD i 0 then (match m with
      | .append => do
        let (ω1, k) ← tmpO (i :: lk) (← oE sg false (i :: lk) ω a)
        if ω.getD i 0 - 1 ≤ k then some (ω1, 0, none) else none
      | .popAt => do
        let ω1 ← valO (i :: lk) (← oE sg false (i :: lk) ω a)
        some (ω1, ω.getD i 0 - 1, none)
      | .extend => do
        let (ω1, k) ← tmpO (i :: lk) (← oE sg false (i :: lk) ω a)
        if ω.getD i 0 ≤ k then some (ω1, 0, none) else none
      | _ => none) else none)
  | .comp own (.last own' tt it c e) => fin t lk (if own' = own then (do
      let (ω1, lk1) ← oI sg lk ω it
      let (ω2, _, _) ← oE sg true lk1 ω1 c
      let ω3 ← valO lk1 (← oE sg false lk1 ω1 e)
      if ω2 = ω1 ∧ ω3 = ω1 ∧ (∀ i ∈ own, ω1.getD i 0 = 0 ∧ i ∉ lk1) ∧ (∀ i ∈ namesT tt, i ∈ own ∧ i < ω1.length) then some (ω1, 1, none) else none) else none)
  | _ => none
def oP (sg : Sgs) (lk ω : List Nat) : E → Option (List Nat)
  | .none => some ω
  | .ai a => do valO lk (← oE sg false lk ω a)
  | _ => none
def oL (sg : Sgs) (lk ω : List Nat) : Es → Option (List Nat)
  | .nil => some ω
  | .cons a r => do
    let ω1 ← valO lk (← oE sg false lk ω a)
    oL sg lk ω1 r
def oA (sg : Sgs) (lk ω : List Nat) : As → Option (List Nat)
  | .nil => some ω
  | .io _ r => oA sg lk ω r
  | .val a r => do
    let ω1 ← valO lk (← oE sg false lk ω a)
    oA sg lk ω1 r
def oI (sg : Sgs) (lk ω : List Nat) : It → Option (List Nat × List Nat)
  | .e a => do pkO 1 lk (← oE sg false lk ω a)
  | .rg a => do
    let ω1 ← valO lk (← oE sg false lk ω a)
    some (ω1, lk)
  | .rg2 a b => do
    let ω1 ← valO lk (← oE sg false lk ω a)
    let ω2 ← valO lk (← oE sg false lk ω1 b)
    some (ω2, lk)
  | _ => none
end
end VK
set_option Elab.async false
set_option linter.all false
set_option maxHeartbeats 2000000
/-! the reader and the checker are sound: expressions -/
namespace VK
open PySem PySem.Spec PyProof.Rows L2
/-- what is known of the context -/
structure Ft (X : Cx) (g : GF) (ec : EC) (T : Tab) (sg : Sgs) (Γ : Cn) : Prop where
  sc : X.env.scope = Γ.sc
  N : X.N = Γ.N
  nd : X.N.Nodup
  fnE : X.fn = Γ.fn
  un : X.A.units + 65 < cLine
  calm : X.calm = true
  fns : ∀ x i io, Γ.G.lookup x = some (.fn i io) → ∃ u s k, X.mg x = some (.ref u) ∧ sg.lookup i = some s ∧ FnI X g ec T k s i u ∧ Room k X.A ∧ (fcB s = true → g i u)
  cst : ∀ x d, Γ.G.lookup x = some (.cst d) → ∃ v u, X.mg x = some u ∧ RelV v u ∧ ∀ H, Rep X.K g H d v
  blt : ∀ x, Γ.G.lookup x = none → bltN.contains x = true → X.mg x = none
  fv : ∀ i u, g i u → ∃ s k, FnI X g ec T k s i u ∧ Room k X.A ∧ s.rk = 0 ∧ (∀ o ∈ s.io, o = none) ∧ ∀ ds, ds.length ≠ s.io.length → T.call i ds = .err
section
variable {X : Cx} {g : GF} {ec : EC} {W : WX} {T : Tab} {sg : Sgs} {Γ : Cn} {e a b c o : Expr} {E' A B C : E} {lk ω ω' : List Nat} {k : Nat} {bs : Option Nat} {r : Cn → Expr → VK.X E} {x : Str} {p pos : Pos}
def isLogic : E → Bool
  | .not _ => true
  | .and _ _ => true
  | .or _ _ => true
  | .ite _ _ _ => true
  | _ => false
theorem oE_fin (h : isLogic E' = false) : oE sg true lk ω E' = fin true lk (oE sg false lk ω E') := by
  cases E' <;> first
    | (cases h; done)
    | rfl
    | (rename_i p es; cases es <;> first
        | rfl
        | (rename_i a es; cases es <;> first
            | rfl
            | (rename_i b es; cases es <;> rfl)))
    | (rename_i cl; cases cl <;> rfl)
theorem fin_true {q : Option (List Nat × Nat × Option Nat)} {z : List Nat × Nat × Option Nat} (h : fin true lk q = some z) : ∃ r0 ω1 lk1, q = some r0 ∧ pkO 9 lk r0 = some (ω1, lk1) ∧ z = (ω1, 0, none) := by
  unfold fin at h
  rw [if_pos rfl] at h
  obtain ⟨r0, h1, h2⟩ := Option.bind_eq_some_iff.mp h
  obtain ⟨⟨ω1, lk1⟩, h3, h4⟩ := Option.map_eq_some_iff.mp h2
  exact ⟨r0, ω1, lk1, h1, h3, h4.symm⟩
theorem fin_false (q : Option (List Nat × Nat × Option Nat)) : fin false lk q = q := rfl
/-- the promise of a reader -/
structure Gd (g : GF) (ec : EC) (T : Tab) (sg : Sgs) (r : Cn → Expr → VK.X E) : Prop where
  e : ∀ {X : Cx} {W : WX} {Γ : Cn} {e : Expr} {E' : E} {lk ω ω' : List Nat} {k : Nat} {bs : Option Nat}, Ft X g ec T sg Γ → Takes X W → r Γ e = .ok E' → oE sg false lk ω E' = some (ω', k, bs) → RP X g ec W e lk ω ω' k bs (ev T E')
  t : ∀ {X : Cx} {W : WX} {Γ : Cn} {e : Expr} {E' : E} {lk ω ω' : List Nat} {k : Nat} {bs : Option Nat}, Ft X g ec T sg Γ → Takes X W → r Γ e = .ok E' → oE sg true lk ω E' = some (ω', k, bs) → RT X g ec W e lk ω ω' (tr (ev T E'))
  st : ∀ {Γ : Cn} {e : Expr} {E' : E}, r Γ e = .ok E' → (∀ z p, e ≠ .Starred z p) ∧ (∀ z k p, e ≠ .Set z k p) ∧ ∀ a b c p, e ≠ .Slice a b c p
  ls : ∀ {Γ : Cn} {es : List Expr} {p : Pos} {E' : E}, r Γ (.List es p) = .ok E' → ∃ A, E' = .lst A
section
variable (G : Gd g ec T sg r) (F : Ft X g ec T sg Γ) (tk : Takes X W)
include G F tk
theorem Gd.val {ω1 : List Nat} (h : r Γ e = .ok E') (ho : (oE sg false lk ω E').bind (valO lk) = some ω1) : RV X g ec W e lk ω ω1 (ev T E') := by
  obtain ⟨⟨ω', k, bs⟩, h1, h2⟩ := Option.bind_eq_some_iff.mp ho
  exact (G.e F tk h h1).val h2
theorem Gd.pk {m : Nat} {ω1 lk1 : List Nat} (h : r Γ e = .ok E') (ho : (oE sg false lk ω E').bind (pkO m lk) = some (ω1, lk1)) : RK X g ec W e m lk1 lk ω ω1 (ev T E') := by
  obtain ⟨⟨ω', k, bs⟩, h1, h2⟩ := Option.bind_eq_some_iff.mp ho
  exact (G.e F tk h h1).peek h2
theorem Gd.tmp {ω1 : List Nat} {k : Nat} (h : r Γ e = .ok E') (ho : (oE sg false lk ω E').bind (tmpO lk) = some (ω1, k)) : RP X g ec W e lk ω ω1 k none (ev T E') := by
  obtain ⟨⟨ω', k', bs⟩, h1, h2⟩ := Option.bind_eq_some_iff.mp ho
  have z := G.e F tk h h1
  cases bs with
  | none =>
    simp only [tmpO, Option.some.injEq, Prod.mk.injEq] at h2
    obtain ⟨rfl, rfl⟩ := h2
    exact z
  | some x =>
    simp only [tmpO] at h2
    obtain ⟨w, h3, h4⟩ := Option.map_eq_some_iff.mp h2
    cases h4
    exact (z.val h3).rp
end
theorem ofO_ok {α : Type} {q : Option α} {v : α} (h : ofO q = .ok v) : q = some v := by
  cases q with
  | none => cases h
  | some w => cases h; rfl
theorem bind_ok {α β : Type} {q : VK.X α} {f : α → VK.X β} {v : β} (h : (q >>= f) = .ok v) : ∃ w, q = .ok w ∧ f w = .ok v := by
  cases q with
  | error u => cases h
  | ok w => exact ⟨w, rfl, h⟩
theorem ixOf_get {x : Str} : ∀ {N : List Str} {i : Nat}, ixOf x N = some i → N[i]? = some x
  | [], i, h => by cases h
  | y :: ys, i, h => by
    unfold ixOf at h
    split at h
    · rename_i e; cases h; rw [e]; rfl
    · obtain ⟨j, h1, h2⟩ := Option.map_eq_some_iff.mp h
      subst h2
      simpa using ixOf_get h1
theorem nm_dbg (h : nmOk x = true) : (x == ("__debug__" : Str)) = false ∧ (x == ("__classdict__" : Str)) = false ∧ x ≠ "__name__" := by
  unfold nmOk at h
  simp only [Bool.and_eq_true, bne_iff_ne, ne_eq] at h
  exact ⟨by simpa using h.1.1, by simpa using h.1.2, h.2⟩
theorem slo_pe (F : Ft X g ec T sg Γ) {i : Nat} (h : slo Γ x = .ok i) : PE X (.Name x p) (tVar i) := by
  unfold slo at h
  split at h
  · rename_i hh
    obtain ⟨h1, h2⟩ := Bool.and_eq_true_iff.mp hh
    obtain ⟨d1, d2, _⟩ := nm_dbg h2
    have hi := ixOf_get (ofO_ok h)
    refine pe_var (by rw [F.N]; exact hi) ?_ d1 d2
    rw [F.sc]
    unfold isLo kd at h1
    simp only [Bool.or_eq_true, beq_iff_eq] at h1
    rcases h1 with (h1 | h1) | h1
    · exact .inl h1
    · exact .inr (.inl h1)
    · exact .inr (.inr h1)
  · cases h
theorem gl_of (F : Ft X g ec T sg Γ) (h : isGl Γ x = true) : Gl X x ∧ (x == ("__debug__" : Str)) = false ∧ x ≠ "__name__" := by
  unfold isGl kd at h
  obtain ⟨h1, h2⟩ := Bool.and_eq_true_iff.mp h
  obtain ⟨d1, d2, d3⟩ := nm_dbg h2
  refine ⟨?_, d1, d3⟩
  show X.env.scope.names.lookup x = _
  rw [F.sc]
  simpa using h1
theorem bn_of (F : Ft X g ec T sg Γ) {u : Value} (h : isGl Γ x = true) (hn : Γ.G.lookup x = none) (hb : bootBuiltins x = some u) (hc : bltN.contains x = true) : BN X x u := by
  obtain ⟨h1, h2, h3⟩ := gl_of F h
  exact ⟨h1, F.blt x hn hc, hb, h3, h2⟩
theorem lookup_mem {β : Type} {x : Str} {v : β} : ∀ {l : List (Str × β)}, l.lookup x = some v → (x, v) ∈ l
  | [], h => by cases h
  | (y, w) :: l, h => by
    rw [List.lookup_cons] at h
    by_cases e : (x == y) = true
    · rw [e] at h
      cases h
      rw [beq_iff_eq.mp e]; exact List.mem_cons_self
    · rw [Bool.eq_false_iff.mpr e] at h
      exact List.mem_cons_of_mem _ (lookup_mem h)
theorem pr1_boot {q : Pr} (h : pr1.lookup x = some q) : bootBuiltins x = some (prV q) ∧ bltN.contains x = true ∧ ∀ ts, q ≠ .isi ts := by
  have := lookup_mem h
  simp only [pr1, List.mem_cons, Prod.mk.injEq, List.not_mem_nil, or_false] at this
  rcases this with ⟨rfl, rfl⟩ | ⟨rfl, rfl⟩ | ⟨rfl, rfl⟩ | ⟨rfl, rfl⟩ | ⟨rfl, rfl⟩ | ⟨rfl, rfl⟩ | ⟨rfl, rfl⟩ | ⟨rfl, rfl⟩ | ⟨rfl, rfl⟩ | ⟨rfl, rfl⟩ | ⟨rfl, rfl⟩ | ⟨rfl, rfl⟩ <;> exact ⟨by decide +kernel, by decide +kernel, fun _ z => by cases z⟩
theorem pr2_boot {q : Pr} (h : pr2.lookup x = some q) : bootBuiltins x = some (prV q) ∧ bltN.contains x = true ∧ ∀ ts, q ≠ .isi ts := by
  have := lookup_mem h
  simp only [pr2, List.mem_cons, Prod.mk.injEq, List.not_mem_nil, or_false] at this
  rcases this with ⟨rfl, rfl⟩ | ⟨rfl, rfl⟩ <;> exact ⟨by decide +kernel, by decide +kernel, fun _ z => by cases z⟩
theorem tys_boot {t : Ty} (h : tys.lookup x = some t) : bootBuiltins x = some (.type (tyN t)) ∧ bltN.contains x = true ∧ ∀ c, t ≠ .cls c := by
  have := lookup_mem h
  simp only [tys, List.mem_cons, Prod.mk.injEq, List.not_mem_nil, or_false] at this
  rcases this with ⟨rfl, rfl⟩ | ⟨rfl, rfl⟩ | ⟨rfl, rfl⟩ | ⟨rfl, rfl⟩ | ⟨rfl, rfl⟩ | ⟨rfl, rfl⟩ <;> exact ⟨by decide +kernel, by decide +kernel, fun _ z => by cases z⟩
end
end VK
set_option Elab.async false
set_option linter.all false
set_option maxHeartbeats 4000000
/-! the reader and the checker are sound: expressions, 2 -/
namespace VK
open PySem PySem.Spec PyProof.Rows L2
section
variable {X : Cx} {g : GF} {ec : EC} {W : WX} {T : Tab} {sg : Sgs} {Γ : Cn} {e a b c o : Expr} {es : List Expr} {E' A B C : E} {lk ω ω' ω1 : List Nat} {k : Nat} {bs : Option Nat} {r : Cn → Expr → VK.X E} {x : Str} {p pos apos : Pos}
variable (G : Gd g ec T sg r) (F : Ft X g ec T sg Γ) (tk : Takes X W)
include G F tk
theorem rEs_ok : ∀ {es : List Expr} {Es' : Es} {ω ω' : List Nat}, rEs (r Γ) es = .ok Es' → oL sg lk ω Es' = some ω' → RL X g ec W es lk ω ω' (evs T Es') ∧ ∀ env ds e, evs T Es' env = .ok ds e → ds.length = es.length
  | [], _, ω, ω', h, ho => by
    cases h
    cases ho
    exact ⟨rl_nil, fun env ds e h => by cases h; rfl⟩
  | e :: es, _, ω, ω', h, ho => by
    obtain ⟨A, h1, h2⟩ := bind_ok h
    obtain ⟨B, h3, h4⟩ := bind_ok h2
    cases h4
    have ho : ((oE sg false lk ω A).bind (valO lk)).bind (fun ω1 => oL sg lk ω1 B) = some ω' := by
      rw [← ho]; simp only [oL]; cases oE sg false lk ω A <;> rfl
    obtain ⟨ω1, g1, g2⟩ := Option.bind_eq_some_iff.mp ho
    have ra := G.val F tk h1 g1
    obtain ⟨rb, hl⟩ := rEs_ok h3 g2
    refine ⟨rl_cons ra rb (star_cons (G.st h1).1 _), fun env ds e h => ?_⟩
    have h : (ev T A env).bind (fun x e1 => (evs T B e1).bind fun xs e2 => .ok (x :: xs) e2) = .ok ds e := h
    cases h5 : ev T A env with
    | ok d e1 =>
      rw [h5] at h
      simp only [R.bind] at h
      cases h6 : evs T B e1 with
      | ok ds' e2 =>
        rw [h6] at h
        cases h
        simp [hl _ _ _ h6]
      | exc x e2 => rw [h6] at h; cases h
      | err => rw [h6] at h; cases h
    | exc x e1 => rw [h5] at h; cases h
    | err => rw [h5] at h; cases h
theorem rKV_ok : ∀ {ks : List (Option Expr)} {vs : List Expr} {Es' : Es} {ω ω' : List Nat}, rKV (r Γ) ks vs = .ok Es' → oL sg lk ω Es' = some ω' → RPs X g ec W pos ks vs lk ω ω' (evs T Es') ∧ ks.length = vs.length ∧ ks.all (·.isSome) = true
  | [], [], _, ω, ω', h, ho => by
    cases h
    cases ho
    exact ⟨rps_nil, rfl, rfl⟩
  | some k :: ks, v :: vs, _, ω, ω', h, ho => by
    obtain ⟨A, h1, h2⟩ := bind_ok h
    obtain ⟨B, h3, h4⟩ := bind_ok h2
    obtain ⟨C, h5, h6⟩ := bind_ok h4
    cases h6
    have ho : ((oE sg false lk ω A).bind (valO lk)).bind (fun ω1 => ((oE sg false lk ω1 B).bind (valO lk)).bind fun ω2 => oL sg lk ω2 C) = some ω' := by
      rw [← ho]; simp only [oL]
      cases oE sg false lk ω A with
      | none => rfl
      | some q =>
        simp only [Option.bind_eq_bind, Option.bind_some]
        cases valO lk q with
        | none => rfl
        | some w => simp only [Option.bind_some]; cases oE sg false lk w B <;> rfl
    obtain ⟨ω1, g1, g2⟩ := Option.bind_eq_some_iff.mp ho
    obtain ⟨ω2, g3, g4⟩ := Option.bind_eq_some_iff.mp g2
    obtain ⟨rc, l1, l2⟩ := rKV_ok h5 g4
    exact ⟨rps_cons (G.val F tk h1 g1) (G.val F tk h3 g3) rc, by simp [l1], by simp [l2]⟩
  | [], _ :: _, _, _, _, h, _ => by cases h
  | none :: _, _, _, _, _, h, _ => by cases h
  | some _ :: _, [], _, _, _, h, _ => by cases h
theorem rAs_ok : ∀ {es : List Expr} {io : List Bool} {as : As} {ω ω' : List Nat}, rAs Γ (r Γ) es io = .ok as → oA sg lk ω as = some ω' → RA X g ec W es lk ω ω' as (evA T as) ∧ noStar es = true
  | [], _, _, ω, ω', h, ho => by
    cases h
    cases ho
    exact ⟨ra_nil, rfl⟩
  | e :: es, io, as, ω, ω', h, ho => by
    have val : ∀ {io' : List Bool} {A : E} {B : As}, r Γ e = .ok A → rAs Γ (r Γ) es io' = .ok B → as = .val A B → RA X g ec W (e :: es) lk ω ω' as (evA T as) ∧ noStar (e :: es) = true := fun {io' A B} h1 h3 e4 => by
      subst e4
      have ho : ((oE sg false lk ω A).bind (valO lk)).bind (fun ω1 => oA sg lk ω1 B) = some ω' := by
        rw [← ho]; simp only [oA]; cases oE sg false lk ω A <;> rfl
      obtain ⟨ω1, g1, g2⟩ := Option.bind_eq_some_iff.mp ho
      obtain ⟨rb, st⟩ := rAs_ok h3 g2
      refine ⟨ra_val (G.st h1).1 (G.val F tk h1 g1) rb, ?_⟩
      have := (G.st h1).1
      cases e <;> first | exact st | exact absurd rfl (this _ _)
    match io, h with
    | true :: io, h =>
      cases e <;> try (cases h; done)
      rename_i x q
      obtain ⟨i, h1, h2⟩ := bind_ok h
      obtain ⟨B, h3, h4⟩ := bind_ok h2
      cases h4
      obtain ⟨rb, st⟩ := rAs_ok (es := es) h3 (show oA sg lk ω B = some ω' from ho)
      exact ⟨ra_io (slo_pe F h1) rb, st⟩
    | false :: io, h =>
      have h : (do
        let a ← r Γ e
        let b ← rAs Γ (r Γ) es io
        (Except.ok (As.val a b) : VK.X As)) = .ok as := by cases e <;> exact h
      obtain ⟨A, h1, h2⟩ := bind_ok h
      obtain ⟨B, h3, h4⟩ := bind_ok h2
      cases h4
      exact val h1 h3 rfl
    | [], h =>
      have h : (do
        let a ← r Γ e
        let b ← rAs Γ (r Γ) es []
        (Except.ok (As.val a b) : VK.X As)) = .ok as := by cases e <;> exact h
      obtain ⟨A, h1, h2⟩ := bind_ok h
      obtain ⟨B, h3, h4⟩ := bind_ok h2
      cases h4
      exact val h1 h3 rfl
theorem rO_ok {q : Option Expr} {A : E} (h : rO (r Γ) q = .ok A) (ho : oP sg lk ω A = some ω1) : RPt X g ec W q lk ω ω1 (ev T A) := by
  cases q with
  | none => cases h; cases ho; exact rpt_none
  | some e =>
    obtain ⟨B, h1, h2⟩ := bind_ok h
    cases h2
    have ho : (oE sg false lk ω B).bind (valO lk) = some ω1 := by rw [← ho]; rfl
    exact rpt_some (G.val F tk h1 ho)
/-- and, or as values -/
theorem rAnd_v : ∀ {vs : List Expr} {A : E} {ω ω' : List Nat}, rBool (r Γ) .and vs = .ok A → (oE sg false lk ω A).bind (valO lk) = some ω' → RV X g ec W (.BoolOp .And vs pos) lk ω ω' (ev T A)
  | [], _, _, _, h, _ => by cases h
  | [a], A, ω, ω', h, ho => rv_one (G.val F tk h ho)
  | a :: b :: vs, A, ω, ω', h, ho => by
    obtain ⟨x, h1, h2⟩ := bind_ok h
    obtain ⟨y, h3, h4⟩ := bind_ok h2
    cases h4
    obtain ⟨q, g1, g2⟩ := Option.bind_eq_some_iff.mp ho
    have g1 : ((oE sg false lk ω x).bind (valO lk)).bind (fun ω1 => ((oE sg false lk ω1 y).bind (valO lk)).bind fun ω2 => if ω2 = ω1 then some (ω1, 0, none) else none) = some q := by
      rw [← g1]; simp only [oE]
      cases oE sg false lk ω x with
      | none => rfl
      | some q =>
        simp only [Option.bind_eq_bind, Option.bind_some]
        cases valO lk q with
        | none => rfl
        | some w => simp only [Option.bind_some]; cases oE sg false lk w y <;> rfl
    obtain ⟨ω1, g3, g4⟩ := Option.bind_eq_some_iff.mp g1
    obtain ⟨ω2, g5, g6⟩ := Option.bind_eq_some_iff.mp g4
    split at g6
    · rename_i e
      subst e
      cases g6
      cases g2
      exact rv_and (G.val F tk h1 g3) (rAnd_v h3 g5)
    · cases g6
theorem rOr_v : ∀ {vs : List Expr} {A : E} {ω ω' : List Nat}, rBool (r Γ) .or vs = .ok A → (oE sg false lk ω A).bind (valO lk) = some ω' → RV X g ec W (.BoolOp .Or vs pos) lk ω ω' (ev T A)
  | [], _, _, _, h, _ => by cases h
  | [a], A, ω, ω', h, ho => rv_one (G.val F tk h ho)
  | a :: b :: vs, A, ω, ω', h, ho => by
    obtain ⟨x, h1, h2⟩ := bind_ok h
    obtain ⟨y, h3, h4⟩ := bind_ok h2
    cases h4
    obtain ⟨q, g1, g2⟩ := Option.bind_eq_some_iff.mp ho
    have g1 : ((oE sg false lk ω x).bind (valO lk)).bind (fun ω1 => ((oE sg false lk ω1 y).bind (valO lk)).bind fun ω2 => if ω2 = ω1 then some (ω1, 0, none) else none) = some q := by
      rw [← g1]; simp only [oE]
      cases oE sg false lk ω x with
      | none => rfl
      | some q =>
        simp only [Option.bind_eq_bind, Option.bind_some]
        cases valO lk q with
        | none => rfl
        | some w => simp only [Option.bind_some]; cases oE sg false lk w y <;> rfl
    obtain ⟨ω1, g3, g4⟩ := Option.bind_eq_some_iff.mp g1
    obtain ⟨ω2, g5, g6⟩ := Option.bind_eq_some_iff.mp g4
    split at g6
    · rename_i e
      subst e
      cases g6
      cases g2
      exact rv_or (G.val F tk h1 g3) (rOr_v h3 g5)
    · cases g6
/-- and, or as tests -/
theorem rAnd_t : ∀ {vs : List Expr} {A : E} {ω : List Nat} {q : List Nat × Nat × Option Nat}, rBool (r Γ) .and vs = .ok A → oE sg true lk ω A = some q → RW X g ec W (.BoolOp .And vs pos) lk ω q.1 (tr (ev T A))
  | [], _, _, _, h, _ => by cases h
  | [a], A, ω, (ω', k, bs), h, ho => rw_and1 (G.t F tk h ho)
  | a :: b :: vs, A, ω, q, h, ho => by
    obtain ⟨x, h1, h2⟩ := bind_ok h
    obtain ⟨y, h3, h4⟩ := bind_ok h2
    cases h4
    have ho : (oE sg true lk ω x).bind (fun q1 => (oE sg true lk q1.1 y).bind fun q2 => if q2.1 = q1.1 then some (q1.1, 0, none) else none) = some q := by
      rw [← ho]; simp only [oE, if_true]; rfl
    obtain ⟨⟨ω1, k1, b1⟩, g3, g4⟩ := Option.bind_eq_some_iff.mp ho
    obtain ⟨⟨ω2, k2, b2⟩, g5, g6⟩ := Option.bind_eq_some_iff.mp g4
    split at g6
    · rename_i e
      cases g6
      have e : ω2 = ω1 := e
      subst e
      have z := rAnd_t h3 g5
      exact rw_and (G.t F tk h1 g3) z
    · cases g6
theorem rOr_t : ∀ {vs : List Expr} {A : E} {ω : List Nat} {q : List Nat × Nat × Option Nat}, rBool (r Γ) .or vs = .ok A → oE sg true lk ω A = some q → RW X g ec W (.BoolOp .Or vs pos) lk ω q.1 (tr (ev T A))
  | [], _, _, _, h, _ => by cases h
  | [a], A, ω, (ω', k, bs), h, ho => rw_or1 (G.t F tk h ho)
  | a :: b :: vs, A, ω, q, h, ho => by
    obtain ⟨x, h1, h2⟩ := bind_ok h
    obtain ⟨y, h3, h4⟩ := bind_ok h2
    cases h4
    have ho : (oE sg true lk ω x).bind (fun q1 => (oE sg true lk q1.1 y).bind fun q2 => if q2.1 = q1.1 then some (q1.1, 0, none) else none) = some q := by
      rw [← ho]; simp only [oE, if_true]; rfl
    obtain ⟨⟨ω1, k1, b1⟩, g3, g4⟩ := Option.bind_eq_some_iff.mp ho
    obtain ⟨⟨ω2, k2, b2⟩, g5, g6⟩ := Option.bind_eq_some_iff.mp g4
    split at g6
    · rename_i e
      cases g6
      have e : ω2 = ω1 := e
      subst e
      have z := rOr_t h3 g5
      exact rw_or (G.t F tk h1 g3) z
    · cases g6
end
end VK
set_option Elab.async false
set_option linter.all false
set_option maxHeartbeats 4000000
/-! the reader and the checker are sound: expressions, 3 -/
namespace VK
open PySem PySem.Spec PyProof.Rows L2
section
variable {X : Cx} {g : GF} {ec : EC} {W : WX} {T : Tab} {sg : Sgs} {Γ : Cn} {e a b c o : Expr} {es : List Expr} {E' A B C : E} {lk ω ω' ω1 : List Nat} {k : Nat} {bs : Option Nat} {r : Cn → Expr → VK.X E} {x : Str} {p pos apos : Pos} {fs : Env → R (List D)} {q : Option (List Nat × Nat × Option Nat)} {z : List Nat × Nat × Option Nat}
theorem RL.ro (h : RL X g ec W es lk ω ω1 fs) : RO X g ec W es 0 lk ω ω1 fs := by
  refine ⟨pa_imp h.pa fun σ H Q ⟨env, foot, sf, q⟩ => ⟨env, foot, sf, q.imp (fun ds e1 _ q vs H1 p => ?_) fun _ _ h => h⟩, h.kp⟩
  obtain ⟨f1, sf1, c1, rs⟩ := p
  refine q vs H1 ⟨f1, _, sf1, c1, OwnL.of_reps rs, ?_, ?_, ?_⟩
  · rw [flat_nil]; exact List.Pairwise.nil
  · rw [flat_nil]; exact no_mem
  · rw [flat_nil]; exact no_mem
/-- two looks -/
theorem two_pk {m : Nat} {f : List Nat → Option (List Nat × Nat × Option Nat)} (h : (do
      let (ω1, lk1) ← pkO m lk (← oE sg false lk ω A)
      let (ω2, _) ← pkO m lk1 (← oE sg false lk1 ω1 B)
      f ω2) = some z) : ∃ ω1 lk1 ω2 lk2, (oE sg false lk ω A).bind (pkO m lk) = some (ω1, lk1) ∧ (oE sg false lk1 ω1 B).bind (pkO m lk1) = some (ω2, lk2) ∧ f ω2 = some z := by
  cases h1 : oE sg false lk ω A with
  | none => rw [h1] at h; cases h
  | some q1 =>
    rw [h1] at h
    simp only [Option.bind_eq_bind, Option.bind_some] at h ⊢
    cases h2 : pkO m lk q1 with
    | none => rw [h2] at h; cases h
    | some q2 =>
      obtain ⟨ω1, lk1⟩ := q2
      rw [h2] at h
      simp only [Option.bind_some] at h
      cases h3 : oE sg false lk1 ω1 B with
      | none => rw [h3] at h; cases h
      | some q3 =>
        rw [h3] at h
        simp only [Option.bind_some] at h
        cases h4 : pkO m lk1 q3 with
        | none => rw [h4] at h; cases h
        | some q4 =>
          obtain ⟨ω2, lk2⟩ := q4
          rw [h4] at h
          exact ⟨ω1, lk1, ω2, lk2, rfl, by rw [h3]; exact h4, h⟩
theorem one_pk {m : Nat} {f : List Nat → Option (List Nat × Nat × Option Nat)} (h : (do
      let (ω1, _) ← pkO m lk (← oE sg false lk ω A)
      f ω1) = some z) : ∃ ω1 lk1, (oE sg false lk ω A).bind (pkO m lk) = some (ω1, lk1) ∧ f ω1 = some z := by
  cases h1 : oE sg false lk ω A with
  | none => rw [h1] at h; cases h
  | some q1 =>
    rw [h1] at h
    simp only [Option.bind_eq_bind, Option.bind_some] at h ⊢
    cases h2 : pkO m lk q1 with
    | none => rw [h2] at h; cases h
    | some q2 =>
      obtain ⟨ω1, lk1⟩ := q2
      rw [h2] at h
      exact ⟨ω1, lk1, rfl, h⟩
variable (G : Gd g ec T sg r) (F : Ft X g ec T sg Γ) (tk : Takes X W)
include G F tk
theorem rSub_ok (h : rSub (r Γ) a b = .ok E') (ho : oE sg false lk ω E' = some (ω', k, bs)) : RP X g ec W (.Subscript a b pos) lk ω ω' k bs (ev T E') := by
  have plain : ∀ {A B : E}, (∀ lo hi st p, b ≠ .Slice lo hi st p) → r Γ a = .ok A → r Γ b = .ok B → E' = .sub A B → RP X g ec W (.Subscript a b pos) lk ω ω' k bs (ev T E') := fun {A B} hns hA hB hE => by
    subst hE
    have hpx : PlainIx b := fun o i => by cases b <;> first | rfl | exact absurd rfl (hns _ _ _ _)
    simp only [oE] at ho
    cases h1 : oE sg false lk ω A with
    | none => rw [h1] at ho; simp [fin] at ho
    | some q1 =>
      obtain ⟨ωa, ka, ba⟩ := q1
      have ra := G.e F tk hA h1
      rw [h1] at ho
      have gen : (fin false lk (do
          let (ω1, lk1) ← pkO 1 lk (ωa, ka, ba)
          let ω2 ← valO lk1 (← oE sg false lk1 ω1 B)
          some (ω2, 0, none))) = some (ω', k, bs) → RP X g ec W (.Subscript a b pos) lk ω ω' k bs (ev T (.sub A B)) := fun ho => by
        rw [fin_false] at ho
        cases h2 : pkO 1 lk (ωa, ka, ba) with
        | none => rw [h2] at ho; cases ho
        | some q2 =>
          obtain ⟨ω1, lk1⟩ := q2
          rw [h2] at ho
          simp only [Option.bind_eq_bind, Option.bind_some] at ho
          cases h3 : oE sg false lk1 ω1 B with
          | none => rw [h3] at ho; cases ho
          | some q3 =>
            rw [h3] at ho
            simp only [Option.bind_some] at ho
            cases h4 : valO lk1 q3 with
            | none => rw [h4] at ho; cases ho
            | some ω2 =>
              rw [h4] at ho
              cases ho
              exact (rv_sub F.un hpx (ra.peek h2) (G.val F tk hB (by rw [h3]; exact h4))).rp
      match ka, ba, ho, ra, gen with
      | 0, some x, ho, ra, gen => exact gen ho
      | 1, some x, ho, ra, gen => exact gen ho
      | _, none, ho, ra, gen => exact gen (by simpa using ho)
      | ka + 2, some x, ho, ra, gen =>
        simp only [Option.bind_eq_bind, Option.bind_some, fin_false] at ho
        cases h3 : oE sg false (x :: lk) ωa B with
        | none => rw [h3] at ho; cases ho
        | some q3 =>
          rw [h3] at ho
          simp only [Option.bind_some] at ho
          cases h4 : valO (x :: lk) q3 with
          | none => rw [h4] at ho; cases ho
          | some ω2 =>
            rw [h4] at ho
            cases ho
            exact rp_subB F.un hpx ra (G.val F tk hB (by rw [h3]; exact h4))
  unfold rSub at h
  split at h
  · rename_i lo hi st p2
    split at h
    · -- a slice
      obtain ⟨A, h1, h2⟩ := bind_ok h
      obtain ⟨B, h3, h4⟩ := bind_ok h2
      obtain ⟨C, h5, h6⟩ := bind_ok h4
      cases h6
      simp only [oE, fin_false] at ho
      cases g1 : oE sg false lk ω A with
      | none => rw [g1] at ho; cases ho
      | some q1 =>
        rw [g1] at ho
        simp only [Option.bind_eq_bind, Option.bind_some] at ho
        cases g2 : pkO 1 lk q1 with
        | none => rw [g2] at ho; cases ho
        | some q2 =>
          obtain ⟨ω1, lk1⟩ := q2
          rw [g2] at ho
          simp only [Option.bind_some] at ho
          cases g3 : oP sg lk1 ω1 B with
          | none => rw [g3] at ho; cases ho
          | some ω2 =>
            rw [g3] at ho
            simp only [Option.bind_some] at ho
            cases g4 : oP sg lk1 ω2 C with
            | none => rw [g4] at ho; cases ho
            | some ω3 =>
              rw [g4] at ho
              cases ho
              exact rp_sl (G.pk F tk h1 (by rw [g1]; exact g2)) (rO_ok G F tk h3 g3) (rO_ok G F tk h5 g4)
    · -- turned round
      split at h
      · rename_i hh
        obtain ⟨A, h1, h2⟩ := bind_ok h
        cases h2
        have hlo : lo = none := by cases lo <;> simp at hh ⊢
        have hhi : hi = none := by cases hi <;> simp at hh ⊢
        subst hlo hhi
        obtain ⟨ω1, lk1, g1, g2⟩ := one_pk (sg := sg) (lk := lk) (ω := ω) (A := A) (m := 1) (f := fun ω1 => some (ω1, 1, none)) ho
        cases g2
        exact rp_rev (G.pk F tk h1 g1)
      · cases h
    · cases h
  · rename_i hns
    obtain ⟨A, h1, h2⟩ := bind_ok h
    obtain ⟨B, h3, h4⟩ := bind_ok h2
    cases h4
    exact plain (fun lo hi st p e => hns lo hi st p e) h1 h3 rfl
end
end VK
set_option Elab.async false
set_option linter.all false
set_option maxHeartbeats 4000000
/-! the reader and the checker are sound: expressions, 4: calls, methods, comprehensions -/
namespace VK
open PySem PySem.Spec PyProof.Rows L2
theorem R.bind_one {α : Type} (r : R D) (f : List D → Env → R α) : (r.bind fun x e1 => (R.ok [] e1).bind fun xs e2 => .ok (x :: xs) e2).bind f = r.bind fun x e1 => f [x] e1 := by cases r <;> rfl
theorem R.bind_two {α : Type} (r : R D) (s : Env → R D) (f : List D → Env → R α) : (r.bind fun x e1 => ((s e1).bind fun y e2 => (R.ok [] e2).bind fun xs e3 => .ok (y :: xs) e3).bind fun xs e2 => .ok (x :: xs) e2).bind f = r.bind fun x e1 => (s e1).bind fun y e2 => f [x, y] e2 := by
  cases r with
  | ok x e1 => simp only [R.bind]; cases s e1 <;> rfl
  | exc => rfl
  | err => rfl
section
variable {X : Cx} {g : GF} {ec : EC} {W : WX} {T : Tab} {sg : Sgs} {Γ : Cn} {e a b c o f : Expr} {es ifs : List Expr} {E' A B C : E} {lk ω ω' ω1 : List Nat} {k : Nat} {bs : Option Nat} {r : Cn → Expr → VK.X E} {x m : Str} {p pos apos cpos : Pos} {fs : Env → R (List D)} {q : Option (List Nat × Nat × Option Nat)} {z : List Nat × Nat × Option Nat}
variable (G : Gd g ec T sg r) (F : Ft X g ec T sg Γ) (tk : Takes X W)
include G F tk
theorem rBlt_ok (hgl : isGl Γ x = true) (hG : Γ.G.lookup x = none) (h : rBlt Γ (r Γ) x es = .ok E') (ho : oE sg false lk ω E' = some (ω', k, bs)) : RP X g ec W (.Call (.Name x p) es [] pos) lk ω ω' k bs (ev T E') := by
  match es, h with
  | [a], h =>
    obtain ⟨q, h1, h2⟩ := bind_ok h
    obtain ⟨A, h3, h4⟩ := bind_ok h2
    clear h h2
    cases h4
    obtain ⟨hb, hbc, hq⟩ := pr1_boot (ofO_ok h1)
    have e1 : pkm q = 1 := by cases q <;> first | rfl | exact absurd rfl (hq _)
    have ho : (do
      let (ω1, _) ← pkO (pkm q) lk (← oE sg false lk ω A)
      some (ω1, 1, none)) = some (ω', k, bs) := ho
    rw [e1] at ho
    obtain ⟨ω1, lk1, g1, g2⟩ := one_pk (f := fun ω1 => some (ω1, 1, none)) ho
    cases g2
    exact (rp_call1 (sup := T.sup) F.calm F.un (bn_of F hgl hG hb hbc) hq (G.st h3).1 (G.pk F tk h3 g1)).congr fun env => R.bind_one _ _
  | [a, b], h =>
    have h : (if x = "isinstance" then rIsi Γ (r Γ) a b else (do
      let p ← ofO (pr2.lookup x)
      let a ← r Γ a
      let b ← r Γ b
      (Except.ok (E.pr p (.cons a (.cons b .nil))) : VK.X E))) = .ok E' := h
    split at h
    · rename_i hx
      unfold rIsi at h
      cases b <;> try (cases h; done)
      rename_i t tp
      dsimp only at h
      split at h
      · rename_i ht
        obtain ⟨t1, t2⟩ := Bool.and_eq_true_iff.mp ht
        obtain ⟨ty, h1, h2⟩ := bind_ok h
        obtain ⟨A, h3, h4⟩ := bind_ok h2
        cases h4
        obtain ⟨hb, hbc, hq⟩ := tys_boot (ofO_ok h1)
        have ho : (do
          let (ω1, _) ← pkO 9 lk (← oE sg false lk ω A)
          some (ω1, 1, none)) = some (ω', k, bs) := ho
        obtain ⟨ω1, lk1, g1, g2⟩ := one_pk (f := fun ω1 => some (ω1, 1, none)) ho
        cases g2
        have hbi : bootBuiltins x = some (.builtin "isinstance") := by rw [hx]; decide +kernel
        exact (rp_isi (sup := T.sup) hq (bn_of F hgl hG hbi (by rw [hx]; decide +kernel)) (G.st h3).1 (fun _ _ z => by cases z) (G.pk F tk h3 g1) (pe_ty (bn_of F t1 (by simpa using t2) hb hbc))).congr fun env => R.bind_one _ _
      · cases h
    · obtain ⟨q, h1, h2⟩ := bind_ok h
      obtain ⟨A, h3, h4⟩ := bind_ok h2
      obtain ⟨B, h5, h6⟩ := bind_ok h4
      cases h6
      obtain ⟨hb, hbc, hq⟩ := pr2_boot (ofO_ok h1)
      have ho : (do
        let (ω1, lk1) ← pkO 1 lk (← oE sg false lk ω A)
        let (ω2, _) ← pkO 1 lk1 (← oE sg false lk1 ω1 B)
        some (ω2, 1, none)) = some (ω', k, bs) := ho
      obtain ⟨ω1, lk1, ω2, lk2, g1, g2, g3⟩ := two_pk (f := fun ω1 => some (ω1, 1, none)) ho
      cases g3
      exact (rp_call2 (sup := T.sup) F.calm F.un (bn_of F hgl hG hb hbc) hq (G.st h3).1 (G.st h5).1 (G.pk F tk h3 g1) (G.pk F tk h5 g2)).congr fun env => R.bind_two _ _ _
  | [], h => cases h
  | _ :: _ :: _ :: _, h => cases h
theorem rCallN_ok (h : rCallN Γ (r Γ) x es = .ok E') (ho : oE sg false lk ω E' = some (ω', k, bs)) : RP X g ec W (.Call (.Name x p) es [] pos) lk ω ω' k bs (ev T E') := by
  unfold rCallN at h
  split at h
  · rename_i hgl
    obtain ⟨hg, hdb, hnn⟩ := gl_of F hgl
    split at h
    · -- a function of the program
      rename_i i io hG
      obtain ⟨as, h1, h2⟩ := bind_ok h
      cases h2
      obtain ⟨u, s, kk, hm, hs, hF, hR, _⟩ := F.fns x i io hG
      have ho : (sg.lookup i).bind (fun s => (oA sg lk ω as).bind fun ω1 => if matchA ω1 as s.io ∧ (iosA as).Nodup ∧ (∀ i ∈ iosA as, i ∉ lk) then some (ω1, s.rk, none) else none) = some (ω', k, bs) := ho
      rw [hs] at ho
      obtain ⟨ω1, g1, g2⟩ := Option.bind_eq_some_iff.mp (show (oA sg lk ω as).bind _ = _ from ho)
      split at g2
      · rename_i hh
        cases g2
        obtain ⟨ra, st⟩ := rAs_ok G F tk h1 g1
        cases es with
        | nil =>
          cases h1
          cases g1
          exact rp_call0 tk hR hF hg hm hdb hh.1
        | cons a es => exact rp_call tk hR hF hg hm hdb st ra hh.1 hh.2.1 hh.2.2
      · cases g2
    · cases h
    · rename_i hG
      exact rBlt_ok G F tk hgl hG h ho
  · cases h
theorem rMeth_ok (hl : (apos.endLine == cpos.line) = true) (h : rMeth Γ (r Γ) o m es = .ok E') (ho : oE sg false lk ω E' = some (ω', k, bs)) : RP X g ec W (.Call (.Attribute o m apos) es [] cpos) lk ω ω' k bs (ev T E') := by
  cases es with
  | nil =>
    unfold rMeth at h
    simp only at h
    split at h
    · rename_i hm
      subst hm
      cases o <;> try (cases h; done)
      obtain ⟨i, h1, h2⟩ := bind_ok h
      cases h2
      have ho : (if Mu.pop = .pop ∧ i ∉ lk ∧ 1 ≤ ω.getD i 0 then some (ω, ω.getD i 0 - 1, none) else none) = some (ω', k, bs) := ho
      split at ho
      · rename_i hh
        cases ho
        exact rp_pop (slo_pe F h1) hl hh.2.1 (by omega)
      · cases ho
    · cases h
  | cons a es => cases es with
    | cons b es => unfold rMeth at h; cases h
    | nil =>
        unfold rMeth at h
        simp only at h
        split at h
        · rename_i hm
          cases o <;> try (cases h; done)
          obtain ⟨i, h1, h2⟩ := bind_ok h
          obtain ⟨A, h3, h4⟩ := bind_ok h2
          cases h4
          have na := (G.st h3).1
          have hp : ∀ p, PE X (.Name _ p) (tVar i) := fun p => slo_pe F h1
          have ho : fin false lk (if i ∉ lk ∧ 1 ≤ ω.getD i 0 then (match (if m = "append" then Mu.append else if m = "extend" then .extend else .popAt) with
            | .append => do
              let (ω1, k) ← tmpO (i :: lk) (← oE sg false (i :: lk) ω A)
              if ω.getD i 0 - 1 ≤ k then some (ω1, 0, none) else none
            | .popAt => do
              let ω1 ← valO (i :: lk) (← oE sg false (i :: lk) ω A)
              some (ω1, ω.getD i 0 - 1, none)
            | .extend => do
              let (ω1, k) ← tmpO (i :: lk) (← oE sg false (i :: lk) ω A)
              if ω.getD i 0 ≤ k then some (ω1, 0, none) else none
            | _ => none) else none) = some (ω', k, bs) := ho
          rw [fin_false] at ho
          split at ho
          · rename_i hi
            have tmp : ∀ {f : List Nat → Nat → Option (List Nat × Nat × Option Nat)}, (do
              let (ω1, k) ← tmpO (i :: lk) (← oE sg false (i :: lk) ω A)
              f ω1 k) = some (ω', k, bs) → ∃ ω1 k1, RP X g ec W a (i :: lk) ω ω1 k1 none (ev T A) ∧ f ω1 k1 = some (ω', k, bs) := fun {f} ho => by
              cases g1 : oE sg false (i :: lk) ω A with
              | none => rw [g1] at ho; cases ho
              | some q1 =>
                rw [g1] at ho
                simp only [Option.bind_eq_bind, Option.bind_some] at ho
                cases g2 : tmpO (i :: lk) q1 with
                | none => rw [g2] at ho; cases ho
                | some q2 =>
                  obtain ⟨ω1, k1⟩ := q2
                  rw [g2] at ho
                  exact ⟨ω1, k1, G.tmp F tk h3 (by rw [g1]; exact g2), ho⟩
            rcases hm with rfl | rfl | rfl
            · obtain ⟨ω1, k1, ra, g3⟩ := tmp (f := fun ω1 k => if ω.getD i 0 - 1 ≤ k then some (ω1, 0, none) else none) ho
              split at g3
              · rename_i hk
                cases g3
                exact rp_append (hp _) hl na hi.1 (k := ω.getD i 0 - 1) (by omega) (ra.cap hk)
              · cases g3
            · obtain ⟨ω1, k1, ra, g3⟩ := tmp (f := fun ω1 k => if ω.getD i 0 ≤ k then some (ω1, 0, none) else none) ho
              split at g3
              · rename_i hk
                cases g3
                exact rp_extend (hp _) hl na hi.1 (k := ω.getD i 0 - 1) (by omega) (ra.cap (by omega))
              · cases g3
            · have ho : ((oE sg false (i :: lk) ω A).bind (valO (i :: lk))).bind (fun ω1 => some (ω1, ω.getD i 0 - 1, none)) = some (ω', k, bs) := by
                rw [← ho]
                cases oE sg false (i :: lk) ω A <;> rfl
              obtain ⟨ω1, g1, g2⟩ := Option.bind_eq_some_iff.mp ho
              cases g2
              exact rp_popAt (hp _) hl na hi.1 (by omega) (G.val F tk h3 g1)
          · cases ho
        · split at h
          · rename_i hs
            obtain ⟨kk, h0, h1⟩ := bind_ok h
            obtain ⟨A, h3, h4⟩ := bind_ok h1
            obtain ⟨B, h5, h6⟩ := bind_ok h4
            cases h6
            have na := (G.st h5).1
            have ho : (do
              let (ω1, lk1) ← pkO 1 lk (← oE sg false lk ω A)
              if kk = .get1 then (do
                let ω2 ← valO lk1 (← oE sg false lk1 ω1 B)
                some (ω2, 0, none))
              else (do
                let (ω2, _) ← pkO 1 lk1 (← oE sg false lk1 ω1 B)
                some (ω2, 1, none))) = some (ω', k, bs) := ho
            have pk2 : kk ≠ .get1 → ∃ ω1 lk1 lk2, RK X g ec W o 1 lk1 lk ω ω1 (ev T A) ∧ RK X g ec W a 1 lk2 lk1 ω1 ω' (ev T B) ∧ k = 1 ∧ bs = none := fun hne => by
              have ho : (do
                let (ω1, lk1) ← pkO 1 lk (← oE sg false lk ω A)
                let (ω2, _) ← pkO 1 lk1 (← oE sg false lk1 ω1 B)
                some (ω2, 1, none)) = some (ω', k, bs) := by simpa only [if_neg hne] using ho
              obtain ⟨ω1, lk1, ω2, lk2, g1, g2, g3⟩ := two_pk (f := fun ω1 => some (ω1, 1, none)) ho
              cases g3
              exact ⟨ω1, lk1, lk2, G.pk F tk h3 g1, G.pk F tk h5 g2, rfl, rfl⟩
            split at h0
            · rename_i hm
              subst hm; cases h0
              obtain ⟨ω1, lk1, lk2, ra, rb, rfl, rfl⟩ := pk2 (by simp)
              exact rp_split hl hs na ra rb
            · split at h0
              · rename_i hm
                subst hm; cases h0
                obtain ⟨ω1, lk1, lk2, ra, rb, rfl, rfl⟩ := pk2 (by simp)
                exact rp_partition hl hs na ra rb
              · split at h0
                · rename_i hm
                  subst hm; cases h0
                  obtain ⟨ω1, lk1, lk2, ra, rb, rfl, rfl⟩ := pk2 (by simp)
                  exact rp_join hl hs na ra rb
                · split at h0
                  · rename_i hm
                    subst hm; cases h0
                    obtain ⟨ω1, lk1, lk2, ra, rb, rfl, rfl⟩ := pk2 (by simp)
                    exact rp_index F.un hl hs na ra rb
                  · split at h0
                    · rename_i hm
                      subst hm; cases h0
                      simp only [if_true] at ho
                      cases g1 : oE sg false lk ω A with
                      | none => rw [g1] at ho; cases ho
                      | some q1 =>
                        rw [g1] at ho
                        simp only [Option.bind_eq_bind, Option.bind_some] at ho
                        cases g2 : pkO 1 lk q1 with
                        | none => rw [g2] at ho; cases ho
                        | some q2 =>
                          obtain ⟨ω1, lk1⟩ := q2
                          rw [g2] at ho
                          simp only [Option.bind_some] at ho
                          cases g3 : oE sg false lk1 ω1 B with
                          | none => rw [g3] at ho; cases ho
                          | some q3 =>
                            rw [g3] at ho
                            simp only [Option.bind_some] at ho
                            cases g4 : valO lk1 q3 with
                            | none => rw [g4] at ho; cases ho
                            | some ω2 =>
                              rw [g4] at ho
                              cases ho
                              exact (rv_get1 F.un hl hs na (G.pk F tk h3 (by rw [g1]; exact g2)) (G.val F tk h5 (by rw [g3]; exact g4))).rp
                    · cases h0
          · cases h

end
end VK
set_option Elab.async false
set_option linter.all false
set_option maxHeartbeats 4000000
/-! the reader and the checker are sound: expressions, 5: comprehensions, all -/
namespace VK
open PySem PySem.Spec PyProof.Rows L2
theorem zeroAt_mem : ∀ (is : List Nat) (ω : List Nat) (i : Nat), (∀ j ∈ is, j < ω.length) → (zeroAt ω is).getD i 0 = if i ∈ is then 0 else ω.getD i 0
  | [], ω, i, _ => by simp [zeroAt]
  | j :: is, ω, i, h => by
    show (zeroAt (ω.set j 0) is).getD i 0 = _
    rw [zeroAt_mem is _ i (fun l hl => by rw [List.length_set]; exact h l (List.mem_cons_of_mem _ hl)), getD_set _ _ _ _ (h j List.mem_cons_self)]
    by_cases h1 : i ∈ is
    · simp [h1]
    · by_cases h2 : i = j
      · simp [h2]
      · simp [h1, h2]
section
variable {X : Cx} {g : GF} {ec : EC} {W : WX} {T : Tab} {sg : Sgs} {Γ : Cn} {e a b c o f elt tg it : Expr} {es ifs : List Expr} {gens : List Comprehension} {E' A B C : E} {lk ω ω' ω1 : List Nat} {k n : Nat} {bs : Option Nat} {r : Cn → Expr → VK.X E} {x m : Str} {p pos apos cpos : Pos} {fs : Env → R (List D)} {q : Option (List Nat × Nat × Option Nat)} {z : List Nat × Nat × Option Nat} {sc : Scope}
theorem sto_ok (F : Ft X g ec T sg Γ) {i : Nat} (h : sto Γ x = .ok i) : X.N[i]? = some x ∧ Loc X.env.scope x ∧ (X.fn x = true ∨ X.env.scope.names.lookup x = some .local) := by
  unfold sto at h
  split at h
  · rename_i hh
    refine ⟨by rw [F.N]; exact ixOf_get (ofO_ok h), ?_⟩
    rw [F.sc, F.fnE]
    unfold kd at hh
    simp only [Bool.or_eq_true, Bool.and_eq_true, beq_iff_eq] at hh
    rcases hh with h1 | ⟨h1, h2⟩
    · exact ⟨.inl h1, .inr h1⟩
    · exact ⟨.inr h1, .inl h2⟩
  · cases h
theorem rTg_star {t : Tg} (h : rTg Γ n e = .ok t) : ∀ z p, e ≠ .Starred z p := by
  intro z p he
  subst he
  cases n <;> cases h
mutual
theorem rTg_ok (F : Ft X g ec T sg Γ) : ∀ (n : Nat) {e : Expr} {t : Tg} {ω : List Nat}, rTg Γ n e = .ok t → (∀ i ∈ namesT t, i ∉ lk ∧ i < ω.length) → RG X g e lk ω (zeroAt ω (namesT t)) t
  | 0, _, _, _, h, _ => by cases h
  | n + 1, .Name x p, t, ω, h, hn => by
    obtain ⟨i, h1, h2⟩ := bind_ok h
    cases h2
    obtain ⟨g1, g2, g3⟩ := sto_ok F h1
    obtain ⟨g4, g5⟩ := hn i (by simp [namesT])
    exact rg_name F.nd g1 g2 g3 g4 g5
  | n + 1, .Tuple es kk p, t, ω, h, hn => by
    obtain ⟨ts, h1, h2⟩ := bind_ok h
    cases h2
    obtain ⟨r1, l1, s1⟩ := rTgs_ok F n (ω := ω) h1 (fun i hi => hn i (by simpa [namesT] using hi))
    exact rg_tup F.calm s1 l1 r1
  | n + 1, .BoolOp .., _, _, h, _ => by cases h
  | n + 1, .NamedExpr .., _, _, h, _ => by cases h
  | n + 1, .BinOp .., _, _, h, _ => by cases h
  | n + 1, .UnaryOp .., _, _, h, _ => by cases h
  | n + 1, .Lambda .., _, _, h, _ => by cases h
  | n + 1, .IfExp .., _, _, h, _ => by cases h
  | n + 1, .Dict .., _, _, h, _ => by cases h
  | n + 1, .Set .., _, _, h, _ => by cases h
  | n + 1, .ListComp .., _, _, h, _ => by cases h
  | n + 1, .SetComp .., _, _, h, _ => by cases h
  | n + 1, .DictComp .., _, _, h, _ => by cases h
  | n + 1, .GeneratorExp .., _, _, h, _ => by cases h
  | n + 1, .Await .., _, _, h, _ => by cases h
  | n + 1, .Yield .., _, _, h, _ => by cases h
  | n + 1, .YieldFrom .., _, _, h, _ => by cases h
  | n + 1, .Compare .., _, _, h, _ => by cases h
  | n + 1, .Call .., _, _, h, _ => by cases h
  | n + 1, .FormattedValue .., _, _, h, _ => by cases h
  | n + 1, .JoinedStr .., _, _, h, _ => by cases h
  | n + 1, .Constant .., _, _, h, _ => by cases h
  | n + 1, .Attribute .., _, _, h, _ => by cases h
  | n + 1, .Subscript .., _, _, h, _ => by cases h
  | n + 1, .Starred .., _, _, h, _ => by cases h
  | n + 1, .List .., _, _, h, _ => by cases h
  | n + 1, .Slice .., _, _, h, _ => by cases h
theorem rTgs_ok (F : Ft X g ec T sg Γ) : ∀ (n : Nat) {es : List Expr} {ts : Tgs} {ω : List Nat}, rTgs (rTg Γ n) es = .ok ts → (∀ i ∈ namesTs ts, i ∉ lk ∧ i < ω.length) → RGs X g es lk ω (zeroAt ω (namesTs ts)) ts ∧ lenTs ts = es.length ∧ noStar es = true
  | n, [], _, ω, h, _ => by
    cases h
    exact ⟨rgs_nil, rfl, rfl⟩
  | n, e :: es, _, ω, h, hn => by
    obtain ⟨t, h1, h2⟩ := bind_ok h
    obtain ⟨ts, h3, h4⟩ := bind_ok h2
    cases h4
    have r1 := rTg_ok F n (ω := ω) h1 (fun i hi => hn i (by simp [namesTs, hi]))
    obtain ⟨r2, l2, s2⟩ := rTgs_ok F n (ω := zeroAt ω (namesT t)) h3 (fun i hi => by rw [zeroAt_length]; exact hn i (by simp [namesTs, hi]))
    refine ⟨by rw [show namesTs (.cons t ts) = namesT t ++ namesTs ts from rfl, zeroAt_append]; exact rgs_cons (rTg_star h1) r1 r2, by simp [lenTs, l2], ?_⟩
    have := rTg_star h1
    cases e <;> first | exact s2 | exact absurd rfl (this _ _)
end
theorem Ft.inner (F : Ft X g ec T sg Γ) (sc : Scope) (s : Shared) (H : Hp) (C : Addr) (cl : List (Str × Addr)) (fp : List Addr) : Ft (X.blk s H sc (compEnvC sc cl C X.env) fp) g ec T sg (inner Γ sc) where
  sc := by show relS sc X.env.scope = _; rw [F.sc]; rfl
  N := F.N
  nd := F.nd
  fnE := rfl
  un := F.un
  calm := F.calm
  fns := fun x i io h => by
    obtain ⟨u, s, k, h1, h2, h3, h4⟩ := F.fns x i io h
    exact ⟨u, s, k, h1, h2, ⟨h3.ok, h3.kp⟩, h4⟩
  cst := F.cst
  blt := F.blt
  fv := fun i u h => by
    obtain ⟨s, k, h3, h4⟩ := F.fv i u h
    exact ⟨s, k, ⟨h3.ok, h3.kp⟩, h4⟩
theorem blk_ok (F : Ft X g ec T sg Γ) {own : List (Str × Nat)} (h : blkB Γ.N Γ.sc sc own = true) : BlkOk X.N X.env.scope sc own := by
  unfold blkB at h
  simp only [Bool.and_eq_true, List.all_eq_true, beq_iff_eq] at h
  obtain ⟨⟨⟨⟨h1, h2⟩, h3⟩, h4⟩, h5⟩ := h
  rw [F.N, F.sc]
  refine ⟨h1, h2, h3, fun y hy e => ?_, fun y hy e => ?_⟩
  · have := h4 y hy
    rw [e] at this
    simp only [Bool.or_eq_true, beq_iff_eq, bne_self_eq_false, Bool.false_eq_true, false_or] at this
    exact this
  · have := h5 y hy
    rcases e with e | e <;> · rw [e] at this; simpa using this
section
variable (G : Gd g ec T sg r)
include G
theorem rI_ok (F : Ft X g ec T sg Γ) (tk : Takes X W) {I : It} {lk1 : List Nat} (h : rI Γ (r Γ) it = .ok I) (ho : oI sg lk ω I = some (ω1, lk1)) : RI X g ec W tg it lk lk1 ω ω1 (evI T I) ∧ ∀ z k p, it ≠ .Set z k p := by
  have plain : ∀ {A : E}, r Γ it = .ok A → I = .e A → RI X g ec W tg it lk lk1 ω ω1 (evI T I) ∧ ∀ z k p, it ≠ .Set z k p := fun {A} h1 h2 => by
    subst h2
    have ho : (oE sg false lk ω A).bind (pkO 1 lk) = some (ω1, lk1) := by rw [← ho]; rfl
    exact ⟨ri_seq (G.pk F tk h1 ho), (G.st h1).2.1⟩
  unfold rI at h
  split at h
  · split at h
    · rename_i x pp es pp2 hx
      split at h
      · rename_i hh
        obtain ⟨h1, h2⟩ := Bool.and_eq_true_iff.mp hh
        subst hx
        obtain ⟨hg, hdb, hnn⟩ := gl_of F h1
        have hG : Γ.G.lookup ("range" : Str) = none := by simpa using h2
        have hm : X.mg ("range" : Str) = none := F.blt _ hG (by decide +kernel)
        split at h
        · obtain ⟨A, h3, h4⟩ := bind_ok h
          cases h4
          have ho : ((oE sg false lk ω A).bind (valO lk)).bind (fun ω1 => some (ω1, lk)) = some (ω1, lk1) := by rw [← ho]; simp only [oI]; cases oE sg false lk ω A <;> rfl
          obtain ⟨w, g1, g2⟩ := Option.bind_eq_some_iff.mp ho
          cases g2
          exact ⟨ri_rg hg hm (G.st h3).1 (G.val F tk h3 g1), fun _ _ _ z => by cases z⟩
        · obtain ⟨A, h3, h4⟩ := bind_ok h
          obtain ⟨B, h5, h6⟩ := bind_ok h4
          cases h6
          have ho : ((oE sg false lk ω A).bind (valO lk)).bind (fun w => ((oE sg false lk w B).bind (valO lk)).bind fun w2 => some (w2, lk)) = some (ω1, lk1) := by
            rw [← ho]; simp only [oI]
            cases oE sg false lk ω A with
            | none => rfl
            | some q =>
              simp only [Option.bind_eq_bind, Option.bind_some]
              cases valO lk q with
              | none => rfl
              | some w => simp only [Option.bind_some]; cases oE sg false lk w B <;> rfl
          obtain ⟨w, g1, g2⟩ := Option.bind_eq_some_iff.mp ho
          obtain ⟨w2, g3, g4⟩ := Option.bind_eq_some_iff.mp g2
          cases g4
          exact ⟨ri_rg2 hg hm (G.st h3).1 (G.st h5).1 (G.val F tk h3 g1) (G.val F tk h5 g3), fun _ _ _ z => by cases z⟩
        · cases h
      · cases h
    · obtain ⟨A, h1, h2⟩ := bind_ok h
      cases h2
      exact plain h1 rfl
  · obtain ⟨A, h1, h2⟩ := bind_ok h
    cases h2
    exact plain h1 rfl
theorem rIf_ok (F : Ft X g ec T sg Γ) (tk : Takes X W) {A : E} {q : List Nat × Nat × Option Nat} (h : rIf (r Γ) ifs = .ok A) (ho : oE sg true lk ω A = some q) : RTs X g ec W ifs lk ω q.1 (tr (ev T A)) := by
  match ifs, h with
  | [], hh =>
    cases hh
    have ho : some (ω, 0, none) = some q := ho
    cases ho
    exact rts_nil
  | [c], hh => exact rts_one (G.t F tk hh (ω' := q.1) (k := q.2.1) (bs := q.2.2) ho)
  | _ :: _ :: _, hh => cases hh
theorem rLc_L (F : Ft X g ec T sg Γ) (tk : Takes X W) (h : rLc r Γ elt gens sc = .ok E') (ho : oE sg false lk ω E' = some (ω', k, bs)) :
    ∃ t it ifs own Tt I c el lk1, gens = [⟨t, it, ifs, 0⟩] ∧ E' = .comp (own.map (·.2)) (.last (own.map (·.2)) Tt I c el) ∧ k = 1 ∧ bs = none ∧ LcOk X g ec W sc own t it elt ifs lk lk1 ω ω' Tt (evI T I) (tr (ev T c)) (ev T el) := by
  unfold rLc at h
  split at h
  · rename_i t it ifs
    obtain ⟨own, h1, h2⟩ := bind_ok h
    split at h2
    · rename_i hb
      obtain ⟨I, h3, h4⟩ := bind_ok h2
      obtain ⟨Tt, h5, h6⟩ := bind_ok h4
      obtain ⟨c, h7, h8⟩ := bind_ok h6
      obtain ⟨el, h9, h10⟩ := bind_ok h8
      cases h10
      have ho : (oI sg lk ω I).bind (fun q => (oE sg true q.2 q.1 c).bind fun q2 => ((oE sg false q.2 q.1 el).bind (valO q.2)).bind fun ω3 => if q2.1 = q.1 ∧ ω3 = q.1 ∧ (∀ i ∈ (own.map fun (y : Str × Nat) => y.2), q.1.getD i 0 = 0 ∧ i ∉ q.2) ∧ (∀ i ∈ namesT Tt, i ∈ (own.map fun (y : Str × Nat) => y.2) ∧ i < q.1.length) then some (q.1, 1, none) else none) = some (ω', k, bs) := by
        rw [← ho]
        show _ = fin false lk (if own.map (·.2) = own.map (·.2) then _ else none)
        rw [fin_false, if_pos rfl]
        cases oI sg lk ω I with
        | none => rfl
        | some q =>
          obtain ⟨w, l⟩ := q
          simp only [Option.bind_eq_bind, Option.bind_some]
          cases oE sg true l w c with
          | none => rfl
          | some q2 =>
            simp only [Option.bind_some]
            cases oE sg false l w el <;> rfl
      obtain ⟨⟨w, l⟩, g1, g2⟩ := Option.bind_eq_some_iff.mp ho
      obtain ⟨q2, g3, g4⟩ := Option.bind_eq_some_iff.mp g2
      obtain ⟨ω3, g5, g6⟩ := Option.bind_eq_some_iff.mp g4
      split at g6
      · rename_i hh
        obtain ⟨e1, e2, e3, e4⟩ := hh
        cases g6
        dsimp only at e1 e2 e3 e4 g3 g5
        subst e2
        obtain ⟨ri, hs⟩ := rI_ok (tg := t) G F tk h3 g1
        refine ⟨t, it, ifs, own, Tt, I, c, el, l, rfl, rfl, rfl, rfl, F.calm, F.nd, ri, blk_ok F hb, fun s H C cl fp => ?_, fun s H C cl fp => ?_, fun s H C cl fp => ?_, hs, fun i hi => (e3 i hi).1, fun i hi => (e3 i hi).2, fun i hi => (e4 i hi).1⟩
        · refine (rTg_ok (F.inner sc s H C cl fp) 4 h5 fun i hi => ⟨(e3 i (e4 i hi).1).2, (e4 i hi).2⟩).cong fun i => ?_
          rw [zeroAt_mem _ _ _ fun j hj => (e4 j hj).2]
          split
          · rename_i hi; exact (e3 i (e4 i hi).1).1
          · rfl
        · have := rIf_ok G (F.inner sc s H C cl fp) (W := W0) takes0 h7 g3
          rw [e1] at this
          exact this
        · exact G.val (F.inner sc s H C cl fp) takes0 h9 g5
      · cases g6
    · cases h2
  · cases h
end
end
end VK
set_option Elab.async false
set_option linter.all false
set_option maxHeartbeats 4000000
/-! the reader and the checker are sound: expressions, 6 -/
namespace VK
open PySem PySem.Spec PyProof.Rows L2
section
variable {X : Cx} {g : GF} {ec : EC} {W : WX} {T : Tab} {sg : Sgs} {Γ : Cn} {e a b c o f elt tg it : Expr} {es ifs : List Expr} {gens : List Comprehension} {E' A B C : E} {lk ω ω' ω1 : List Nat} {k n : Nat} {bs : Option Nat} {r : Cn → Expr → VK.X E} {x m : Str} {p pos apos cpos : Pos} {fs : Env → R (List D)} {q : Option (List Nat × Nat × Option Nat)} {z : List Nat × Nat × Option Nat} {sc : Scope}
theorem cOp_op {o : Operator} {o' : Op} (h : cOp o = .ok o') : opOf o' = o ∧ o' ≠ .rep := by
  cases o <;> cases h <;> exact ⟨rfl, fun z => by cases z⟩
theorem cCm_op {o : CmpOp} {o' : Cm} (h : cCm o b = .ok o') : cmOf o' = o := by
  cases o <;> first
    | (cases h; rfl)
    | (simp only [cCm] at h; split at h <;> first | (cases h; rfl) | cases h)
theorem opF_eq (a : Expr) (o : Op) : opF a o = o ∨ (opF a o = .rep ∧ o = .mul ∧ ∃ es p, a = .List es p) := by
  unfold opF
  split
  · exact .inr ⟨rfl, rfl, _, _, rfl⟩
  · exact .inl rfl
theorem noSet_marks {op : CmpOp} (h : ∀ z k p, b ≠ .Set z k p) : behindInMarks op b = false := by
  cases b <;> first | rfl | exact absurd rfl (h _ _ _)
def lenA : As → Nat
  | .nil => 0
  | .io _ r => lenA r + 1
  | .val _ r => lenA r + 1
theorem gather_len : ∀ {as : As} {ds ds' : List D} {env : Env}, gatherA as ds env = some ds' → ds'.length = lenA as
  | .nil, _, _, _, h => by cases h; rfl
  | .io i r, ds, ds', env, h => by
    obtain ⟨d, _, h2⟩ := Option.bind_eq_some_iff.mp h
    obtain ⟨m, h3, h4⟩ := Option.bind_eq_some_iff.mp h2
    cases h4
    simp [lenA, gather_len h3]
  | .val _ r, d :: ds, ds', env, h => by
    obtain ⟨m, h3, h4⟩ := Option.bind_eq_some_iff.mp h
    cases h4
    simp [lenA, gather_len h3]
  | .val _ r, [], _, _, h => by cases h
theorem match_all {ω : List Nat} : ∀ {as : As} {io : List (Option Nat)}, iosA as = [] → (∀ o ∈ io, o = none) → io.length = lenA as → matchA ω as io = true
  | .nil, [], _, _, _ => rfl
  | .nil, _ :: _, _, _, h => by cases h
  | .io _ _, _, h, _, _ => by cases h
  | .val _ r, [], _, _, h => by cases h
  | .val _ r, o :: io, h, ho, hl => by
    have := ho o List.mem_cons_self
    subst this
    exact match_all (as := r) h (fun o h => ho o (List.mem_cons_of_mem _ h)) (by simpa [lenA] using hl)
theorem rp_callv {a b s1 : Expr} {as : As} {ω2 : List Nat} {ff : Env → R D} {pp : Pos} (F : Ft X g ec T sg Γ) (tk : Takes X W) (hio : iosA as = []) (hf : RV X g ec W (.Subscript a b pp) lk ω ω1 ff) (ha : RA X g ec W (s1 :: es) lk ω1 ω2 as fs) (hst : noStar (s1 :: es) = true) :
    RP X g ec W (.Call (.Subscript a b pp) (s1 :: es) [] pos) lk ω ω2 0 none (callvR (callR T) ff as fs) := by
  have s0 : ∀ i ∈ lk, i ∈ lk := fun _ h => h
  have na : ∀ z p, s1 ≠ .Starred z p := fun z p e => by subst e; cases hst
  have hrs : noStar es = true := by cases s1 <;> first | exact hst | cases hst
  refine ⟨⟨fun pins s σ H Q I ⟨env, foot, sf, q⟩ => ?_⟩, hf.kp.trans ha.kp s0⟩
  let Q1 : V → Hp → Prop := fun v H1 => ∃ j u sgj kk, v = .ref u ∧ FnI X g ec T kk sgj j u ∧ Room kk X.A ∧ tG X.K g ec W (PvA X.K g ω2 as) lk ω1 fs σ H1 fun vs H2 => spF X.K g ec sgj (T.call j) vs H2 Q (WE W σ)
  refine Call_ (thn (hf.pe.run pins s σ H Q1 I ⟨env, foot, sf, (Out.bind.mp q).imp (fun d1 env1 ea q0 v1 H1 p1 => ?_) fun _ _ h => h⟩) fun w s1' ⟨v, H1, I1, r1, j, u, sgj, kk, ev1, FI, hR, q1⟩ => ?_) rfl
  · obtain ⟨f1, sf1, c1, r1⟩ := p1
    clear ea
    cases d1 <;> try exact q0.elim
    rename_i j
    cases r1 with
    | fn gju =>
      rename_i u
      obtain ⟨sgj, kk, h1, h2, h3, h4, h5⟩ := F.fv j u gju
      refine ⟨j, u, sgj, kk, rfl, h1, h2, env1, f1, sf1, (Out.bind.mp q0).imp (fun ds env2 eb q vs H2 p2 => ?_) fun x e2 h cls dd H2 p => h cls dd H2 (p.over c1 hf.kp s0)⟩
      obtain ⟨f2, sf2, c2, av⟩ := p2
      have cc := c1.trans' c2 s0
      by_cases hl : sgj.io.length = lenA as
      · refine call_post (ω := ω) sf2 cc (hf.kp.trans ha.kp s0) av (match_all hio h4 hl) (by rw [hio]; exact List.Pairwise.nil) (fun i hi => by rw [hio] at hi; cases hi) ?_
        rw [h3]
        exact q
      · exfalso
        have q : Out (callR T j as ds env2) _ _ := q
        unfold callR at q
        cases hg : gatherA as ds env2 with
        | none => rw [hg] at q; exact q.elim
        | some ds' =>
          rw [hg] at q
          have : T.call j ds' = .err := h5 ds' (by rw [gather_len hg]; exact fun z => hl z.symm)
          dsimp only at q
          rw [this] at q
          exact q.elim
  · subst ev1
    cases r1
    obtain ⟨⟨fd, ps, hF, hB⟩, hK⟩ := FI
    exact PySem.W.callWith_K (h₀ := X.base) I1.ok.mod.kin hK (thn (ha.pa.run pos pins s1' σ H1 _ I1 q1) fun us s2 ⟨vs, H2, I2, r2, q2⟩ => ⟨I2.kIn, run_fnS hF hR hB (passAt tk σ) I2 r2 q2⟩) (star_cons na _) (back_many hrs _ _)
variable (G : Gd g ec T sg r) (F : Ft X g ec T sg Γ) (tk : Takes X W)
include G F tk
theorem step_e (h : stepE r Γ e = .ok E') (ho : oE sg false lk ω E' = some (ω', k, bs)) : RP X g ec W e lk ω ω' k bs (ev T E') := by
  cases e <;> dsimp only [stepE] at h <;> try (cases h; done)
  case Constant kk _ _ =>
    cases kk <;> dsimp only at h <;> try (cases h; done)
    all_goals
      cases h
      have ho : some (ω, 0, none) = some (ω', k, bs) := ho
      cases ho
    · exact (rp_of pe_non fun H => .non).rp
    · exact (rp_of pe_bl fun H => .bl _).rp
    · exact (rp_of pe_int fun H => .int _).rp
    · exact (rp_of pe_str fun H => .str _).rp
  case Name x p =>
    split at h
    · obtain ⟨i, h1, h2⟩ := bind_ok h
      cases h2
      have ho : (if ω.getD i 0 = 0 then some (ω, 0, none) else some (ω, ω.getD i 0, some i)) = some (ω', k, bs) := ho
      split at ho
      · rename_i h0
        cases ho
        exact (rp_var0 (slo_pe F h1) h0).rp
      · cases ho
        exact rp_var (slo_pe F h1)
    · split at h
      · rename_i hgl
        obtain ⟨hg, hdb, _⟩ := gl_of F hgl
        split at h
        · rename_i i io hG
          cases h
          have ho : (if cOk sg (.fn i) = true then some (ω, 0, none) else none) = some (ω', k, bs) := ho
          split at ho
          · rename_i hc
            cases ho
            obtain ⟨u, s, kk, hm, hs, _, _, hgu⟩ := F.fns x i io hG
            have hc : ((sg.lookup i).any fcB) = true := hc
            rw [hs] at hc
            exact (rv_fn hg hm (hgu hc) hdb).rp
          · cases ho
        · rename_i d hG
          cases h
          have ho : (if cOk sg d = true then some (ω, 0, none) else none) = some (ω', k, bs) := ho
          split at ho
          · cases ho
            obtain ⟨v, u, hm, hr, hd⟩ := F.cst x d hG
            exact (rp_of (pe_glob hg hm hr hdb) hd).rp
          · cases ho
        · cases h
      · cases h
  case BinOp a op b p =>
    obtain ⟨A, h1, h2⟩ := bind_ok h
    obtain ⟨B, h3, h4⟩ := bind_ok h2
    obtain ⟨o, h5, h6⟩ := bind_ok h4
    cases h6
    obtain ⟨e1, e2⟩ := cOp_op h5
    rcases opF_eq a o with e3 | ⟨e3, e4, es, pp, e5⟩
    · rw [e3] at ho ⊢
      change fin false lk (ite (o = .rep) _ _) = _ at ho
      rw [fin_false, if_neg e2] at ho
      obtain ⟨ω1, lk1, ω2, lk2, g1, g2, g3⟩ := two_pk (f := fun ω1 => some (ω1, 1, none)) ho
      cases g3
      rw [← e1]
      exact rp_op e2 (G.pk F tk h1 g1) (G.pk F tk h3 g2)
    · rw [e3] at ho ⊢
      subst e4 e5
      cases h5' : op with
      | Mult =>
        change fin false lk (ite (Op.rep = .rep) _ _) = _ at ho
        rw [fin_false, if_pos rfl] at ho
        cases g1 : oE sg false lk ω A with
        | none => rw [g1] at ho; cases ho
        | some q1 =>
          obtain ⟨w, ka, ba⟩ := q1
          rw [g1] at ho
          simp only [Option.bind_eq_bind, Option.bind_some] at ho
          split at ho
          · rename_i hh
            obtain ⟨hk, rfl⟩ := hh
            obtain ⟨ω2, lk2, g2, g3⟩ := one_pk (f := fun ω1 => some (ω1, 1, none)) ho
            cases g3
            obtain ⟨A', hA⟩ := G.ls h1
            refine rp_rep (pos' := p) ((G.e F tk h1 g1).cap hk) (G.pk F tk h3 g2) fun env d e hd => ?_
            subst hA
            have hd : (evs T A' env).bind (fun xs e1 => .ok (.lst xs) e1) = .ok d e := hd
            cases hx : evs T A' env with
            | ok xs e1 => rw [hx] at hd; cases hd; exact ⟨_, rfl⟩
            | exc x e1 => rw [hx] at hd; cases hd
            | err => rw [hx] at hd; cases hd
          · cases ho
      | _ => subst h5'; cases e1
  case UnaryOp op a p =>
    obtain ⟨A, h1, h2⟩ := bind_ok h
    cases op <;> dsimp only at h2 <;> try (cases h2; done)
    · cases h2
      change fin false lk _ = _ at ho
      rw [fin_false] at ho
      obtain ⟨ω1, lk1, g1, g2⟩ := one_pk (f := fun ω1 => some (ω1, 1, none)) ho
      cases g2
      refine (rp_inv (G.pk F tk h1 g1)).congr fun env => ?_
      show (ev T A env).bind _ = (ev T A env).bind _
      congr 1; funext x e1; cases x <;> rfl
    · cases h2
      change ite (false = true) _ _ = _ at ho
      rw [if_neg Bool.false_ne_true] at ho
      obtain ⟨ω1, lk1, g1, g2⟩ := one_pk (f := fun ω1 => some (ω1, 1, none)) ho
      cases g2
      exact rp_not (G.pk F tk h1 g1)
    · cases h2
      change fin false lk _ = _ at ho
      rw [fin_false] at ho
      obtain ⟨ω1, lk1, g1, g2⟩ := one_pk (f := fun ω1 => some (ω1, 1, none)) ho
      cases g2
      refine (rp_neg (G.pk F tk h1 g1)).congr fun env => ?_
      show (ev T A env).bind _ = (ev T A env).bind _
      congr 1; funext x e1; cases x <;> rfl
  case BoolOp op vs p =>
    split at h
    · rename_i a b vs
      have key : ∀ {A B : E}, (E' = .and A B ∨ E' = .or A B) → ∃ ω1, (oE sg false lk ω E').bind (valO lk) = some ω1 ∧ ω' = ω1 ∧ k = 0 ∧ bs = none := fun {A B} hE => by
        have sh : ∀ {w : Option (List Nat)} {f : List Nat → Option (List Nat)}, ((do
            let ω1 ← w
            let ω2 ← f ω1
            if ω2 = ω1 then some (ω1, 0, none) else none) : Option (List Nat × Nat × Option Nat)) = some (ω', k, bs) → k = 0 ∧ bs = none := fun {w f} hh => by
          cases w with
          | none => cases hh
          | some w =>
            simp only [Option.bind_eq_bind, Option.bind_some] at hh
            cases hf : f w with
            | none => rw [hf] at hh; cases hh
            | some w2 =>
              rw [hf] at hh
              simp only [Option.bind_some] at hh
              split at hh
              · cases hh; exact ⟨rfl, rfl⟩
              · cases hh
        have kb : k = 0 ∧ bs = none := by
          rcases hE with rfl | rfl
          · refine sh (w := (oE sg false lk ω A).bind (valO lk)) (f := fun ω1 => (oE sg false lk ω1 B).bind (valO lk)) ?_
            rw [← ho]
            show _ = (do
              let ω1 ← valO lk (← oE sg false lk ω A)
              let ω2 ← valO lk (← oE sg false lk ω1 B)
              if ω2 = ω1 then some (ω1, 0, none) else none)
            cases oE sg false lk ω A with
            | none => rfl
            | some q =>
              simp only [Option.bind_eq_bind, Option.bind_some]
              cases valO lk q with
              | none => rfl
              | some w => simp only [Option.bind_some]; cases oE sg false lk w B <;> rfl
          · refine sh (w := (oE sg false lk ω A).bind (valO lk)) (f := fun ω1 => (oE sg false lk ω1 B).bind (valO lk)) ?_
            rw [← ho]
            show _ = (do
              let ω1 ← valO lk (← oE sg false lk ω A)
              let ω2 ← valO lk (← oE sg false lk ω1 B)
              if ω2 = ω1 then some (ω1, 0, none) else none)
            cases oE sg false lk ω A with
            | none => rfl
            | some q =>
              simp only [Option.bind_eq_bind, Option.bind_some]
              cases valO lk q with
              | none => rfl
              | some w => simp only [Option.bind_some]; cases oE sg false lk w B <;> rfl
        obtain ⟨rfl, rfl⟩ := kb
        exact ⟨ω', by rw [ho]; rfl, rfl, rfl, rfl⟩
      cases op
      · dsimp only at h
        obtain ⟨A, h1, h2⟩ := bind_ok (show (r Γ a >>= fun x => rBool (r Γ) .and (b :: vs) >>= fun y => Except.ok (E.and x y)) = .ok E' from h)
        obtain ⟨B, h3, h4⟩ := bind_ok h2
        have e4 : E' = .and A B := by cases h4; rfl
        obtain ⟨w, k1, rfl, rfl, rfl⟩ := key (.inl e4)
        exact (rAnd_v G F tk h k1).rp
      · dsimp only at h
        obtain ⟨A, h1, h2⟩ := bind_ok (show (r Γ a >>= fun x => rBool (r Γ) .or (b :: vs) >>= fun y => Except.ok (E.or x y)) = .ok E' from h)
        obtain ⟨B, h3, h4⟩ := bind_ok h2
        have e4 : E' = .or A B := by cases h4; rfl
        obtain ⟨w, k1, rfl, rfl, rfl⟩ := key (.inr e4)
        exact (rOr_v G F tk h k1).rp
    · cases h
  case Compare a ops bs' p =>
    split at h
    · rename_i o b
      obtain ⟨o', h0, h1⟩ := bind_ok h
      obtain ⟨A, h2, h3⟩ := bind_ok h1
      obtain ⟨B, h4, h5⟩ := bind_ok h3
      cases h5
      change fin false lk _ = _ at ho
      rw [fin_false] at ho
      obtain ⟨ω1, lk1, ω2, lk2, g1, g2, g3⟩ := two_pk (f := fun ω1 => some (ω1, 1, none)) ho
      cases g3
      rw [← cCm_op h0]
      exact rp_cmp F.un (noSet_marks (G.st h4).2.1) (G.pk F tk h2 g1) (G.pk F tk h4 g2)
    · rename_i o1 o2 b c
      obtain ⟨o1', h0, h1⟩ := bind_ok h
      obtain ⟨o2', h2, h3⟩ := bind_ok h1
      obtain ⟨A, h4, h5⟩ := bind_ok h3
      obtain ⟨B, h6, h7⟩ := bind_ok h5
      obtain ⟨C, h8, h9⟩ := bind_ok h7
      cases h9
      change fin false lk _ = _ at ho
      rw [fin_false] at ho
      have ho : (do
        let (ω1, lk1) ← pkO 9 lk (← oE sg false lk ω A)
        let (ω2, lk2) ← pkO 9 lk1 (← oE sg false lk1 ω1 B)
        let (ω3, _) ← pkO 9 lk2 (← oE sg false lk2 ω2 C)
        if ω3 = ω2 then some (ω2, 1, none) else none) = some (ω', k, bs) := ho
      cases g1 : oE sg false lk ω A with
      | none => rw [g1] at ho; cases ho
      | some q1 =>
        rw [g1] at ho
        simp only [Option.bind_eq_bind, Option.bind_some] at ho
        cases g2 : pkO 9 lk q1 with
        | none => rw [g2] at ho; cases ho
        | some q2 =>
          obtain ⟨ω1, lk1⟩ := q2
          rw [g2] at ho
          simp only [Option.bind_some] at ho
          obtain ⟨ω2, lk2, ω3, lk3, g3, g4, g5⟩ : ∃ ω2 lk2 ω3 lk3, (oE sg false lk1 ω1 B).bind (pkO 9 lk1) = some (ω2, lk2) ∧ (oE sg false lk2 ω2 C).bind (pkO 9 lk2) = some (ω3, lk3) ∧ (if ω3 = ω2 then some (ω2, 1, none) else none) = some (ω', k, bs) := by
            cases g3 : oE sg false lk1 ω1 B with
            | none => rw [g3] at ho; cases ho
            | some q3 =>
              rw [g3] at ho
              simp only [Option.bind_some] at ho
              cases g4 : pkO 9 lk1 q3 with
              | none => rw [g4] at ho; cases ho
              | some q4 =>
                obtain ⟨ω2, lk2⟩ := q4
                rw [g4] at ho
                simp only [Option.bind_some] at ho
                cases g5 : oE sg false lk2 ω2 C with
                | none => rw [g5] at ho; cases ho
                | some q5 =>
                  rw [g5] at ho
                  simp only [Option.bind_some] at ho
                  cases g6 : pkO 9 lk2 q5 with
                  | none => rw [g6] at ho; cases ho
                  | some q6 =>
                    obtain ⟨ω3, lk3⟩ := q6
                    rw [g6] at ho
                    exact ⟨ω2, lk2, ω3, lk3, by simpa using g4, by rw [g5]; exact g6, ho⟩
          split at g5
          · rename_i e
            subst e
            cases g5
            rw [← cCm_op h0, ← cCm_op h2]
            exact rp_chain F.un (noSet_marks (G.st h8).2.1) (G.pk F tk h4 (by rw [g1]; exact g2)) (G.pk F tk h6 g3) (G.pk F tk h8 g4)
          · cases g5
    · cases h
  case IfExp c a b p =>
    obtain ⟨C, h0, h1⟩ := bind_ok h
    obtain ⟨A, h2, h3⟩ := bind_ok h1
    obtain ⟨B, h4, h5⟩ := bind_ok h3
    cases h5
    change ite (false = true) _ _ = _ at ho
    rw [if_neg Bool.false_ne_true] at ho
    have ho : (do
      let (ω1, _, _) ← oE sg true lk ω C
      let (ω2, k) ← tmpO lk (← oE sg false lk ω1 A)
      let (ω3, k') ← tmpO lk (← oE sg false lk ω1 B)
      if ω3 = ω2 then some (ω2, min k k', none) else none) = some (ω', k, bs) := ho
    cases g1 : oE sg true lk ω C with
    | none => rw [g1] at ho; cases ho
    | some q1 =>
      obtain ⟨ω1, kc, bc⟩ := q1
      rw [g1] at ho
      simp only [Option.bind_eq_bind, Option.bind_some] at ho
      cases g2 : oE sg false lk ω1 A with
      | none => rw [g2] at ho; cases ho
      | some q2 =>
        rw [g2] at ho
        simp only [Option.bind_some] at ho
        cases g3 : tmpO lk q2 with
        | none => rw [g3] at ho; cases ho
        | some q3 =>
          obtain ⟨ω2, ka⟩ := q3
          rw [g3] at ho
          simp only [Option.bind_some] at ho
          cases g4 : oE sg false lk ω1 B with
          | none => rw [g4] at ho; cases ho
          | some q4 =>
            rw [g4] at ho
            simp only [Option.bind_some] at ho
            cases g5 : tmpO lk q4 with
            | none => rw [g5] at ho; cases ho
            | some q5 =>
              obtain ⟨ω3, kb⟩ := q5
              rw [g5] at ho
              simp only [Option.bind_some] at ho
              split at ho
              · rename_i e
                subst e
                cases ho
                refine (rp_ite (G.t F tk h0 g1) ((G.tmp F tk h2 (by rw [g2]; exact g3)).cap (Nat.min_le_left _ _)) ((G.tmp F tk h4 (by rw [g4]; exact g5)).cap (Nat.min_le_right _ _))).congr fun env => ?_
                show (ev T C env).bind _ = ((ev T C env).bind _).bind _
                cases ev T C env with
                | ok x e1 =>
                  simp only [R.bind]
                  cases ht : truth x with
                  | none => rfl
                  | some t => cases t <;> rfl
                | exc x e1 => rfl
                | err => rfl
              · cases ho
  case Tuple es kk p =>
    split at h
    · rename_i hl
      obtain ⟨A, h1, h2⟩ := bind_ok h
      cases h2
      have ho : (oL sg lk ω A).bind (fun ω1 => some (ω1, 0, none)) = some (ω', k, bs) := ho
      obtain ⟨ω1, g1, g2⟩ := Option.bind_eq_some_iff.mp ho
      cases g2
      obtain ⟨r1, l1⟩ := rEs_ok G F tk h1 g1
      exact (rv_tup r1 hl l1).rp
    · cases h
  case List es p =>
    split at h
    · rename_i hl
      obtain ⟨A, h1, h2⟩ := bind_ok h
      cases h2
      have ho : (oL sg lk ω A).bind (fun ω1 => some (ω1, 1, none)) = some (ω', k, bs) := ho
      obtain ⟨ω1, g1, g2⟩ := Option.bind_eq_some_iff.mp ho
      cases g2
      obtain ⟨r1, l1⟩ := rEs_ok G F tk h1 g1
      exact rp_lst r1.ro hl l1
    · cases h
  case Dict ks vs p =>
    split at h
    · rename_i hl
      obtain ⟨A, h1, h2⟩ := bind_ok h
      cases h2
      have ho : (oL sg lk ω A).bind (fun ω1 => some (ω1, 1, none)) = some (ω', k, bs) := ho
      obtain ⟨ω1, g1, g2⟩ := Option.bind_eq_some_iff.mp ho
      cases g2
      obtain ⟨r1, l1, l2⟩ := rKV_ok (pos := p) G F tk h1 g1
      cases ks with
      | nil =>
        cases vs with
        | nil =>
          cases h1
          cases g1
          exact rp_dic0
        | cons v vs => cases l1
      | cons k ks => exact rp_dic (by simp) l2 l1 hl r1
    · cases h
  case Subscript a b p => exact rSub_ok G F tk h ho
  case ListComp elt gens sc p =>
    obtain ⟨t, it, ifs, own, Tt, I, c, el, lk1, rfl, rfl, rfl, rfl, L⟩ := rLc_L G F tk h ho
    exact rp_lc L
  case Call f es kws p =>
    split at h
    · rename_i hk
      have hk : kws = [] := by cases kws <;> simp at hk ⊢
      subst hk
      split at h
      · exact rCallN_ok G F tk h ho
      · split at h
        · rename_i hl
          exact rMeth_ok G F tk hl h ho
        · cases h
      · rename_i a b pp
        split at h
        · cases h
        rename_i hne
        obtain ⟨A, h1, h2⟩ := bind_ok h
        obtain ⟨as, h3, h4⟩ := bind_ok h2
        cases h4
        have ho : ((oE sg false lk ω A).bind (valO lk)).bind (fun ω1 => (oA sg lk ω1 as).bind fun ω2 => if iosA as = [] then some (ω2, 0, none) else none) = some (ω', k, bs) := by
          rw [← ho]
          show _ = fin false lk _
          rw [fin_false]
          cases oE sg false lk ω A <;> rfl
        obtain ⟨ω1, g1, g2⟩ := Option.bind_eq_some_iff.mp ho
        obtain ⟨ω2, g3, g4⟩ := Option.bind_eq_some_iff.mp g2
        split at g4
        · rename_i hio
          cases g4
          obtain ⟨⟨wx, kx, bx⟩, g5, g6⟩ := Option.bind_eq_some_iff.mp g1
          obtain ⟨ra, st⟩ := rAs_ok G F tk h3 g3
          cases es with
          | nil => exact absurd rfl hne
          | cons a' es => exact rp_callv F tk hio ((rSub_ok G F tk h1 g5).val g6) ra st
        · cases g4
      · cases h
    · cases h
end
end VK
set_option Elab.async false
set_option linter.all false
set_option maxHeartbeats 4000000
/-! the reader and the checker are sound: expressions, 7: tests; all expressions -/
namespace VK
open PySem PySem.Spec PyProof.Rows L2
section
variable {X : Cx} {g : GF} {ec : EC} {W : WX} {T : Tab} {sg : Sgs} {Γ : Cn} {e a b c o f elt tg it : Expr} {es ifs : List Expr} {gens : List Comprehension} {E' A B C : E} {lk ω ω' ω1 : List Nat} {k n : Nat} {bs : Option Nat} {r : Cn → Expr → VK.X E} {x m : Str} {p pos apos cpos : Pos} {fs : Env → R (List D)} {q : Option (List Nat × Nat × Option Nat)} {z : List Nat × Nat × Option Nat} {sc : Scope}
theorem ch_parts (ho : (do
        let (ω1, lk1) ← pkO 9 lk (← oE sg false lk ω A)
        let (ω2, lk2) ← pkO 9 lk1 (← oE sg false lk1 ω1 B)
        let (ω3, _) ← pkO 9 lk2 (← oE sg false lk2 ω2 C)
        if ω3 = ω2 then some (ω2, 1, none) else none) = some (ω', k, bs)) :
    ∃ ω1 lk1 lk2 lk3, (oE sg false lk ω A).bind (pkO 9 lk) = some (ω1, lk1) ∧ (oE sg false lk1 ω1 B).bind (pkO 9 lk1) = some (ω', lk2) ∧ (oE sg false lk2 ω' C).bind (pkO 9 lk2) = some (ω', lk3) ∧ k = 1 ∧ bs = none := by
  cases g1 : oE sg false lk ω A with
  | none => rw [g1] at ho; cases ho
  | some q1 =>
    rw [g1] at ho
    simp only [Option.bind_eq_bind, Option.bind_some] at ho
    cases g2 : pkO 9 lk q1 with
    | none => rw [g2] at ho; cases ho
    | some q2 =>
      obtain ⟨ω1, lk1⟩ := q2
      rw [g2] at ho
      simp only [Option.bind_some] at ho
      cases g3 : oE sg false lk1 ω1 B with
      | none => rw [g3] at ho; cases ho
      | some q3 =>
        rw [g3] at ho
        simp only [Option.bind_some] at ho
        cases g4 : pkO 9 lk1 q3 with
        | none => rw [g4] at ho; cases ho
        | some q4 =>
          obtain ⟨ω2, lk2⟩ := q4
          rw [g4] at ho
          simp only [Option.bind_some] at ho
          cases g5 : oE sg false lk2 ω2 C with
          | none => rw [g5] at ho; cases ho
          | some q5 =>
            rw [g5] at ho
            simp only [Option.bind_some] at ho
            cases g6 : pkO 9 lk2 q5 with
            | none => rw [g6] at ho; cases ho
            | some q6 =>
              obtain ⟨ω3, lk3⟩ := q6
              rw [g6] at ho
              simp only [Option.bind_some] at ho
              split at ho
              · rename_i e
                subst e
                cases ho
                exact ⟨ω1, lk1, lk2, lk3, by simpa using g2, by rw [g3]; exact g4, by rw [g5]; exact g6, rfl, rfl⟩
              · cases ho
def retV : E → Option Nat
  | .v i => some i
  | _ => none
theorem rSub_logic {E'' : E} (h : rSub (r Γ) a b = .ok E'') : isLogic E'' = false ∧ retV E'' = none := by
  unfold rSub at h
  split at h
  · split at h
    · obtain ⟨A, h1, h2⟩ := bind_ok h
      obtain ⟨B, h3, h4⟩ := bind_ok h2
      obtain ⟨C, h5, h6⟩ := bind_ok h4
      cases h6; exact ⟨rfl, rfl⟩
    · split at h
      · obtain ⟨A, h1, h2⟩ := bind_ok h
        cases h2; exact ⟨rfl, rfl⟩
      · cases h
    · cases h
  · obtain ⟨A, h1, h2⟩ := bind_ok h
    obtain ⟨B, h3, h4⟩ := bind_ok h2
    cases h4; exact ⟨rfl, rfl⟩
theorem rCallN_logic {E'' : E} (h : rCallN Γ (r Γ) x es = .ok E'') : isLogic E'' = false ∧ retV E'' = none := by
  unfold rCallN at h
  split at h
  · split at h
    · obtain ⟨A, h1, h2⟩ := bind_ok h
      cases h2; exact ⟨rfl, rfl⟩
    · cases h
    · unfold rBlt at h
      split at h
      · obtain ⟨A, h1, h2⟩ := bind_ok h
        obtain ⟨B, h3, h4⟩ := bind_ok h2
        cases h4; exact ⟨rfl, rfl⟩
      · split at h
        · unfold rIsi at h
          split at h
          · split at h
            · obtain ⟨A, h1, h2⟩ := bind_ok h
              obtain ⟨B, h3, h4⟩ := bind_ok h2
              cases h4; exact ⟨rfl, rfl⟩
            · cases h
          · cases h
        · obtain ⟨A, h1, h2⟩ := bind_ok h
          obtain ⟨B, h3, h4⟩ := bind_ok h2
          obtain ⟨C, h5, h6⟩ := bind_ok h4
          cases h6; exact ⟨rfl, rfl⟩
      · cases h
  · cases h
theorem rMeth_logic {E'' : E} (h : rMeth Γ (r Γ) o m es = .ok E'') : isLogic E'' = false ∧ retV E'' = none := by
  unfold rMeth at h
  split at h
  · split at h
    · split at h
      · obtain ⟨A, h1, h2⟩ := bind_ok h
        cases h2; exact ⟨rfl, rfl⟩
      · cases h
    · cases h
  · split at h
    · split at h
      · obtain ⟨A, h1, h2⟩ := bind_ok h
        obtain ⟨B, h3, h4⟩ := bind_ok h2
        cases h4; exact ⟨rfl, rfl⟩
      · cases h
    · split at h
      · obtain ⟨A, h1, h2⟩ := bind_ok h
        obtain ⟨B, h3, h4⟩ := bind_ok h2
        obtain ⟨C, h5, h6⟩ := bind_ok h4
        cases h6; exact ⟨rfl, rfl⟩
      · cases h
  · cases h
section
variable (G : Gd g ec T sg r) (F : Ft X g ec T sg Γ) (tk : Takes X W)
include G F tk
theorem plain_t (he : ∀ whole, isTrue e X.env whole = (do let v ← whole; standAt e.pos; holding [v] (truthy v))) (hl : isLogic E' = false) (h : stepE r Γ e = .ok E') (ho : oE sg true lk ω E' = some (ω', k, bs)) : RT X g ec W e lk ω ω' (tr (ev T E')) := by
  rw [oE_fin hl] at ho
  obtain ⟨⟨w, k1, b1⟩, ω1, lk1, h1, h2, h3⟩ := fin_true ho
  cases h3
  exact rt_truth ((step_e G F tk h h1).peek h2) he
theorem step_t (h : stepE r Γ e = .ok E') (ho : oE sg true lk ω E' = some (ω', k, bs)) : RT X g ec W e lk ω ω' (tr (ev T E')) := by
  have h' := h
  cases e <;> dsimp only [stepE] at h <;> try (cases h; done)
  case Constant kk _ _ =>
    cases kk <;> dsimp only at h <;> try (cases h; done)
    all_goals
      cases h
      exact plain_t G F tk (fun _ => rfl) rfl h' ho
  case Name x p =>
    have hl : isLogic E' = false := by
      split at h
      · obtain ⟨i, h1, h2⟩ := bind_ok h; cases h2; rfl
      · split at h
        · split at h <;> cases h <;> rfl
        · cases h
    exact plain_t G F tk (fun _ => rfl) hl h' ho
  case BinOp a op b p =>
    obtain ⟨A, h1, h2⟩ := bind_ok h
    obtain ⟨B, h3, h4⟩ := bind_ok h2
    obtain ⟨o, h5, h6⟩ := bind_ok h4
    cases h6
    exact plain_t G F tk (fun _ => rfl) rfl h' ho
  case UnaryOp op a p =>
    obtain ⟨A, h1, h2⟩ := bind_ok h
    cases op <;> dsimp only at h2 <;> try (cases h2; done)
    · cases h2
      exact plain_t G F tk (fun _ => rfl) rfl h' ho
    · cases h2
      have ho : oE sg true lk ω A = some (ω', k, bs) := ho
      exact rt_not (G.t F tk h1 ho)
    · cases h2
      exact plain_t G F tk (fun _ => rfl) rfl h' ho
  case BoolOp op vs p =>
    split at h
    · cases op
      · exact (rAnd_t G F tk h ho).rt
      · exact (rOr_t G F tk h ho).rt
    · cases h
  case Compare a ops bs' p =>
    split at h
    · rename_i o b
      obtain ⟨o', h0, h1⟩ := bind_ok h
      obtain ⟨A, h2, h3⟩ := bind_ok h1
      obtain ⟨B, h4, h5⟩ := bind_ok h3
      cases h5
      rw [oE_fin rfl] at ho
      obtain ⟨⟨w, k1, b1⟩, w1, l1, z1, z2, z3⟩ := fin_true ho
      cases z3
      change fin false lk _ = _ at z1
      rw [fin_false] at z1
      obtain ⟨ω1, lk1, ω2, lk2, g1, g2, g3⟩ := two_pk (f := fun ω1 => some (ω1, 1, none)) z1
      cases g3
      cases z2
      rw [← cCm_op h0]
      exact rt_cmp F.un (noSet_marks (G.st h4).2.1) (G.pk F tk h2 g1) (G.pk F tk h4 g2)
    · rename_i o1 o2 b c
      obtain ⟨o1', h0, h1⟩ := bind_ok h
      obtain ⟨o2', h2, h3⟩ := bind_ok h1
      obtain ⟨A, h4, h5⟩ := bind_ok h3
      obtain ⟨B, h6, h7⟩ := bind_ok h5
      obtain ⟨C, h8, h9⟩ := bind_ok h7
      cases h9
      rw [oE_fin rfl] at ho
      obtain ⟨⟨w, k1, b1⟩, w1, l1, z1, z2, z3⟩ := fin_true ho
      cases z3
      change fin false lk _ = _ at z1
      rw [fin_false] at z1
      obtain ⟨ω1, lk1, lk2, lk3, g1, g2, g3, rfl, rfl⟩ := ch_parts z1
      cases z2
      rw [← cCm_op h0, ← cCm_op h2]
      exact rt_chain F.un (noSet_marks (G.st h8).2.1) (G.pk F tk h4 g1) (G.pk F tk h6 g2) (G.pk F tk h8 g3)
    · cases h
  case IfExp c a b p =>
    obtain ⟨C, h0, h1⟩ := bind_ok h
    obtain ⟨A, h2, h3⟩ := bind_ok h1
    obtain ⟨B, h4, h5⟩ := bind_ok h3
    cases h5
    cases ho
  case Tuple es kk p =>
    split at h
    · obtain ⟨A, h1, h2⟩ := bind_ok h
      cases h2
      exact plain_t G F tk (fun _ => rfl) rfl h' ho
    · cases h
  case List es p =>
    split at h
    · obtain ⟨A, h1, h2⟩ := bind_ok h
      cases h2
      exact plain_t G F tk (fun _ => rfl) rfl h' ho
    · cases h
  case Dict ks vs p =>
    split at h
    · obtain ⟨A, h1, h2⟩ := bind_ok h
      cases h2
      exact plain_t G F tk (fun _ => rfl) rfl h' ho
    · cases h
  case Subscript a b p => exact plain_t G F tk (fun _ => rfl) (rSub_logic h).1 h' ho
  case ListComp elt gens sc p =>
    have hl : isLogic E' = false := by
      unfold rLc at h
      split at h
      · obtain ⟨own, h1, h2⟩ := bind_ok h
        split at h2
        · obtain ⟨I, h3, h4⟩ := bind_ok h2
          obtain ⟨Tt, h5, h6⟩ := bind_ok h4
          obtain ⟨c, h7, h8⟩ := bind_ok h6
          obtain ⟨el, h9, h10⟩ := bind_ok h8
          cases h10; rfl
        · cases h2
      · cases h
    exact plain_t G F tk (fun _ => rfl) hl h' ho
  case Call f es kws p =>
    have hl : isLogic E' = false := by
      split at h
      · split at h
        · exact (rCallN_logic h).1
        · split at h
          · exact (rMeth_logic h).1
          · cases h
        · split at h
          · cases h
          · obtain ⟨A, h1, h2⟩ := bind_ok h
            obtain ⟨B, h3, h4⟩ := bind_ok h2
            cases h4; rfl
        · cases h
      · cases h
    exact plain_t G F tk (fun _ => rfl) hl h' ho
end
theorem step_v {i : Nat} (h : stepE r Γ e = .ok (.v i)) : ∃ x q, e = .Name x q ∧ slo Γ x = .ok i := by
  cases e <;> dsimp only [stepE] at h <;> try (cases h; done)
  case Constant kk _ _ => cases kk <;> cases h
  case Name x p =>
    split at h
    · obtain ⟨j, h1, h2⟩ := bind_ok h
      cases h2
      exact ⟨x, p, rfl, h1⟩
    · split at h
      · split at h <;> cases h
      · cases h
  case BinOp a op b p =>
    obtain ⟨A, h1, h2⟩ := bind_ok h
    obtain ⟨B, h3, h4⟩ := bind_ok h2
    obtain ⟨o, h5, h6⟩ := bind_ok h4
    cases h6
  case UnaryOp op a p =>
    obtain ⟨A, h1, h2⟩ := bind_ok h
    cases op <;> cases h2
  case BoolOp op vs p =>
    split at h
    · rename_i a b vs
      cases op
      · obtain ⟨A, h1, h2⟩ := bind_ok (show (r Γ a >>= fun x => rBool (r Γ) .and (b :: vs) >>= fun y => Except.ok (E.and x y)) = _ from h)
        obtain ⟨B, h3, h4⟩ := bind_ok h2
        cases h4
      · obtain ⟨A, h1, h2⟩ := bind_ok (show (r Γ a >>= fun x => rBool (r Γ) .or (b :: vs) >>= fun y => Except.ok (E.or x y)) = _ from h)
        obtain ⟨B, h3, h4⟩ := bind_ok h2
        cases h4
    · cases h
  case Compare a ops bs' p =>
    split at h
    · obtain ⟨o', h0, h1⟩ := bind_ok h
      obtain ⟨A, h2, h3⟩ := bind_ok h1
      obtain ⟨B, h4, h5⟩ := bind_ok h3
      cases h5
    · obtain ⟨o1', h0, h1⟩ := bind_ok h
      obtain ⟨o2', h2, h3⟩ := bind_ok h1
      obtain ⟨A, h4, h5⟩ := bind_ok h3
      obtain ⟨B, h6, h7⟩ := bind_ok h5
      obtain ⟨C, h8, h9⟩ := bind_ok h7
      cases h9
    · cases h
  case IfExp c a b p =>
    obtain ⟨C, h0, h1⟩ := bind_ok h
    obtain ⟨A, h2, h3⟩ := bind_ok h1
    obtain ⟨B, h4, h5⟩ := bind_ok h3
    cases h5
  case Tuple es kk p =>
    split at h
    · obtain ⟨A, h1, h2⟩ := bind_ok h; cases h2
    · cases h
  case List es p =>
    split at h
    · obtain ⟨A, h1, h2⟩ := bind_ok h; cases h2
    · cases h
  case Dict ks vs p =>
    split at h
    · obtain ⟨A, h1, h2⟩ := bind_ok h; cases h2
    · cases h
  case Subscript a b p => have := (rSub_logic h).2; cases this
  case ListComp elt gens sc p =>
    unfold rLc at h
    split at h
    · obtain ⟨own, h1, h2⟩ := bind_ok h
      split at h2
      · obtain ⟨I, h3, h4⟩ := bind_ok h2
        obtain ⟨Tt, h5, h6⟩ := bind_ok h4
        obtain ⟨c, h7, h8⟩ := bind_ok h6
        obtain ⟨el, h9, h10⟩ := bind_ok h8
        cases h10
      · cases h2
    · cases h
  case Call f es kws p =>
    split at h
    · split at h
      · have := (rCallN_logic h).2; cases this
      · split at h
        · have := (rMeth_logic h).2; cases this
        · cases h
      · split at h
        · cases h
        · obtain ⟨A, h1, h2⟩ := bind_ok h
          obtain ⟨B, h3, h4⟩ := bind_ok h2
          cases h4
      · cases h
    · cases h
theorem step_st (h : stepE r Γ e = .ok E') : (∀ z p, e ≠ .Starred z p) ∧ (∀ z k p, e ≠ .Set z k p) ∧ ∀ a b c p, e ≠ .Slice a b c p := by
  refine ⟨fun z p he => ?_, fun z k p he => ?_, fun a b c p he => ?_⟩ <;> subst he <;> cases h
theorem rE_gd : ∀ n, Gd g ec T sg (rE n)
  | 0 => ⟨fun _ _ h => (by cases h), fun _ _ h => (by cases h), fun h => (by cases h), fun h => (by cases h)⟩
  | n + 1 => by
    have ih := rE_gd n
    refine ⟨fun F tk h ho => step_e ih F tk h ho, fun F tk h ho => step_t ih F tk h ho, fun h => step_st h, fun {Γ es p E'} h => ?_⟩
    have h : stepE (rE n) Γ (.List es p) = .ok E' := h
    dsimp only [stepE] at h
    split at h
    · obtain ⟨A, h1, h2⟩ := bind_ok h
      cases h2
      exact ⟨_, rfl⟩
    · cases h
end
end VK
set_option Elab.async false
set_option linter.all false
set_option maxHeartbeats 4000000
/-! statements: reader, checker -/
namespace VK
open PySem PySem.Spec PyProof.Rows L2
def rSs (r : Stmt → X S) : List Stmt → X Ss
  | [] => .ok .nil
  | s :: ss => do
    let a ← r s
    let b ← rSs r ss
    .ok (.cons a b)
/-- a, b = e1, e2 are stored from the right -/
def swB (Γ : Cn) (x y : Str) (px py : Pos) (a b : Expr) : Bool :=
  kd Γ x == some .local && kd Γ y == some .local && x != y && py.line == px.line && Γ.sc.kind == .function && !(foldedForSure 8 a && foldedForSure 8 b) && !(constantsAlone 8 a && constantsAlone 8 b)
/-- name = [..] on one line -/
def lcB (Γ : Cn) (x : Str) (py : Pos) (e : Expr) : Bool := match e with
  | .ListComp _ _ sc pos => Γ.sc.kind == .function && kd Γ x == some .local && py.line == pos.line && !(sc.names.any fun (n, k) => n == x && (k == .local || k == .cell))
  | _ => false
def rAsg (Γ : Cn) (r : Expr → X E) (t e : Expr) : X S := match t, e with
  | .Tuple [.Name x px, .Name y py] _ _, .Tuple [a, b] _ _ => if swB Γ x y px py a b then (do
      let i ← sto Γ x
      let j ← sto Γ y
      let a ← r a
      let b ← r b
      .ok (.par (.cons (.nm i) (.cons (.nm j) .nil)) (.cons a (.cons b .nil)))) else no
  | .Name x py, e => if isComp e && !lcB Γ x py e then no else (do
      let i ← sto Γ x
      let e ← r e
      .ok (.asg (.nm i) e))
  | .Tuple ts k p, e => if isComp e || !asgOk (.Tuple ts k p) e then no else (do
      let T ← rTg Γ 4 (.Tuple ts k p)
      let e ← r e
      .ok (.asg T e))
  | .Subscript (.Name x _) i _, e => if isComp e then no else (do
      let e ← r e
      let k ← slo Γ x
      let i ← r i
      .ok (.set1 (Γ.deep.contains k) k i e))
  | _, _ => no
def stepS (n : Nat) (rs : Stmt → X S) (Γ : Cn) (s : Stmt) : X S := match s with
  | .Pass _ => .ok .pass
  | .Break _ => .ok .brk
  | .Continue _ => .ok .cnt
  | .Expr e _ => if isComp e then no else (do .ok (.expr (← rE n Γ e)))
  | .Return none _ => .ok (.ret (.c .non))
  | .Return (some e) _ => do .ok (.ret (← rE n Γ e))
  | .If c a b _ => do
    let c ← rE n Γ c
    let a ← rSs rs a
    let b ← rSs rs b
    .ok (.ite c a b)
  | .While c b [] _ => do
    let c ← rE n Γ c
    let b ← rSs rs b
    .ok (.whl c b)
  | .For t it b [] _ => do
    let T ← rTg Γ 4 t
    let it ← rI Γ (rE n Γ) it
    let b ← rSs rs b
    .ok (.for_ T it b)
  | .Assign [t] e _ => rAsg Γ (rE n Γ) t e
  | .AugAssign (.Name x _) o e _ => do
    let o ← cOp o
    let i ← sto Γ x
    let e ← rE n Γ e
    .ok (.aug o i e)
  | .Raise (some (.Call (.Name x _) [.Constant (.str m) _ _] [] _)) none _ => if isGl Γ x then (match Γ.G.lookup x with
    | some (.cls c) => .ok (.raise c (.cons (.c (.str m)) .nil))
    | _ => no) else no
  | .Try b [.ExceptHandler (some (.Name x _)) none [.Return (some (.Constant (.str m) _ _)) _] _] [] [] _ => if isGl Γ x then (match Γ.G.lookup x with
    | some (.cls c) => do
      let b ← rSs rs b
      .ok (.tri b (.cons c none (.cons (.ret (.c (.str m))) .nil) .nil))
    | _ => no) else no
  | _ => no
def rS (n : Nat) (Γ : Cn) : Nat → Stmt → X S
  | 0 => fun _ => no
  | k + 1 => stepS n (rS n Γ k) Γ

/-! ### the checker -/
def leB (a b : List Nat) : Bool := decide (a.length ≤ b.length) && (List.range a.length).all fun i => decide (a.getD i 0 ≤ b.getD i 0)
def meet (a b : List Nat) : List Nat := (List.range a.length).map fun i => min (a.getD i 0) (b.getD i 0)
def eqAt (is a b : List Nat) : Bool := is.all fun i => a.getD i 0 == b.getD i 0
def lastS : Ss → Option S
  | .nil => none
  | .cons s .nil => some s
  | .cons _ ss => lastS ss
/-- never goes on -/
def endS : S → Bool
  | .ret _ => true
  | .raise _ _ => true
  | .brk => true
  | .cnt => true
  | _ => false
def ends : Ss → Bool
  | .nil => false
  | .cons s ss => endS s || ends ss
/-- a state of a loop: it is gone down until it holds -/
def loopO (f : List Nat → Option (List Nat × List Nat)) : Nat → List Nat → Option (List Nat × List Nat)
  | 0, _ => none
  | n + 1, ω => do
    let (ω1, ω2) ← f ω
    if leB ω1 ω2 then some (ω, ω1) else loopO f n (meet ω ω2)
mutual
def oS (sg : Sgs) (P : Pn) (lk ω : List Nat) : S → Option (List Nat)
  | .pass => some ω
  | .brk => if leB P.ωL ω && eqAt lk P.ωL ω then some ω else none
  | .cnt => if leB P.ωL ω && eqAt lk P.ωL ω then some ω else none
  | .expr e => do
    let (ω1, _, _) ← oE sg false lk ω e
    some ω1
  | .ret e => match retV e with
    | some i => if ω.getD i 0 = P.rk ∧ 0 < P.rk ∧ i ∉ P.pin ∧ i ∉ lk ∧ eqAt P.pin ω P.ωr then some ω else (do
        let (ω1, k) ← tmpO lk (← oE sg false lk ω e)
        if P.rk ≤ k ∧ eqAt P.pin ω1 P.ωr then some ω1 else none)
    | none => do
      let (ω1, k) ← tmpO lk (← oE sg false lk ω e)
      if P.rk ≤ k ∧ eqAt P.pin ω1 P.ωr then some ω1 else none
  | .ite c a b => do
    let (ω1, _, _) ← oE sg true lk ω c
    let ω2 ← oSs sg P lk ω1 a
    let ω3 ← oSs sg P lk ω1 b
    some (if ends a then ω3 else if ends b then ω2 else meet ω2 ω3)
  | .whl c b => do
    let (ω0, _) ← loopO (fun ω => do
      let (ω1, _, _) ← oE sg true lk ω c
      if ω1 = ω then (do
        let ω2 ← oSs sg (atL P ω) lk ω b
        some (ω, if ends b then ω else ω2)) else none) 4 ω
    if eqAt lk ω0 ω then some ω0 else none
  | .for_ T it b => do
    let (ω0, ω1) ← loopO (fun ω => do
      let (ω1, lk1) ← oI sg lk ω it
      if ((namesT T).all fun i => decide (i ∉ lk1 ∧ i ∉ P.pin ∧ i < ω1.length)) then (do
        let ω2 ← oSs sg (atL P ω1) lk1 (zeroAt ω1 (namesT T)) b
        some (ω1, if ends b then ω1 else ω2)) else if leB ω1 (zeroAt ω1 (namesT T)) then none else some (ω1, zeroAt ω1 (namesT T))) 4 ω
    if eqAt lk ω0 ω then some ω1 else none
  | .asg (.nm i) e => do
    let (ω1, k) ← tmpO lk (← oE sg false lk ω e)
    if i ∉ lk ∧ i ∉ P.pin ∧ i < ω1.length then some (ω1.set i k) else none
  | .asg (.tp ts) e => do
    let ω1 ← valO lk (← oE sg false lk ω e)
    if (namesTs ts).all fun i => decide (i ∉ lk ∧ i ∉ P.pin ∧ i < ω1.length) then some (zeroAt ω1 (namesTs ts)) else none
  | .par (.cons (.nm i) (.cons (.nm j) .nil)) (.cons a (.cons b .nil)) => do
    let (ω1, k1) ← tmpO lk (← oE sg false lk ω a)
    let (ω2, k2) ← tmpO lk (← oE sg false lk ω1 b)
    if i ∉ lk ∧ i ∉ P.pin ∧ i < ω2.length ∧ j ∉ lk ∧ j ∉ P.pin ∧ j < ω2.length ∧ i ≠ j then some ((ω2.set i k1).set j k2) else none
  | .set1 l i j e => do
    let (ω1, k) ← tmpO lk (← oE sg false lk ω e)
    let ω2 ← valO (i :: lk) (← oE sg false (i :: lk) ω1 j)
    if i ∉ lk ∧ 1 ≤ ω1.getD i 0 ∧ ω1.getD i 0 ≤ k + 1 ∧ (ω1.getD i 0 = 1 ∨ l = true) then some ω2 else none
  | .aug _ i e => if i ∉ lk ∧ i ∉ P.pin ∧ i < ω.length then (do
      let ω1 ← valO (i :: lk) (← oE sg false (i :: lk) (ω.set i 0) e)
      if i < ω1.length then some (ω1.set i 0) else none) else none
  | .raise _ _ => some ω
  | .tri b _ => do
    let ω1 ← oSs sg P lk ω b
    if P.rk = 0 ∧ eqAt P.pin (zeroBut lk ω) P.ωr then some ω1 else none
  | _ => none
def oSs (sg : Sgs) (P : Pn) (lk ω : List Nat) : Ss → Option (List Nat)
  | .nil => some ω
  | .cons s ss => do
    let ω1 ← oS sg P lk ω s
    oSs sg P lk ω1 ss
end
end VK
set_option Elab.async false
set_option linter.all false
set_option maxHeartbeats 4000000
/-! the reader and the checker are sound: statements -/
namespace VK
open PySem PySem.Spec PyProof.Rows L2
structure Fs (X : Cx) (g : GF) (ec : EC) (T : Tab) (sg : Sgs) (Γ : Cn) : Prop where
  ft : Ft X g ec T sg Γ
  po : PassesOwn (model X.prog X.w) X.A X.env X.xe
  st : X.stack = X.env :: X.outer
  fr : X.env.frame = some X.env.locals
  cls : ∀ x c, Γ.G.lookup x = some (.cls c) → ExF X ec c x ∧ ∃ cv, X.mg x = some cv ∧ ∀ k C fl, ec k C fl → PySem.W.exmOne X.K (.ref C) cv = some (T.sup k c)
theorem leB_le {a b : List Nat} (h : leB a b = true) : ∀ i, a.getD i 0 ≤ b.getD i 0 := fun i => by
  unfold leB at h
  obtain ⟨h1, h2⟩ := Bool.and_eq_true_iff.mp h
  by_cases hi : i < a.length
  · have := List.all_eq_true.mp h2 i (List.mem_range.mpr hi)
    exact of_decide_eq_true this
  · rw [getD_out hi]; exact Nat.zero_le _
theorem eqAt_eq {is a b : List Nat} (h : eqAt is a b = true) : ∀ i ∈ is, a.getD i 0 = b.getD i 0 := fun i hi => by
  have := List.all_eq_true.mp h i hi
  exact beq_iff_eq.mp this
theorem meet_get (a b : List Nat) (i : Nat) : (meet a b).getD i 0 = if i < a.length then min (a.getD i 0) (b.getD i 0) else 0 := by
  unfold meet
  rw [List.getD_eq_getElem?_getD, List.getElem?_map]
  by_cases hi : i < a.length
  · rw [List.getElem?_range hi, if_pos hi]; rfl
  · rw [List.getElem?_eq_none (by rw [List.length_range]; omega), if_neg hi]; rfl
theorem meet_le1 (a b : List Nat) : ∀ i, (meet a b).getD i 0 ≤ a.getD i 0 := fun i => by
  rw [meet_get]; split
  · exact Nat.min_le_left _ _
  · exact Nat.zero_le _
theorem meet_le2 (a b : List Nat) : ∀ i, (meet a b).getD i 0 ≤ b.getD i 0 := fun i => by
  rw [meet_get]; split
  · exact Nat.min_le_right _ _
  · exact Nat.zero_le _
theorem meet_kp {lk ω a b : List Nat} (h1 : Kp lk ω a) (h2 : Kp lk ω b) : Kp lk ω (meet a b) := fun i hi => by
  rw [meet_get, h1 i hi, h2 i hi]
  split
  · exact Nat.min_self _
  · rename_i h
    have := h1 i hi
    rw [getD_out h] at this
    omega
section
variable {T : Tab}
theorem endS_nx : ∀ {s : S} {env e : Env}, endS s = true → ex T s env ≠ .nx e
  | .ret a, env, e, _ => by
    show ofR (ev T a env) .ret ≠ .nx e
    cases ev T a env <;> (intro z; cases z)
  | .raise c es, env, e, _ => by
    show (ofR (evs T es env) fun xs e1 => .exc (.exc c xs) e1) ≠ .nx e
    cases evs T es env <;> (intro z; cases z)
  | .brk, _, _, _ => fun z => by cases z
  | .cnt, _, _, _ => fun z => by cases z
theorem ends_nx : ∀ {ss : Ss} {env e : Env}, ends ss = true → exs T ss env ≠ .nx e
  | .nil, _, _, h => by cases h
  | .cons s ss, env, e, h => by
    show (ex T s env).next (exs T ss) ≠ .nx e
    unfold ends at h
    rcases Bool.or_eq_true_iff.mp h with h | h
    · have := fun e => endS_nx (T := T) (env := env) (e := e) h
      cases hx : ex T s env with
      | nx e1 => exact absurd hx (this e1)
      | _ => intro z; cases z
    · cases hx : ex T s env with
      | nx e1 => exact ends_nx h
      | _ => intro z; cases z
end
section
variable {X : Cx} {g : GF} {ec : EC} {W : WX} {T : Tab} {sg : Sgs} {Γ : Cn} {P : Pn} {e a b c o f elt tg it : Expr} {st : Stmt} {ss body : List Stmt} {es ifs : List Expr} {lk ω ω' ω1 ω2 ω3 : List Nat} {k n : Nat} {x y : Str} {p pos apos cpos : Pos} {s : S} {S' : Ss} {f1 f2 : Env → Fl}
theorem RSs.any (h : RSs X g ec W P ss lk ω ω2 f1) (hne : ∀ env e, f1 env ≠ .nx e) (kp : Kp lk ω ω3) : RSs X g ec W P ss lk ω ω3 f1 := by
  refine ⟨pss_imp h.ps fun De σ H ⟨env, foot, sf, q⟩ => ⟨env, foot, sf, ?_⟩, kp⟩
  cases hf : f1 env with
  | nx e => exact absurd hf (hne _ _)
  | ret d e => rw [hf] at q; exact q
  | brk e => rw [hf] at q; exact q
  | cnt e => rw [hf] at q; exact q
  | exc x e => rw [hf] at q; exact q
  | err => rw [hf] at q; exact q
theorem loopO_ok {f : List Nat → Option (List Nat × List Nat)} : ∀ {n : Nat} {ω ω0 ω1 : List Nat}, loopO f n ω = some (ω0, ω1) → ∃ ω2, f ω0 = some (ω1, ω2) ∧ leB ω1 ω2 = true ∧ ∀ i, ω0.getD i 0 ≤ ω.getD i 0
  | 0, _, _, _, h => by cases h
  | n + 1, ω, ω0, ω1, h => by
    unfold loopO at h
    obtain ⟨⟨a, b⟩, h1, h2⟩ := Option.bind_eq_some_iff.mp h
    dsimp only at h2
    split at h2
    · rename_i hl
      cases h2
      exact ⟨b, h1, hl, fun _ => Nat.le_refl _⟩
    · obtain ⟨ω2, h3, h4, h5⟩ := loopO_ok h2
      exact ⟨ω2, h3, h4, fun i => Nat.le_trans (h5 i) (meet_le1 _ _ i)⟩
/-- the promise of a reader of statements -/
def GdS (g : GF) (ec : EC) (T : Tab) (sg : Sgs) (Γ : Cn) (r : Stmt → VK.X S) : Prop := ∀ {X : Cx} {W : WX} {P : Pn} {st : Stmt} {s : S} {lk ω ω' : List Nat}, Fs X g ec T sg Γ → Takes X W → r st = .ok s → oS sg P lk ω s = some ω' → RS X g ec W P st lk ω ω' (ex T s)
theorem rSs_ok {r : Stmt → VK.X S} (G : GdS g ec T sg Γ r) (F : Fs X g ec T sg Γ) (tk : Takes X W) : ∀ {ss : List Stmt} {S' : Ss} {ω ω' : List Nat}, rSs r ss = .ok S' → oSs sg P lk ω S' = some ω' → RSs X g ec W P ss lk ω ω' (exs T S')
  | [], _, _, _, h, ho => by cases h; cases ho; exact rss_nil
  | s :: ss, _, ω, ω', h, ho => by
    obtain ⟨A, h1, h2⟩ := bind_ok h
    obtain ⟨B, h3, h4⟩ := bind_ok h2
    cases h4
    obtain ⟨w, g1, g2⟩ := Option.bind_eq_some_iff.mp (show (oS sg P lk ω A).bind (fun w => oSs sg P lk w B) = some ω' from ho)
    exact rss_cons (G F tk h1 g1) (rSs_ok G F tk h3 g2)
theorem sw2 (F : Ft X g ec T sg Γ) {px py pt pt2 : Pos} {kt kt2 : Nat} (na : ∀ z p, a ≠ .Starred z p) (nb : ∀ z p, b ≠ .Starred z p) (h : swB Γ x y px py a b = true) :
    swappedStores [.Tuple [.Name x px, .Name y py] kt pt] (.Tuple [a, b] kt2 pt2) X.env = pure (some [x, y]) ∧ X.env.scope.names.lookup x = some .local ∧ X.env.scope.names.lookup y = some .local ∧ x ≠ y := by
  unfold swB kd at h
  simp only [Bool.and_eq_true, beq_iff_eq, bne_iff_ne, ne_eq, Bool.not_eq_true', Bool.and_eq_false_iff] at h
  obtain ⟨⟨⟨⟨⟨⟨h1, h2⟩, h3⟩, h4⟩, h5⟩, h6⟩, h7⟩ := h
  rw [← F.sc] at h1 h2 h5
  refine ⟨?_, h1, h2, h3⟩
  have k1 : X.env.kindOf x = some .local := h1
  have k2 : X.env.kindOf y = some .local := h2
  have hb : X.env.blockKind = .function := by unfold Env.blockKind; rw [h5]; rfl
  have s1 : ([a, b].any fun | .Starred .. => true | _ => false) = false := by
    cases a <;> first | exact absurd rfl (na _ _) | (cases b <;> first | exact absurd rfl (nb _ _) | rfl)
  have f6 : ([a, b].all (foldedForSure 8)) = false := by simp; rcases h6 with h | h <;> simp [h]
  have f7 : ([a, b].all (constantsAlone 8)) = false := by simp; rcases h7 with h | h <;> simp [h]
  have hxy : (y == x) = false := by simpa using fun z => h3 z.symm
  unfold swappedStores
  simp [hb, k1, k2, s1, f6, f7, Expr.pos, h4, hxy, List.eraseDups]
  have hyx : (x == y) = false := by simpa using h3
  have hd : (List.eraseDupsBy (fun x1 x2 => x1 == x2) [x, y]).length = 2 := by
    simp [List.eraseDupsBy, List.eraseDupsBy.loop, hxy, hyx]
  exact fun z => absurd hd z
theorem rAsg_ok {n : Nat} (F : Fs X g ec T sg Γ) (tk : Takes X W) {t : Expr} (h : rAsg Γ (rE n Γ) t e = .ok s) (ho : oS sg P lk ω s = some ω') : RS X g ec W P (.Assign [t] e pos) lk ω ω' (ex T s) := by
  have G : Gd g ec T sg (rE n) := rE_gd n
  unfold rAsg at h
  split at h
  · -- a, b = e1, e2
    rename_i x px y py kt pt a b kt2 pt2
    split at h
    · rename_i hsw
      obtain ⟨i, h1, h2⟩ := bind_ok h
      obtain ⟨j, h3, h4⟩ := bind_ok h2
      obtain ⟨A, h5, h6⟩ := bind_ok h4
      obtain ⟨B, h7, h8⟩ := bind_ok h6
      cases h8
      have ho : ((oE sg false lk ω A).bind (tmpO lk)).bind (fun q => ((oE sg false lk q.1 B).bind (tmpO lk)).bind fun q2 => if i ∉ lk ∧ i ∉ P.pin ∧ i < q2.1.length ∧ j ∉ lk ∧ j ∉ P.pin ∧ j < q2.1.length ∧ i ≠ j then some ((q2.1.set i q.2).set j q2.2) else none) = some ω' := by
        rw [← ho]; simp only [oS]
        cases oE sg false lk ω A with
        | none => rfl
        | some q =>
          simp only [Option.bind_eq_bind, Option.bind_some]
          cases tmpO lk q with
          | none => rfl
          | some w => simp only [Option.bind_some]; cases oE sg false lk w.1 B <;> rfl
      obtain ⟨⟨ω1, k1⟩, g1, g2⟩ := Option.bind_eq_some_iff.mp ho
      obtain ⟨⟨ω2, k2⟩, g3, g4⟩ := Option.bind_eq_some_iff.mp g2
      split at g4
      · rename_i hh
        cases g4
        obtain ⟨c1, c2, c3, c4, c5, c6, c7⟩ := hh
        obtain ⟨w1, w2, w3, w4⟩ := sw2 (pt := pt) (pt2 := pt2) (kt := kt) (kt2 := kt2) F.ft (G.st h5).1 (G.st h7).1 hsw
        obtain ⟨n1, _, _⟩ := sto_ok F.ft h1
        obtain ⟨n2, _, _⟩ := sto_ok F.ft h3
        exact rs_par F.ft.calm F.ft.nd n1 n2 c7 w2 w3 w1 (G.st h5).1 (G.st h7).1 (G.tmp F.ft tk h5 g1) (G.tmp F.ft tk h7 g3) c1 c4 c2 c5 c3 c6
      · cases g4
    · cases h
  · -- name = e
    rename_i x py
    split at h
    · cases h
    · rename_i hc
      obtain ⟨i, h1, h2⟩ := bind_ok h
      obtain ⟨A, h3, h4⟩ := bind_ok h2
      cases h4
      have ho : ((oE sg false lk ω A).bind (tmpO lk)).bind (fun q => if i ∉ lk ∧ i ∉ P.pin ∧ i < q.1.length then some (q.1.set i q.2) else none) = some ω' := by
        rw [← ho]; simp only [oS]
        cases oE sg false lk ω A <;> rfl
      obtain ⟨⟨ω1, k1⟩, g1, g2⟩ := Option.bind_eq_some_iff.mp ho
      split at g2
      · rename_i hh
        cases g2
        obtain ⟨n1, n2, n3⟩ := sto_ok F.ft h1
        cases hcm : isComp e with
        | false => exact rs_set F.ft.nd n1 n2 n3 hcm (G.tmp F.ft tk h3 g1) hh.1 hh.2.1 hh.2.2
        | true =>
          rw [hcm] at hc
          have hl : lcB Γ x py e = true := by simpa using hc
          cases e <;> try (cases hl; done)
          rename_i elt gens sc pp
          cases n with
          | zero => cases h3
          | succ n =>
            obtain ⟨⟨w, kx, bx⟩, z1, z2⟩ := Option.bind_eq_some_iff.mp g1
            obtain ⟨t, it, ifs, own, Tt, I, c, el, lk1, rfl, rfl, rfl, rfl, L⟩ := rLc_L (rE_gd n) F.ft tk h3 z1
            cases z2
            unfold lcB kd at hl
            simp only [Bool.and_eq_true, beq_iff_eq, Bool.not_eq_true'] at hl
            obtain ⟨⟨⟨b1, b2⟩, b3⟩, b4⟩ := hl
            rw [← F.ft.sc] at b1 b2
            exact rs_setLc L b1 n1 b2 (by simpa using b3) b4 hh.1 hh.2.1 hh.2.2
      · cases g2
  · -- targets = e
    rename_i ts kk pp hx
    split at h
    · cases h
    · rename_i hc
      simp only [Bool.or_eq_true, Bool.not_eq_true', not_or, Bool.not_eq_true, Bool.not_eq_false] at hc
      obtain ⟨T0, h1, h2⟩ := bind_ok h
      obtain ⟨A, h3, h4⟩ := bind_ok h2
      cases h4
      obtain ⟨ts', e1, e2⟩ := bind_ok (show (rTgs (rTg Γ 3) ts >>= fun ts => Except.ok (Tg.tp ts)) = .ok T0 from h1)
      cases e2
      have ho : ((oE sg false lk ω A).bind (valO lk)).bind (fun ω1 => if ((namesTs ts').all fun i => decide (i ∉ lk ∧ i ∉ P.pin ∧ i < ω1.length)) = true then some (zeroAt ω1 (namesTs ts')) else none) = some ω' := by
        rw [← ho]; simp only [oS]
        cases oE sg false lk ω A <;> rfl
      obtain ⟨ω1, g1, g2⟩ := Option.bind_eq_some_iff.mp ho
      split at g2
      · rename_i hh
        cases g2
        have ha : ∀ i ∈ namesTs ts', i ∉ lk ∧ i ∉ P.pin ∧ i < ω1.length := fun i hi => of_decide_eq_true (List.all_eq_true.mp hh i hi)
        have rg := rTg_ok F.ft 4 (ω := ω1) h1 (fun i hi => ⟨(ha i (by simpa [namesT] using hi)).1, (ha i (by simpa [namesT] using hi)).2.2⟩)
        refine rs_asg hc.1 hc.2 (G.val F.ft tk h3 g1) rg (fun i hi => ?_) (fun i hi => (ha i (by simpa [namesT] using hi)).1) (fun i hi => (ha i (by simpa [namesT] using hi)).2.1)
        show (zeroAt ω1 (namesTs ts')).getD i 0 = _
        rw [zeroAt_mem _ _ _ fun j hj => (ha j hj).2.2, if_neg fun z => (ha i z).1 hi]
      · cases g2
  · -- x[i] = e
    rename_i x pp i tpos e
    split at h
    · cases h
    · rename_i hc
      obtain ⟨A, h1, h2⟩ := bind_ok h
      obtain ⟨kx, h3, h4⟩ := bind_ok h2
      obtain ⟨B, h5, h6⟩ := bind_ok h4
      cases h6
      have ho : ((oE sg false lk ω A).bind (tmpO lk)).bind (fun q => ((oE sg false (kx :: lk) q.1 B).bind (valO (kx :: lk))).bind fun ω2 => if kx ∉ lk ∧ 1 ≤ q.1.getD kx 0 ∧ q.1.getD kx 0 ≤ q.2 + 1 ∧ (q.1.getD kx 0 = 1 ∨ Γ.deep.contains kx = true) then some ω2 else none) = some ω' := by
        rw [← ho]; simp only [oS]
        cases oE sg false lk ω A with
        | none => rfl
        | some q =>
          simp only [Option.bind_eq_bind, Option.bind_some]
          cases tmpO lk q with
          | none => rfl
          | some w => simp only [Option.bind_some]; cases oE sg false (kx :: lk) w.1 B <;> rfl
      obtain ⟨⟨ω1, k1⟩, g1, g2⟩ := Option.bind_eq_some_iff.mp ho
      obtain ⟨ω2, g3, g4⟩ := Option.bind_eq_some_iff.mp g2
      split at g4
      · rename_i hh
        cases g4
        dsimp only at hh g3
        obtain ⟨c1, c2, c3, c4⟩ := hh
        exact rs_set1 F.ft.un (slo_pe F.ft h3) (by simpa using hc) (G.st h5).2.2 ((G.tmp F.ft tk h1 g1).cap (show ω1.getD kx 0 - 1 ≤ k1 by omega)) (G.val F.ft tk h5 g3) c1 (by omega) (c4.imp (fun z => by omega) id)
      · cases g4
  · cases h
end
end VK
set_option Elab.async false
set_option linter.all false
set_option maxHeartbeats 4000000
/-! the reader and the checker are sound: statements, 2 -/
namespace VK
open PySem PySem.Spec PyProof.Rows L2
section
variable {X : Cx} {g : GF} {ec : EC} {W : WX} {T : Tab} {sg : Sgs} {Γ : Cn} {P : Pn} {e a b c o f elt tg it : Expr} {st : Stmt} {ss body : List Stmt} {es ifs : List Expr} {lk ω ω' ω1 ω2 ω3 : List Nat} {k n : Nat} {x y : Str} {p pos apos cpos : Pos} {s : S} {S' : Ss} {f1 f2 : Env → Fl} {rs : Stmt → VK.X S}
theorem Fs.tr (F : Fs X g ec T sg Γ) (pn : List (Addr × Obj)) (xe : Value → Shared → Prop) (po : PassesOwn (model X.prog X.w) X.A X.env xe) : Fs (X.tr pn xe) g ec T sg Γ where
  ft := { sc := F.ft.sc, N := F.ft.N, nd := F.ft.nd, fnE := F.ft.fnE, un := F.ft.un, calm := F.ft.calm,
          fns := fun x i io h => by
            obtain ⟨u, s, k, h1, h2, h3, h4⟩ := F.ft.fns x i io h
            exact ⟨u, s, k, h1, h2, ⟨h3.ok, h3.kp⟩, h4⟩
          cst := F.ft.cst, blt := F.ft.blt,
          fv := fun i u h => by
            obtain ⟨s, k, h3, h4⟩ := F.ft.fv i u h
            exact ⟨s, k, ⟨h3.ok, h3.kp⟩, h4⟩ }
  po := po
  st := F.st
  fr := F.fr
  cls := fun x c h => by
    obtain ⟨h1, h2⟩ := F.cls x c h
    exact ⟨⟨h1.ex⟩, h2⟩
theorem set0_le (ω : List Nat) (i j : Nat) : (ω.set i 0).getD j 0 ≤ ω.getD j 0 := by
  by_cases hi : i < ω.length
  · rw [getD_set _ _ _ _ hi]; split <;> omega
  · rw [List.set_eq_of_length_le (by omega)]; exact Nat.le_refl _
theorem stepS_ok (G : GdS g ec T sg Γ rs) : GdS g ec T sg Γ (stepS n rs Γ) := by
  intro X W P st s lk ω ω' F tk h ho
  have Ge : Gd g ec T sg (rE n) := rE_gd n
  have s0 : ∀ i ∈ lk, i ∈ lk := fun _ h => h
  unfold stepS at h
  split at h
  · cases h; cases ho; exact rs_pass
  · cases h
    have ho : (if (leB P.ωL ω && eqAt lk P.ωL ω) = true then some ω else none) = some ω' := ho
    split at ho
    · rename_i hh
      cases ho
      obtain ⟨h1, h2⟩ := Bool.and_eq_true_iff.mp hh
      exact rs_break (leB_le h1) (eqAt_eq h2)
    · cases ho
  · cases h
    have ho : (if (leB P.ωL ω && eqAt lk P.ωL ω) = true then some ω else none) = some ω' := ho
    split at ho
    · rename_i hh
      cases ho
      obtain ⟨h1, h2⟩ := Bool.and_eq_true_iff.mp hh
      exact rs_cont (leB_le h1) (eqAt_eq h2)
    · cases ho
  · -- an expression
    split at h
    · cases h
    · rename_i hc
      obtain ⟨A, h1, h2⟩ := bind_ok h
      cases h2
      have ho : (oE sg false lk ω A).bind (fun q => some q.1) = some ω' := ho
      obtain ⟨⟨w, kx, bx⟩, g1, g2⟩ := Option.bind_eq_some_iff.mp ho
      cases g2
      exact rs_expr (by simpa using hc) (Ge.e F.ft tk h1 g1)
  · -- return
    cases h
    have ho : (if P.rk ≤ 0 ∧ eqAt P.pin ω P.ωr = true then some ω else none) = some ω' := ho
    split at ho
    · rename_i hh
      cases ho
      exact rs_retNone (by omega) (eqAt_eq hh.2)
    · cases ho
  · rename_i e pp
    obtain ⟨A, h1, h2⟩ := bind_ok h
    cases h2
    have plain : ((oE sg false lk ω A).bind (tmpO lk)).bind (fun q => if P.rk ≤ q.2 ∧ eqAt P.pin q.1 P.ωr = true then some q.1 else none) = some ω' → RS X g ec W P (.Return (some e) pp) lk ω ω' (ex T (.ret A)) := fun ho => by
      obtain ⟨⟨w, kx⟩, g1, g2⟩ := Option.bind_eq_some_iff.mp ho
      split at g2
      · rename_i hh
        cases g2
        exact rs_ret ((Ge.tmp F.ft tk h1 g1).cap hh.1) rfl (eqAt_eq hh.2)
      · cases g2
    have norm : (do
        let (ω1, k) ← tmpO lk (← oE sg false lk ω A)
        if P.rk ≤ k ∧ eqAt P.pin ω1 P.ωr then some ω1 else none) = some ω' → RS X g ec W P (.Return (some e) pp) lk ω ω' (ex T (.ret A)) := fun ho => plain (by
      rw [← ho]
      cases oE sg false lk ω A <;> rfl)
    simp only [oS] at ho
    cases hv : retV A with
    | none => rw [hv] at ho; exact norm ho
    | some i =>
      rw [hv] at ho
      dsimp only at ho
      split at ho
      · rename_i hh
        cases ho
        obtain ⟨c1, c2, c3, c4, c5⟩ := hh
        have hA : A = .v i := by
          cases A <;> first | (cases hv; rfl) | cases hv
        subst hA
        obtain ⟨x, q, rfl, hs⟩ : ∃ x q, e = .Name x q ∧ slo Γ x = .ok i := by
          cases n with
          | zero => cases h1
          | succ n => exact step_v h1
        exact rs_retN (slo_pe F.ft hs) c1 c3 c4 (eqAt_eq c5)
      · exact norm ho
  · -- if
    rename_i c sa sb ppos
    obtain ⟨C, h1, h2⟩ := bind_ok h
    obtain ⟨A, h3, h4⟩ := bind_ok h2
    obtain ⟨B, h5, h6⟩ := bind_ok h4
    cases h6
    have ho : (oE sg true lk ω C).bind (fun q => (oSs sg P lk q.1 A).bind fun ω2 => (oSs sg P lk q.1 B).bind fun ω3 => some (if ends A then ω3 else if ends B then ω2 else meet ω2 ω3)) = some ω' := ho
    obtain ⟨⟨w, kc, bc⟩, g1, g2⟩ := Option.bind_eq_some_iff.mp ho
    obtain ⟨ω2, g3, g4⟩ := Option.bind_eq_some_iff.mp g2
    obtain ⟨ω3, g5, g6⟩ := Option.bind_eq_some_iff.mp g4
    cases g6
    have rc := Ge.t F.ft tk h1 g1
    have ra := rSs_ok G F tk h3 g3
    have rb := rSs_ok G F tk h5 g5
    have fin : ∀ {w' : List Nat}, RSs X g ec W P sa lk w w' (exs T A) → RSs X g ec W P sb lk w w' (exs T B) → RS X g ec W P (.If c sa sb ppos) lk ω w' (ex T (.ite C A B)) := fun r1 r2 => rs_if rc r1 r2
    by_cases hA : ends A = true
    · rw [if_pos hA]
      exact fin (ra.any (fun env e => ends_nx hA) rb.kp) rb
    · rw [if_neg hA]
      by_cases hB : ends B = true
      · rw [if_pos hB]
        exact fin ra (rb.any (fun env e => ends_nx hB) ra.kp)
      · rw [if_neg hB]
        have km := meet_kp ra.kp rb.kp
        exact fin (ra.low (meet_le1 _ _) fun i hi => (km i hi).trans (ra.kp i hi).symm) (rb.low (meet_le2 _ _) fun i hi => (km i hi).trans (rb.kp i hi).symm)
  · -- while
    obtain ⟨C, h1, h2⟩ := bind_ok h
    obtain ⟨B, h3, h4⟩ := bind_ok h2
    cases h4
    have ho : (loopO (fun ω => (oE sg true lk ω C).bind fun q => if q.1 = ω then ((oSs sg (atL P ω) lk ω B).bind fun ω2 => some (ω, if ends B then ω else ω2)) else none) 4 ω).bind (fun q => if eqAt lk q.1 ω then some q.1 else none) = some ω' := ho
    obtain ⟨⟨ω0, w1⟩, g1, g2⟩ := Option.bind_eq_some_iff.mp ho
    split at g2
    · rename_i hk
      cases g2
      obtain ⟨ω2, z1, z2, z3⟩ := loopO_ok g1
      obtain ⟨⟨w, kc, bc⟩, y1, y2⟩ := Option.bind_eq_some_iff.mp z1
      split at y2
      · rename_i e
        have e : w = ω0 := e
        subst e
        obtain ⟨wb, x1, x2⟩ := Option.bind_eq_some_iff.mp y2
        cases x2
        have rb := rSs_ok G F tk h3 x1
        refine RS.pre (rs_while T.wf F.po (Ge.t F.ft tk h1 y1) ?_) z3 (eqAt_eq hk)
        by_cases hB : ends B = true
        · exact rb.any (fun env e => ends_nx hB) Kp.refl
        · rw [if_neg hB] at z2
          exact rb.low (leB_le z2) fun i hi => (rb.kp i hi).symm
      · cases y2
    · cases g2
  · -- for
    rename_i t it b ppos
    obtain ⟨T0, h1, h2⟩ := bind_ok h
    obtain ⟨I, h3, h4⟩ := bind_ok h2
    obtain ⟨B, h5, h6⟩ := bind_ok h4
    cases h6
    have ho : (loopO (fun ω => (oI sg lk ω I).bind fun q => if ((namesT T0).all fun i => decide (i ∉ q.2 ∧ i ∉ P.pin ∧ i < q.1.length)) = true then ((oSs sg (atL P q.1) q.2 (zeroAt q.1 (namesT T0)) B).bind fun ω2 => some (q.1, if ends B then q.1 else ω2)) else if leB q.1 (zeroAt q.1 (namesT T0)) = true then none else some (q.1, zeroAt q.1 (namesT T0))) 4 ω).bind (fun q => if eqAt lk q.1 ω then some q.2 else none) = some ω' := ho
    obtain ⟨⟨ω0, w1⟩, g1, g2⟩ := Option.bind_eq_some_iff.mp ho
    split at g2
    · rename_i hk
      cases g2
      obtain ⟨ω2, z1, z2, z3⟩ := loopO_ok g1
      obtain ⟨⟨w, lk1⟩, y1, y2⟩ := Option.bind_eq_some_iff.mp z1
      dsimp only at y2
      split at y2
      · rename_i hall
        obtain ⟨wb, x1, x2⟩ := Option.bind_eq_some_iff.mp y2
        cases x2
        have ha : ∀ i ∈ namesT T0, i ∉ lk1 ∧ i ∉ P.pin ∧ i < w1.length := fun i hi => of_decide_eq_true (List.all_eq_true.mp hall i hi)
        obtain ⟨ri, hset⟩ := rI_ok (tg := t) Ge F.ft tk h3 y1
        have rb := rSs_ok G F tk h5 x1
        have kp0 : Kp lk ω ω0 := eqAt_eq hk
        have kpT : Kp lk1 w1 (zeroAt w1 (namesT T0)) := fun i hi => by
          rw [zeroAt_mem _ _ _ fun j hj => (ha j hj).2.2, if_neg fun z => (ha i z).1 hi]
        have rg := rTg_ok F.ft 4 (ω := w1) h1 fun i hi => ⟨(ha i hi).1, (ha i hi).2.2⟩
        refine RS.pre (rs_for F.po F.ft.calm hset ri rg kpT (fun i hi => (ha i hi).1) (fun i hi => (ha i hi).2.1) ?_) z3 kp0
        by_cases hB : ends B = true
        · exact rb.any (fun env e => ends_nx hB) fun i hi => (kpT i hi).symm
        · rw [if_neg hB] at z2
          exact rb.low (leB_le z2) fun i hi => ((rb.kp i hi).trans (kpT i hi)).symm
      · split at y2
        · cases y2
        · rename_i hn
          cases y2
          exact absurd z2 hn
    · cases g2
  · exact rAsg_ok F tk h ho
  · -- x op= e
    obtain ⟨o, h1, h2⟩ := bind_ok h
    obtain ⟨i, h3, h4⟩ := bind_ok h2
    obtain ⟨A, h5, h6⟩ := bind_ok h4
    cases h6
    have ho : (if i ∉ lk ∧ i ∉ P.pin ∧ i < ω.length then ((oE sg false (i :: lk) (ω.set i 0) A).bind (valO (i :: lk))).bind (fun ω1 => if i < ω1.length then some (ω1.set i 0) else none) else none) = some ω' := by
      rw [← ho]; simp only [oS]
      split
      · cases oE sg false (i :: lk) (ω.set i 0) A <;> rfl
      · rfl
    split at ho
    · rename_i hh
      obtain ⟨ω1, g1, g2⟩ := Option.bind_eq_some_iff.mp ho
      split at g2
      · rename_i hl
        cases g2
        obtain ⟨n1, n2, n3⟩ := sto_ok F.ft h3
        rw [← (cOp_op h1).1]
        refine RS.pre (rs_aug F.ft.nd n1 n2 n3 (Ge.val F.ft tk h5 g1) hh.1 hh.2.1 hl ?_) (set0_le ω i) (fun j hj => ?_)
        · rw [getD_set _ _ _ _ hh.2.2, if_pos rfl]
        · rw [getD_set _ _ _ _ hh.2.2, if_neg (fun z => hh.1 (by rw [← z]; exact hj))]
      · cases g2
    · cases ho
  · -- raise
    split at h
    · rename_i hgl
      split at h
      · rename_i c hG
        cases h
        cases ho
        obtain ⟨hg, hdb, _⟩ := gl_of F.ft hgl
        exact rs_raise F.ft.calm tk (F.cls _ _ hG).1 hg hdb
      · cases h
    · cases h
  · -- try
    rename_i b x np mm jj pc pr ph pt
    split at h
    · rename_i hgl
      split at h
      · rename_i c hG
        obtain ⟨B, h1, h2⟩ := bind_ok h
        cases h2
        have ho : (oSs sg P lk ω B).bind (fun ω1 => if P.rk = 0 ∧ eqAt P.pin (zeroBut lk ω) P.ωr = true then some ω1 else none) = some ω' := ho
        obtain ⟨ω1, g1, g2⟩ := Option.bind_eq_some_iff.mp ho
        split at g2
        · rename_i hh
          cases g2
          obtain ⟨hg, hdb, _⟩ := gl_of F.ft hgl
          obtain ⟨_, cv, hm, hsup⟩ := F.cls _ _ hG
          have kp : Kp lk ω ω' := (rSs_ok G F tk h1 g1).kp
          have e : ex T (.tri B (.cons c none (.cons (.ret (.c (.str mm))) .nil) .nil)) = triR (fun k => T.sup k c) (exs T B) (exs T (.cons (.ret (.c (.str mm))) .nil)) := by
            funext env
            show (match exs T B env with
              | .exc x e1 => exh T (.cons c none (.cons (.ret (.c (.str mm))) .nil) .nil) x e1
              | r => r) = _
            unfold triR
            cases exs T B env with
            | exc x e1 => cases x <;> rfl
            | _ => rfl
          rw [e]
          refine rs_try F.st F.fr ⟨hg, hdb, .inl hm⟩ tk (fun k C fl hk => hsup k C fl hk) (fun W' pn xe tk' po => rSs_ok G (F.tr pn xe po) tk' h1 g1) (fun a oe pn => ?_) (fun env x e z => by cases z) kp
          have r1 : RS (X.suite a ((a, oe) :: pn)) g ec W0 P (.Return (some (.Constant (.str mm) jj pc)) pr) lk (zeroBut lk ω) (zeroBut lk ω) (ex T (.ret (.c (.str mm)))) :=
            rs_ret (k := 0) (rp_of pe_str fun H => .str _).rp hh.1.symm (eqAt_eq hh.2)
          refine (rss_cons r1 rss_nil).any (ω3 := ω') (fun env e => ends_nx (T := T) (ss := .cons (.ret (.c (.str mm))) .nil) rfl) fun i hi => ?_
          rw [zeroBut_get, if_pos hi]
          exact kp i hi
        · cases g2
      · cases h
    · cases h
  · cases h
theorem rS_ok : ∀ k, GdS g ec T sg Γ (rS n Γ k)
  | 0 => fun _ _ h => by cases h
  | k + 1 => stepS_ok (rS_ok k)
end
end VK
set_option Elab.async false
set_option linter.all false
set_option maxHeartbeats 4000000
/-! every def keeps its promise -/
namespace VK
open PySem PySem.Spec PyProof.Rows L2
def ioAt (io : List (Option Nat)) (i : Nat) : Option Nat := (io[i]?).getD none
def om0 (io : List (Option Nat)) (ns : Nat) : List Nat := (List.range ns).map fun i => (ioAt io i).getD 0
def pins (io : List (Option Nat)) : List Nat := (List.range io.length).filter fun i => (ioAt io i).isSome
theorem om0_get (io : List (Option Nat)) (ns i : Nat) : (om0 io ns).getD i 0 = if i < ns then (ioAt io i).getD 0 else 0 := by
  unfold om0
  rw [List.getD_eq_getElem?_getD, List.getElem?_map]
  by_cases hi : i < ns
  · rw [List.getElem?_range hi, if_pos hi]; rfl
  · rw [List.getElem?_eq_none (by rw [List.length_range]; omega), if_neg hi]; rfl
theorem pins_mem {io : List (Option Nat)} {i : Nat} : i ∈ pins io ↔ ∃ k, io[i]? = some (some k) := by
  unfold pins ioAt
  rw [List.mem_filter, List.mem_range]
  constructor
  · rintro ⟨h1, h2⟩
    rw [List.getElem?_eq_getElem h1] at h2 ⊢
    obtain ⟨k, hk⟩ := Option.isSome_iff_exists.mp h2
    exact ⟨k, congrArg some hk⟩
  · rintro ⟨k, hk⟩
    exact ⟨(List.getElem?_eq_some_iff.mp hk).1, by rw [hk]; rfl⟩
section
variable {K : PySem.W.Frag} {g : GF} {H : Hp}
theorem args_get : ∀ {io : List (Option Nat)} {ds : List D} {vs : List V} {Ss : List (List Addr)} {i : Nat} {d : D}, ArgsOk K g H io ds vs Ss → ds[i]? = some d → ∃ v S, vs[i]? = some v ∧ Ss[i]? = some S ∧ Own K g H ((ioAt io i).getD 0) d v S
  | [], [], [], [], i, d, _, h => by simp at h
  | none :: io, d' :: ds, v :: vs, S :: Ss, 0, d, h, e => by simp at e; subst e; exact ⟨v, S, rfl, rfl, h.1.1, h.1.2⟩
  | some k :: io, d' :: ds, v :: vs, S :: Ss, 0, d, h, e => by simp at e; subst e; exact ⟨v, S, rfl, rfl, h.1⟩
  | none :: io, d' :: ds, v :: vs, S :: Ss, i + 1, d, h, e => by
    obtain ⟨v', S', h1, h2, h3⟩ := args_get (i := i) h.2 (by simpa using e)
    exact ⟨v', S', by simpa using h1, by simpa using h2, by simpa [ioAt] using h3⟩
  | some k :: io, d' :: ds, v :: vs, S :: Ss, i + 1, d, h, e => by
    obtain ⟨v', S', h1, h2, h3⟩ := args_get (i := i) h.2 (by simpa using e)
    exact ⟨v', S', by simpa using h1, by simpa using h2, by simpa [ioAt] using h3⟩
  | [], _ :: _, _, _, _, _, h, _ => by simp [ArgsOk] at h
  | [], [], _ :: _, _, _, _, h, _ => by simp [ArgsOk] at h
  | [], [], [], _ :: _, _, _, h, _ => by simp [ArgsOk] at h
  | none :: _, [], _, _, _, _, h, _ => by simp [ArgsOk] at h
  | none :: _, _ :: _, [], _, _, _, h, _ => by simp [ArgsOk] at h
  | none :: _, _ :: _, _ :: _, [], _, _, h, _ => by simp [ArgsOk] at h
  | some _ :: _, [], _, _, _, _, h, _ => by simp [ArgsOk] at h
  | some _ :: _, _ :: _, [], _, _, _, h, _ => by simp [ArgsOk] at h
  | some _ :: _, _ :: _, _ :: _, [], _, _, h, _ => by simp [ArgsOk] at h
theorem fin_of : ∀ {io : List (Option Nat)} {fin : Env} {vs : List V} {Ss : List (List Addr)}, fin.length = io.length → vs.length = io.length → Ss.length = io.length → (∀ i : Nat, io[i]? = some none → Ss[i]? = some []) →
    (∀ (i k : Nat) (o : Option D) (v : V) (S : List Addr), io[i]? = some (some k) → fin[i]? = some o → vs[i]? = some v → Ss[i]? = some S → (o = none ∧ S = []) ∨ ∃ d, o = some d ∧ Own K g H k d v S) → FinOk K g H io fin vs Ss
  | [], [], [], [], _, _, _, _, _ => trivial
  | none :: io, o :: fin, v :: vs, S :: Ss, h1, h2, h3, h4, h5 => by
    refine ⟨by simpa using h4 0 rfl, fin_of (by simpa using h1) (by simpa using h2) (by simpa using h3) (fun i hi => by simpa using h4 (i + 1) (by simpa using hi)) fun i k o v S a b c d => h5 (i + 1) k o v S (by simpa using a) (by simpa using b) (by simpa using c) (by simpa using d)⟩
  | some k :: io, o :: fin, v :: vs, S :: Ss, h1, h2, h3, h4, h5 => by
    refine ⟨?_, fin_of (by simpa using h1) (by simpa using h2) (by simpa using h3) (fun i hi => by simpa using h4 (i + 1) (by simpa using hi)) fun i k o v S a b c d => h5 (i + 1) k o v S (by simpa using a) (by simpa using b) (by simpa using c) (by simpa using d)⟩
    rcases h5 0 k o v S rfl rfl rfl rfl with ⟨rfl, rfl⟩ | ⟨d, rfl, z⟩
    · rfl
    · exact z
  | [], _ :: _, _, _, h1, _, _, _, _ => by simp at h1
  | [], [], _ :: _, _, _, h2, _, _, _ => by simp at h2
  | [], [], [], _ :: _, _, _, h3, _, _ => by simp at h3
  | _ :: _, [], _, _, h1, _, _, _, _ => by simp at h1
  | _ :: _, _ :: _, [], _, _, h2, _, _, _ => by simp at h2
  | _ :: _, _ :: _, _ :: _, [], _, _, h3, _, _ => by simp at h3
/-- a frame at its start -/
theorem Sf.start {io : List (Option Nat)} {ds : List D} {vs : List V} {Ss : List (List Addr)} {N : List Str} {fn : Fn} (h : ArgsOk K g H io ds vs Ss) (nd : Ss.flatten.Nodup) (hN : io.length ≤ N.length) (hns : fn.ns = N.length) :
    Sf K g (om0 io N.length) (L2.start N vs) H (VK.start fn ds) (Ss ++ List.replicate (N.length - Ss.length) []) := by
  obtain ⟨l1, l2, l3⟩ := h.len
  have hf : (Ss ++ List.replicate (N.length - Ss.length) ([] : List Addr)).flatten = Ss.flatten := by
    rw [List.flatten_append]; simp
  refine ⟨?_, ?_, fun i d e => ?_, fun i e => ?_, by rw [hf]; exact nd⟩
  · unfold L2.start VK.start; simp; omega
  · unfold VK.start; simp; omega
  · unfold VK.start at e
    by_cases hi : i < ds.length
    · rw [List.getElem?_append_left (by simpa using hi), List.getElem?_map] at e
      obtain ⟨d', e1, e2⟩ := Option.map_eq_some_iff.mp e
      cases e2
      obtain ⟨v, S, h1, h2, h3⟩ := args_get h e1
      refine ⟨v, S, ?_, ?_, ?_⟩
      · unfold L2.start
        rw [List.getElem?_append_left (by simp; omega), List.getElem?_map, h1]; rfl
      · rw [List.getElem?_append_left (by omega)]; exact h2
      · rw [om0_get, if_pos (by omega)]; exact h3
    · rw [List.getElem?_append_right (by simpa using hi)] at e
      rw [List.getElem?_replicate] at e
      split at e <;> cases e
  · unfold VK.start at e
    by_cases hi : i < ds.length
    · rw [List.getElem?_append_left (by simpa using hi), List.getElem?_map] at e
      obtain ⟨d', e1, e2⟩ := Option.map_eq_some_iff.mp e
      cases e2
    · have hl := (List.getElem?_eq_some_iff.mp e).1
      simp only [List.length_append, List.length_map, List.length_replicate] at hl
      rw [List.getElem?_append_right (by omega), List.getElem?_replicate, if_pos (by omega)]
end
end VK
set_option Elab.async false
set_option linter.all false
set_option maxHeartbeats 4000000
/-! every def keeps its promise, 2 -/
namespace VK
open PySem PySem.Spec PyProof.Rows L2
/-- the changed parameters' addresses -/
def maskF : List (Option Nat) → List (List Addr) → List (List Addr)
  | [], _ => []
  | none :: io, _ :: f => [] :: maskF io f
  | some _ :: io, S :: f => S :: maskF io f
  | _ :: _, [] => []
theorem maskF_len : ∀ {io : List (Option Nat)} {f : List (List Addr)}, io.length ≤ f.length → (maskF io f).length = io.length
  | [], _, _ => rfl
  | none :: io, _ :: f, h => by simp [maskF, maskF_len (io := io) (f := f) (by simpa using h)]
  | some _ :: io, _ :: f, h => by simp [maskF, maskF_len (io := io) (f := f) (by simpa using h)]
  | _ :: _, [], h => by simp at h
theorem maskF_sub : ∀ {io : List (Option Nat)} {f : List (List Addr)}, (maskF io f).flatten.Sublist f.flatten
  | [], _ => List.nil_sublist _
  | none :: io, S :: f => by
    show (([] : List Addr) ++ (maskF io f).flatten).Sublist (S ++ f.flatten)
    exact (List.nil_sublist _).append maskF_sub
  | some _ :: io, S :: f => by
    show (S ++ (maskF io f).flatten).Sublist (S ++ f.flatten)
    exact (List.Sublist.refl _).append maskF_sub
  | none :: _, [] => List.nil_sublist _
  | some _ :: _, [] => List.nil_sublist _
theorem maskF_none : ∀ {io : List (Option Nat)} {f : List (List Addr)} {i : Nat}, io.length ≤ f.length → io[i]? = some none → (maskF io f)[i]? = some []
  | [], _, _, _, h => by simp at h
  | none :: io, _ :: f, 0, _, _ => rfl
  | some _ :: io, _ :: f, 0, _, h => by simp at h
  | none :: io, _ :: f, i + 1, hl, h => by simpa [maskF] using maskF_none (io := io) (f := f) (i := i) (by simpa using hl) (by simpa using h)
  | some _ :: io, _ :: f, i + 1, hl, h => by simpa [maskF] using maskF_none (io := io) (f := f) (i := i) (by simpa using hl) (by simpa using h)
  | _ :: _, [], _, hl, _ => by simp at hl
theorem maskF_some : ∀ {io : List (Option Nat)} {f : List (List Addr)} {i k : Nat}, io[i]? = some (some k) → (maskF io f)[i]? = f[i]?
  | [], _, _, _, h => by simp at h
  | none :: io, _ :: f, 0, _, h => by simp at h
  | some _ :: io, _ :: f, 0, _, _ => rfl
  | none :: io, _ :: f, i + 1, k, h => by simpa [maskF] using maskF_some (io := io) (f := f) (i := i) (k := k) (by simpa using h)
  | some _ :: io, _ :: f, i + 1, k, h => by simpa [maskF] using maskF_some (io := io) (f := f) (i := i) (k := k) (by simpa using h)
  | none :: _, [], _, _, _ => rfl
  | some _ :: _, [], _, _, _ => rfl
theorem maskF_mem : ∀ {io : List (Option Nat)} {f : List (List Addr)} {T : List Addr} {a : Addr}, T ∈ maskF io f → a ∈ T → ∃ (i k : Nat), io[i]? = some (some k) ∧ f[i]? = some T
  | [], _, _, _, h, _ => by cases h
  | none :: io, S :: f, T, a, h, ha => by
    rcases List.mem_cons.mp h with rfl | h
    · cases ha
    · obtain ⟨i, k, h1, h2⟩ := maskF_mem h ha
      exact ⟨i + 1, k, by simpa using h1, by simpa using h2⟩
  | some k0 :: io, S :: f, T, a, h, ha => by
    rcases List.mem_cons.mp h with rfl | h
    · exact ⟨0, k0, rfl, rfl⟩
    · obtain ⟨i, k, h1, h2⟩ := maskF_mem h ha
      exact ⟨i + 1, k, by simpa using h1, by simpa using h2⟩
  | none :: _, [], _, _, h, _ => by cases h
  | some _ :: _, [], _, _, h, _ => by cases h
section
variable {K : PySem.W.Frag} {g : GF} {H H' : Hp}
/-- a frame at its end -/
theorem fin_all {io : List (Option Nat)} {ds : List D} {vs : List V} {Ss f' : List (List Addr)} {N : List Str} {fn : Fn} {ω' : List Nat} {σ' : L2.St} {env' : Env} (ao : ArgsOk K g H io ds vs Ss) (sf : Sf K g ω' σ' H' env' f') (hl : env'.length = N.length) (hN : io.length ≤ N.length) (hnp : fn.np = io.length)
    (hp : ∀ i ∈ pins io, σ'[i]? = (L2.start N vs)[i]? ∧ ω'.getD i 0 = (om0 io N.length).getD i 0) : FinOk K g H' io (env'.take fn.np) vs (maskF io f') := by
  obtain ⟨l1, l2, l3⟩ := ao.len
  have lf : io.length ≤ f'.length := by rw [sf.lenF, hl]; exact hN
  refine fin_of (by rw [List.length_take, hl, hnp]; omega) l1 (maskF_len lf) (fun i hi => maskF_none lf hi) fun i k o v S h1 h2 h3 h4 => ?_
  have hi : i < io.length := (List.getElem?_eq_some_iff.mp h1).1
  rw [maskF_some h1] at h4
  rw [List.getElem?_take_of_lt (by omega)] at h2
  obtain ⟨p1, p2⟩ := hp i (pins_mem.mpr ⟨k, h1⟩)
  cases o with
  | none =>
    rw [sf.dead i h2] at h4
    cases h4
    exact .inl ⟨rfl, rfl⟩
  | some d =>
    obtain ⟨v', S', g1, g2, q⟩ := sf.slot i d h2
    rw [g2] at h4; cases h4
    rw [p1] at g1
    unfold L2.start at g1
    rw [List.getElem?_append_left (by simp; omega), List.getElem?_map, h3] at g1
    cases g1
    rw [p2, om0_get, if_pos (by omega)] at q
    have : (ioAt io i).getD 0 = k := by unfold ioAt; rw [h1]; rfl
    rw [this] at q
    exact .inr ⟨d, rfl, q⟩
end
theorem fn_step {Pg : PySem.Program} {w : World} {K : PySem.W.Frag} {mg : Str → Option Value} {base : Heap} {g : GF} {ec : EC} {Pr : Prog} {sgs : Sgs} {n i m m' : Nat} {fn : Fn} {name qual : Str} {st : Stmt} {f : Addr} {fd : FuncData} {N ps : List Str} {Γ : Cn} {sig : Sig} {ω' : List Nat}
    (F : Fun K name qual st f fd) (S : FnScope N ps (defScope st)) (hi : Pr.fns[i]? = some fn) (hnp : fn.np = ps.length) (hns : fn.ns = N.length) (hio : sig.io.length = ps.length) (hle : ps.length ≤ N.length)
    (hr : rSs (rS m Γ m') (defBody st) = .ok fn.body)
    (ho : oSs sgs ⟨pins sig.io, om0 sig.io N.length, sig.rk, om0 sig.io N.length⟩ [] (om0 sig.io N.length) fn.body = some ω')
    (hend : eqAt (pins sig.io) ω' (om0 sig.io N.length) = true ∨ ends fn.body = true) (hrk : sig.rk = 0 ∨ ends fn.body = true)
    (hX : ∀ X : Cx, X.prog = Pg → X.w = w → X.K = K → X.mg = mg → X.base = base → X.env.scope = defScope st → X.N = N → X.fn = (fun _ => true) → X.calm = true → Room n X.A → X.stack = X.env :: X.outer → X.env.frame = some X.env.locals → PassesOwn (model X.prog X.w) X.A X.env X.xe → Fs X g ec ⟨callN Pr n, Pr.sup, Pr.wf⟩ sgs Γ) :
    FnOk Pg w K mg base (L2.CX Pg w) (n + 1) f fd ps (spF K g ec sig (callN Pr (n + 1) i)) := by
  refine F.okX S (fun vs H Q E h => ?_) (fun cdv A outer s H vs Q E hroom h => ?_)
  · obtain ⟨ds, Ss, ao, _⟩ := h
    rw [ao.len.1, hio]
  obtain ⟨ds, Ss, ao, nd, oc⟩ := h
  have tk : Takes (cxOf (L2.CX Pg w) Pg w K mg base N qual (defScope st) f cdv A outer s H E) (fun cls d _ H => E cls d H) := takes_of rfl rfl rfl rfl
  have po : PassesOwn (model Pg w) (cxOf (L2.CX Pg w) Pg w K mg base N qual (defScope st) f cdv A outer s H E).A (cxOf (L2.CX Pg w) Pg w K mg base N qual (defScope st) f cdv A outer s H E).env (cxOf (L2.CX Pg w) Pg w K mg base N qual (defScope st) f cdv A outer s H E).xe := passes_of (X := cxOf (L2.CX Pg w) Pg w K mg base N qual (defScope st) f cdv A outer s H E) rfl
  have Fx := hX (cxOf (L2.CX Pg w) Pg w K mg base N qual (defScope st) f cdv A outer s H E) rfl rfl rfl rfl rfl rfl rfl rfl rfl hroom rfl rfl po
  have rb := rSs_ok (rS_ok m') Fx tk hr ho
  refine ⟨_, rb.ps, VK.start fn ds, _, Sf.start ao nd (by omega) hns, ?_⟩
  obtain ⟨l1, l2, l3⟩ := ao.len
  have hf : (Ss ++ List.replicate (N.length - Ss.length) ([] : List Addr)).flatten = Ss.flatten := by
    rw [List.flatten_append]; simp
  have avIn : ∀ a, Av [] (Ss ++ List.replicate (N.length - Ss.length) ([] : List Addr)) a → a ∈ Ss.flatten := fun a h => by
    have := h.mem
    rw [hf] at this; exact this
  have lenS : (VK.start fn ds).length = N.length := by unfold VK.start; simp; omega
  have e1 : callN Pr (n + 1) i ds = runFn ⟨callN Pr n, Pr.sup, Pr.wf⟩ fn ds := by
    show (match Pr.fns[i]? with
      | none => CR.err
      | some fn => runFn ⟨callN Pr n, Pr.sup, Pr.wf⟩ fn ds) = _
    rw [hi]
  rw [e1] at oc
  unfold runFn at oc
  rw [if_pos (by omega)] at oc
  have inF : ∀ {f' : List (List Addr)} {env' : Env} {H' : Hp}, Chg [] (Ss ++ List.replicate (N.length - Ss.length) ([] : List Addr)) (VK.start fn ds) H f' env' H' → ∀ a ∈ f'.flatten, a ∈ Ss.flatten ∨ H a = none := fun {f' env' H'} c a ha => by
    obtain ⟨T, hT, haT⟩ := List.mem_flatten.mp ha
    obtain ⟨j, hj⟩ := List.getElem?_of_mem hT
    exact (c.own a ⟨j, T, by simp, hj, haT⟩).imp (avIn a) id
  have step : ∀ {f' : List (List Addr)} {env' : Env} {H' : Hp}, Chg [] (Ss ++ List.replicate (N.length - Ss.length) ([] : List Addr)) (VK.start fn ds) H f' env' H' → Step (fun a => a ∈ Ss.flatten) H H' := fun {f' env' H'} c => c.step.mono avIn
  cases hx : exs ⟨callN Pr n, Pr.sup, Pr.wf⟩ fn.body (VK.start fn ds) with
  | err => rw [hx] at oc; exact oc.elim
  | brk e => rw [hx] at oc; exact oc.elim
  | cnt e => rw [hx] at oc; exact oc.elim
  | nx env' =>
    rw [hx] at oc
    intro σ' H' p
    obtain ⟨f', sf', c, _, pn⟩ := p
    have he : eqAt (pins sig.io) ω' (om0 sig.io N.length) = true := hend.resolve_right fun z => ends_nx z hx
    have hk : sig.rk = 0 := hrk.resolve_right fun z => ends_nx z hx
    refine (show ∀ v H' Ss' S, _ → _ → _ → _ → _ → _ from oc) .non H' (maskF sig.io f') [] (step c) (fin_all ao sf' (c.len.trans lenS) (by omega) (by omega) fun i hi => ⟨pn i hi, eqAt_eq he i hi⟩) (by rw [hk]; exact ⟨rfl, .non⟩) ?_ fun a ha => ?_
    · rw [List.append_nil]; exact maskF_sub.nodup sf'.nd
    · rw [List.append_nil] at ha
      exact inF c a (maskF_sub.subset ha)
  | ret d env' =>
    rw [hx] at oc
    intro v H' p
    obtain ⟨ω2, f', σ', sf', c, pn, S', o, ndS, dj, own⟩ := p
    refine (show ∀ v H' Ss' S, _ → _ → _ → _ → _ → _ from oc) v H' (maskF sig.io f') S' (step c) (fin_all ao sf' (c.len.trans lenS) (by omega) (by omega) pn) o ?_ fun a ha => ?_
    · refine List.nodup_append.mpr ⟨maskF_sub.nodup sf'.nd, ndS, fun a ha b hb e => ?_⟩
      subst e
      obtain ⟨T, hT, haT⟩ := List.mem_flatten.mp ha
      obtain ⟨j, k, h1, h2⟩ := maskF_mem hT haT
      exact dj a hb j (pins_mem.mpr ⟨k, h1⟩) T h2 haT
    · rcases List.mem_append.mp ha with ha | ha
      · exact inF c a (maskF_sub.subset ha)
      · exact (own a ha).imp (avIn a) id
  | exc x0 env' =>
    rw [hx] at oc
    intro cls dd σ' H' p
    obtain ⟨ω2, f', _, sf', c, _, _, ex⟩ := p
    exact (show ∀ cls dd H', _ → _ → _ from oc) cls dd H' (step c) ex
end VK
set_option Elab.async false
set_option linter.all false
set_option maxHeartbeats 4000000
/-! all defs at every level -/
namespace VK
open PySem PySem.Spec PyProof.Rows L2
def DefOkP (K : PySem.W.Frag) (Pr : Prog) (sgs : Sgs) (G : List (Str × GV)) (i : Nat) (fa : Addr) (sig : Sig) (fd : FuncData) (ps : List Str) : Prop :=
  ∃ (fn : Fn) (name qual : Str) (st : Stmt) (N : List Str) (m m' : Nat) (ω' : List Nat), Fun K name qual st fa fd ∧ FnScope N ps (defScope st) ∧ Pr.fns[i]? = some fn ∧ fn.np = ps.length ∧ fn.ns = N.length ∧ sig.io.length = ps.length ∧ ps.length ≤ N.length ∧
    rSs (rS m ⟨N, G, defScope st, fun _ => true, []⟩ m') (defBody st) = .ok fn.body ∧ oSs sgs ⟨pins sig.io, om0 sig.io N.length, sig.rk, om0 sig.io N.length⟩ [] (om0 sig.io N.length) fn.body = some ω' ∧
    (eqAt (pins sig.io) ω' (om0 sig.io N.length) = true ∨ ends fn.body = true) ∧ (sig.rk = 0 ∨ ends fn.body = true) ∧ Binds K fd ps []
structure DefOk (K : PySem.W.Frag) (Pr : Prog) (sgs : Sgs) (G : List (Str × GV)) (i : Nat) (fa : Addr) (sig : Sig) : Prop where
  ex : ∃ (fd : FuncData) (ps : List Str), DefOkP K Pr sgs G i fa sig fd ps
def gOf (cnt : Nat) (fa : Nat → Addr) (sigs : Nat → Sig) : GF := fun j u => j < cnt ∧ u = fa j ∧ fcB (sigs j) = true
theorem fn_zero {Pg : PySem.Program} {w : World} {K : PySem.W.Frag} {mg : Str → Option Value} {base : Heap} {g : GF} {ec : EC} {Pr : Prog} {i : Nat} {f : Addr} {fd : FuncData} {ps : List Str} {sig : Sig} {CX : CXT} : FnOk Pg w K mg base CX 0 f fd ps (spF K g ec sig (callN Pr 0 i)) := by
  have no : ∀ {vs : List V} {H : Hp} {Q : VK} {E : XK}, spF K g ec sig (callN Pr 0 i) vs H Q E → False := fun {vs H Q E} h => by
    obtain ⟨ds, Ss, _, _, oc⟩ := h
    exact oc.elim
  exact ⟨fun vs H Q E h => (no h).elim, fun A outer s H args us vs Q E _ _ _ _ h => (no h).elim⟩
theorem fn_of {Pg : PySem.Program} {w : World} {K : PySem.W.Frag} {mg : Str → Option Value} {base : Heap} {ec : EC} {Pr : Prog} {sgs : Sgs} {G : List (Str × GV)} (cnt : Nat) (fa : Nat → Addr) (sigs : Nat → Sig)
    (hd : ∀ i, i < cnt → DefOk K Pr sgs G i (fa i) (sigs i)) (hG : ∀ x i io, G.lookup x = some (.fn i io) → i < cnt ∧ mg x = some (.ref (fa i)) ∧ sgs.lookup i = some (sigs i))
    (hcst : ∀ x d, G.lookup x = some (.cst d) → ∃ v u, mg x = some u ∧ RelV v u ∧ ∀ H, Rep K (gOf cnt fa sigs) H d v) (hblt : ∀ x, G.lookup x = none → bltN.contains x = true → mg x = none)
    (hcls : ∀ X : Cx, X.K = K → X.mg = mg → ∀ x c, G.lookup x = some (.cls c) → ExF X ec c x ∧ ∃ cv, X.mg x = some cv ∧ ∀ k C fl, ec k C fl → PySem.W.exmOne X.K (.ref C) cv = some (Pr.sup k c)) (n : Nat)
    (ih : ∀ i, i < cnt → ∃ fd ps, FnOk Pg w K mg base (L2.CX Pg w) n (fa i) fd ps (spF K (gOf cnt fa sigs) ec (sigs i) (callN Pr n i)) ∧ Binds K fd ps [] ∧ PySem.W.keepIn K (.ref (fa i)) = true)
    {i : Nat} {fd : FuncData} {ps : List Str} (D : DefOkP K Pr sgs G i (fa i) (sigs i) fd ps) :
    FnOk Pg w K mg base (L2.CX Pg w) (n + 1) (fa i) fd ps (spF K (gOf cnt fa sigs) ec (sigs i) (callN Pr (n + 1) i)) := by
    obtain ⟨fn, name, qual, st, N, m, m', ω', F, S, h1, h2, h3, h4, h5, h6, h7, h8, h9, B⟩ := D
    refine fn_step F S h1 h2 h3 h4 h5 h6 h7 h8 h9 fun X e1 e2 e3 e4 e5 e6 e7 e8 e9 hroom e10 e11 po => ?_
    have fi : ∀ j, j < cnt → FnI X (gOf cnt fa sigs) ec ⟨callN Pr n, Pr.sup, Pr.wf⟩ n (sigs j) j (fa j) := fun j hj => by
      obtain ⟨fd', ps', g1, g2, g3⟩ := ih j hj
      subst e1 e2 e3 e4 e5
      exact ⟨⟨fd', ps', g1, g2⟩, g3⟩
    refine ⟨⟨e6, e7, ?_, e8, ?_, e9, fun x j io hx => ?_, fun x d hx => ?_, fun x hx hbx => ?_, fun j u hu => ?_⟩, po, e10, e11, fun x c hx => hcls X e3 e4 x c hx⟩
    · rw [e7]; exact S.nd
    · have := hroom.un; omega
    · obtain ⟨g1, g2, g3⟩ := hG x j io hx
      exact ⟨fa j, sigs j, n, by rw [e4]; exact g2, g3, fi j g1, hroom, fun hf => ⟨g1, rfl, hf⟩⟩
    · obtain ⟨v, u, g1, g2, g3⟩ := hcst x d hx
      exact ⟨v, u, by rw [e4]; exact g1, g2, by rw [e3]; exact g3⟩
    · rw [e4]; exact hblt x hx hbx
    · obtain ⟨g1, rfl, g3⟩ := hu
      unfold fcB at g3
      obtain ⟨g4, g5⟩ := Bool.and_eq_true_iff.mp g3
      refine ⟨sigs j, n, fi j g1, hroom, by simpa using g4, fun o ho => ?_, fun ds hl => ?_⟩
      · have := List.all_eq_true.mp g5 o ho
        simpa using this
      · obtain ⟨_, ps', fn', _, _, _, _, _, _, _, _, _, k1, k2, _, k4, _⟩ := (hd j g1).ex
        cases n with
        | zero => rfl
        | succ n =>
          show (match Pr.fns[j]? with
            | none => CR.err
            | some fn => runFn ⟨callN Pr n, Pr.sup, Pr.wf⟩ fn ds) = _
          rw [k1]
          show runFn _ fn' ds = _
          unfold runFn
          rw [if_neg (by omega)]
theorem all_fns {Pg : PySem.Program} {w : World} {K : PySem.W.Frag} {mg : Str → Option Value} {base : Heap} {ec : EC} {Pr : Prog} {sgs : Sgs} {G : List (Str × GV)} (cnt : Nat) (fa : Nat → Addr) (sigs : Nat → Sig)
    (hd : ∀ i, i < cnt → DefOk K Pr sgs G i (fa i) (sigs i)) (hG : ∀ x i io, G.lookup x = some (.fn i io) → i < cnt ∧ mg x = some (.ref (fa i)) ∧ sgs.lookup i = some (sigs i))
    (hcst : ∀ x d, G.lookup x = some (.cst d) → ∃ v u, mg x = some u ∧ RelV v u ∧ ∀ H, Rep K (gOf cnt fa sigs) H d v) (hblt : ∀ x, G.lookup x = none → bltN.contains x = true → mg x = none)
    (hcls : ∀ X : Cx, X.K = K → X.mg = mg → ∀ x c, G.lookup x = some (.cls c) → ExF X ec c x ∧ ∃ cv, X.mg x = some cv ∧ ∀ k C fl, ec k C fl → PySem.W.exmOne X.K (.ref C) cv = some (Pr.sup k c)) :
    ∀ n i, i < cnt → ∃ fd ps, FnOk Pg w K mg base (L2.CX Pg w) n (fa i) fd ps (spF K (gOf cnt fa sigs) ec (sigs i) (callN Pr n i)) ∧ Binds K fd ps [] ∧ PySem.W.keepIn K (.ref (fa i)) = true
  | 0, i, h => by
    obtain ⟨fd, ps, fn, name, qual, st, N, m, m', ω', F, _, _, _, _, _, _, _, _, _, _, B⟩ := (hd i h).ex
    exact ⟨fd, ps, fn_zero, B, F.kp⟩
  | n + 1, i, h => by
    have ih := all_fns (base := base) (Pg := Pg) (w := w) cnt fa sigs hd hG hcst hblt hcls n
    obtain ⟨fd, ps, D⟩ := (hd i h).ex
    have g := fn_of cnt fa sigs hd hG hcst hblt hcls n ih D
    obtain ⟨fn, name, qual, st, N, m, m', ω', F, _, _, _, _, _, _, _, _, _, _, B⟩ := D
    exact ⟨fd, ps, g, B, F.kp⟩
end VK
set_option Elab.async false
set_option linter.all false
set_option maxHeartbeats 4000000
/-! from the law's plain answer to the walk's promise -/
namespace VK
open PySem PySem.Spec PyProof.Rows L2
theorem law_sp {K : PySem.W.Frag} {g : GF} {ec : EC} {call : List D → CR} {n : Nat} (h : ∀ ns : List Int, ns.length ≤ n → ∃ fin, call [.lst (ns.map .int)] = .ok (.bl true) fin) :
    ∀ (H : Hp) (a : Addr) (ns : List Int), ns.length ≤ n → Only H → SqL K H a (ns.map V.int) → spF K g ec ⟨[none], 0⟩ call [.ref a] H (fun v _ => v = .bl true) fun _ _ _ => False := by
  intro H a ns hl ho hs
  obtain ⟨fin, hf⟩ := h ns hl
  have fz : FzL K H a (ns.map V.int) := by
    rcases hs with (e | e) | e
    · rcases ho a with z | ⟨o, xs, z⟩
      · rw [z] at e; cases e
      · rw [z] at e; cases e
    · exact .inl e
    · exact .inr e
  refine ⟨[.lst (ns.map .int)], [[]], ⟨⟨rfl, .lst fz (Reps.ints ns)⟩, trivial⟩, by simp, ?_⟩
  rw [hf]
  intro v H' Ss' S _ _ o _ _
  cases o.2
  rfl
theorem noCX {P : PySem.Program} {w : World} {H : Hp} {s : Shared} {e : Value} {s' : Shared} (h : L2.CX P w [] H s (fun _ _ _ => False) e s') : False := by
  obtain ⟨_, _, _, _, _, _, _, _, _, _, _, _, z⟩ := h
  exact z
end VK
set_option Elab.async false
set_option linter.all false
set_option maxHeartbeats 4000000
/-! a law's data, checked -/
namespace VK
open PySem PySem.Spec PyProof.Rows L2
def scB (N P : List Str) (sc : Scope) : Bool := sc.kind == .function && !sc.isCoroutine && !sc.isGenerator && decide N.Nodup && (N.take P.length == P) && (P.all fun x => sc.names.lookup x == some .local || sc.names.lookup x == some .cell) && (sc.names.all fun y => y.2 != .free)
theorem scB_ok {N P : List Str} {sc : Scope} (h : scB N P sc = true) : FnScope N P sc := by
  unfold scB at h
  simp only [Bool.and_eq_true, beq_iff_eq, Bool.not_eq_true', decide_eq_true_eq, List.all_eq_true, Bool.or_eq_true, bne_iff_ne, ne_eq] at h
  obtain ⟨⟨⟨⟨⟨⟨h1, h2⟩, h3⟩, h4⟩, h5⟩, h6⟩, h7⟩ := h
  exact ⟨h1, h2, h3, h4, h5, h6, h7⟩
def bodyR (G : List (Str × GV)) (N : List Str) (st : Stmt) : X Ss := rSs (rS 60 ⟨N, G, defScope st, fun _ => true, []⟩ 60) (defBody st)
def bodyO (G : List (Str × GV)) (N : List Str) (st : Stmt) : Ss := match bodyR G N st with
  | .ok b => b
  | .error _ => .nil
def fnO (G : List (Str × GV)) (N ps : List Str) (st : Stmt) : Fn := ⟨ps.length, N.length, bodyO G N st⟩
/-- all that is asked of a def's text -/
def chkD (sgs : Sgs) (G : List (Str × GV)) (N ps : List Str) (st : Stmt) (sig : Sig) : Bool := scB N ps (defScope st) && sig.io.length == ps.length && decide (ps.length ≤ N.length) && (match bodyR G N st with
  | .error _ => false
  | .ok b => match oSs sgs ⟨pins sig.io, om0 sig.io N.length, sig.rk, om0 sig.io N.length⟩ [] (om0 sig.io N.length) b with
    | none => false
    | some ω' => (eqAt (pins sig.io) ω' (om0 sig.io N.length) || ends b) && (sig.rk == 0 || ends b))
theorem chkD_ok {K : PySem.W.Frag} {Pr : Prog} {sgs : Sgs} {G : List (Str × GV)} {i : Nat} {fa : Addr} {sig : Sig} {N ps : List Str} {st : Stmt} {name qual : Str} {fd : FuncData} (h : chkD sgs G N ps st sig = true) (F : Fun K name qual st fa fd) (B : Binds K fd ps []) {b₀ : Ss} (hb₀ : bodyO G N st = b₀) (hi : Pr.fns[i]? = some ⟨ps.length, N.length, b₀⟩) : DefOkP K Pr sgs G i fa sig fd ps := by
  subst hb₀
  unfold chkD at h
  simp only [Bool.and_eq_true, beq_iff_eq, decide_eq_true_eq] at h
  obtain ⟨⟨⟨h1, h2⟩, h3⟩, h4⟩ := h
  cases hb : bodyR G N st with
  | error u => rw [hb] at h4; cases h4
  | ok b =>
    rw [hb] at h4
    dsimp only at h4
    cases ho : oSs sgs ⟨pins sig.io, om0 sig.io N.length, sig.rk, om0 sig.io N.length⟩ [] (om0 sig.io N.length) b with
    | none => rw [ho] at h4; cases h4
    | some ω' =>
      rw [ho] at h4
      simp only [Bool.and_eq_true, Bool.or_eq_true, beq_iff_eq] at h4
      have e : (fnO G N ps st).body = b := by
        show bodyO G N st = b
        unfold bodyO
        rw [hb]
      exact ⟨fnO G N ps st, name, qual, st, N, 60, 60, ω', F, scB_ok h1, hi, rfl, rfl, h2, h3, by rw [e]; exact hb, by rw [e]; exact ho, by rw [e]; exact h4.1, by rw [e]; exact h4.2, B⟩
end VK
set_option Elab.async false
set_option linter.all false
set_option maxHeartbeats 4000000
/-! constants of the module, as they stand in the written part -/
namespace VK
open PySem PySem.Spec PyProof.Rows L2
mutual
/-- the value of the written part is that deep value -/
def repB (K : PySem.W.Frag) : D → Value → Bool
  | .non, .none => true
  | .bl b, .bool c => b == c
  | .int i, .int j _ => i == j
  | .str s, .str t _ => s == t
  | .tup ds, .ref a => match K.lookup a with
    | some o => decide (o.cls = .type "tuple") && (match o.data with
      | .seq its _ => decide (its.size ≤ SZ) && repBs K ds its.toList
      | _ => false)
    | none => false
  | _, _ => false
def repBs (K : PySem.W.Frag) : List D → List Value → Bool
  | [], [] => true
  | d :: ds, u :: us => repB K d u && repBs K ds us
  | _, _ => false
end
mutual
theorem repB_ok {K : PySem.W.Frag} {g : GF} : ∀ {d : D} {u : Value}, repB K d u = true → ∃ v, RelV v u ∧ ∀ H, Rep K g H d v
  | .non, .none, _ => ⟨.non, rfl, fun _ => .non⟩
  | .bl b, .bool c, h => by
    have : b = c := by simpa [repB] using h
    subst this
    exact ⟨.bl b, rfl, fun _ => .bl b⟩
  | .int i, .int j t, h => by
    have : i = j := by simpa [repB] using h
    subst this
    exact ⟨.int i, ⟨t, rfl⟩, fun _ => .int i⟩
  | .str s, .str z t, h => by
    have : s = z := by simpa [repB] using h
    subst this
    exact ⟨.str s, ⟨t, rfl⟩, fun _ => .str s⟩
  | .tup ds, .ref a, h => by
    unfold repB at h
    cases hk : K.lookup a with
    | none => rw [hk] at h; cases h
    | some o =>
      rw [hk] at h
      obtain ⟨h1, h2⟩ := Bool.and_eq_true_iff.mp h
      cases hd : o.data with
      | seq its n =>
        rw [hd] at h2
        obtain ⟨h3, h4⟩ := Bool.and_eq_true_iff.mp h2
        obtain ⟨vs, hv, hr⟩ := repBs_ok (g := g) h4
        exact ⟨.ref a, rfl, fun H => .tup (.inr ⟨o, its, n, hk, of_decide_eq_true h1, hd, by rw [← SZ_eq]; exact of_decide_eq_true h3, hv⟩) (hr H)⟩
      | _ => rw [hd] at h2; cases h2
theorem repBs_ok {K : PySem.W.Frag} {g : GF} : ∀ {ds : List D} {us : List Value}, repBs K ds us = true → ∃ vs, Vals vs us ∧ ∀ H, Reps K g H ds vs
  | [], [], _ => ⟨[], .nil, fun _ => .nil⟩
  | d :: ds, u :: us, h => by
    obtain ⟨h1, h2⟩ := Bool.and_eq_true_iff.mp h
    obtain ⟨v, hv, hr⟩ := repB_ok (g := g) h1
    obtain ⟨vs, hvs, hrs⟩ := repBs_ok (g := g) h2
    exact ⟨v :: vs, .cons hv hvs, fun H => .cons (hr H) (hrs H)⟩
end
end VK
set_option Elab.async false
set_option linter.all false
set_option maxHeartbeats 4000000
/-! a law's data and facts: from them to the walk's promise -/
namespace VK
open PySem PySem.Spec PyProof.Rows L2
/-- a def: its name, slots, parameters, text, signature, body as read -/
structure Df where
  name : Str
  N : List Str
  P : List Str
  st : Stmt
  sig : Sig
  body : Ss
def sgsOf (ds : List Df) : Sgs := ds.zipIdx.map fun d => (d.2, d.1.sig)
def fnsOf (ds : List Df) : List Fn := ds.map fun d => ⟨d.P.length, d.N.length, d.body⟩
def mkPr (ds : List Df) (wf : Nat) : Prog := ⟨fnsOf ds, fun k c => k == c, wf⟩
def BindsP (d : Df) : Prop := ∀ (kV doc pm : Value) (an : Option Addr) (cdv ct : Value) (us : List Value), us.length = d.P.length → bindArgs (PySem.W.fnOf d.name d.name (defArgs d.st) (defBody d.st) (defScope d.st) .none kV doc pm an cdv ct) ⟨us, []⟩ = pure (d.P.zip us)
def DfOk (sgs : Sgs) (G : List (Str × GV)) (d : Df) : Prop := chkD sgs G d.N d.P d.st d.sig = true ∧ bodyO G d.N d.st = d.body ∧ BindsP d
def AllD (p : Df → Prop) : List Df → Prop
  | [] => True
  | d :: r => p d ∧ AllD p r
theorem AllD.get {p : Df → Prop} : ∀ {ds : List Df} {i : Nat} {d : Df}, AllD p ds → ds[i]? = some d → p d
  | [], _, _, _, h => by simp at h
  | d :: r, 0, _, h, e => by cases e; exact h.1
  | d :: r, i + 1, _, h, e => AllD.get (i := i) h.2 e
/-- what the written part says of a def at f -/
structure DefIn (K : PySem.W.Frag) (name : Str) (st : Stmt) (f : Addr) : Prop where
  ex : ∃ (oc kV doc pm cdv ct : Value) (od an : Option Addr) (osl : Array (Option Value)), PySem.W.nsIn K mainGlobals name = some (some (.ref f)) ∧ K.lookup f = some ⟨oc, od, .func (PySem.W.fnOf name name (defArgs st) (defBody st) (defScope st) .none kV doc pm an cdv ct), osl⟩ ∧
    PySem.W.codeIn K cdv name = true ∧ PySem.W.keepIn K (.ref f) = true
theorem DefIn.of {K : PySem.W.Frag} {name : Str} {st : Stmt} {f : Addr} {oc kV doc pm cdv ct : Value} {od an : Option Addr} {osl : Array (Option Value)} (a : PySem.W.nsIn K mainGlobals name = some (some (.ref f)))
    (l : K.lookup f = some ⟨oc, od, .func (PySem.W.fnOf name name (defArgs st) (defBody st) (defScope st) .none kV doc pm an cdv ct), osl⟩) (c : PySem.W.codeIn K cdv name = true) (k : PySem.W.keepIn K (.ref f) = true) : DefIn K name st f := ⟨⟨oc, kV, doc, pm, cdv, ct, od, an, osl, a, l, c, k⟩⟩
def AllIn (K : PySem.W.Frag) : List Df → List Addr → Prop
  | [], [] => True
  | d :: r, f :: fs => DefIn K d.name d.st f ∧ AllIn K r fs
  | _, _ => False
theorem AllIn.get {K : PySem.W.Frag} : ∀ {ds : List Df} {fs : List Addr} {i : Nat} {d : Df}, AllIn K ds fs → ds[i]? = some d → DefIn K d.name d.st (fs.getD i 0)
  | [], _, _, _, _, h => by simp at h
  | d :: r, [], _, _, h, _ => h.elim
  | d :: r, f :: fs, 0, _, h, e => by cases e; exact h.1
  | d :: r, f :: fs, i + 1, _, h, e => by
    have q := AllIn.get (i := i) h.2 e
    simpa using q
/-- an own class of errors under ValueError, at C, with nothing of its own -/
structure ClsIn (K : PySem.W.Frag) (x : Str) (C : Addr) : Prop where
  ns : PySem.W.nsIn K mainGlobals x = some (some (.ref C))
  ex : ∃ (B newId initId : String) (bmB : List Value), ExcBaseFacts B newId initId bmB ∧ PySem.W.excIn K C bmB newId = true
  kp : PySem.W.keepIn K (.ref C) = true
  sb : PySem.W.subIn K (.ref C) (.type "BaseException") = some true
  ty : PySem.W.typeIn K (.ref C) = some (.type "type")
  ic : PySem.W.isClsIn K C = true
  ss : PySem.W.subIn K (.ref C) (.ref C) = some true
theorem ClsIn.exm {K : PySem.W.Frag} {x : Str} {C : Addr} (c : ClsIn K x C) : PySem.W.exmOne K (.ref C) (.ref C) = some true := by
  have e1 : (PySem.W.subIn K (.ref C) (.type "BaseException") == some true) = true := by rw [c.sb] <;> rfl
  have e2 : ((PySem.W.clsIn K C).isSome && PySem.W.typeIn K (.ref C) == some (.type "type")) = true := by
    have h2' : (PySem.W.clsIn K C).isSome = true := c.ic
    rw [h2', c.ty] <;> rfl
  show (if (PySem.W.subIn K (.ref C) (.type "BaseException") == some true) = true then (if ((PySem.W.clsIn K C).isSome && PySem.W.typeIn K (.ref C) == some (.type "type")) = true then PySem.W.subIn K (.ref C) (.ref C) else none) else none) = some true
  rw [if_pos e1, if_pos e2]
  exact c.ss
theorem ClsIn.of {K : PySem.W.Frag} {x : Str} {C : Addr} (ns : PySem.W.nsIn K mainGlobals x = some (some (.ref C))) (ex : PySem.W.excIn K C [.type "ValueError", .type "Exception", .type "BaseException", .type "object"] "ValueError.__new__" = true)
    (kp : PySem.W.keepIn K (.ref C) = true) (sb : PySem.W.subIn K (.ref C) (.type "BaseException") = some true) (ty : PySem.W.typeIn K (.ref C) = some (.type "type")) (ic : PySem.W.isClsIn K C = true) (ss : PySem.W.subIn K (.ref C) (.ref C) = some true) : ClsIn K x C :=
  ⟨ns, ⟨_, _, _, _, PySem.F.excBase_ValueError, ex⟩, kp, sb, ty, ic, ss⟩
def CstIn (K : PySem.W.Frag) (x : Str) (d : D) : Prop := ∃ u, PySem.W.nsIn K mainGlobals x = some (some u) ∧ repB K d u = true
theorem CstIn.of {K : PySem.W.Frag} {x : Str} {d : D} {u : Value} (a : PySem.W.nsIn K mainGlobals x = some (some u)) (r : repB K d u = true) : CstIn K x d := ⟨u, a, r⟩
/-- the global names: constants, one class (number c), the defs -/
def gAll (cs : List (Str × D)) (cl : Str × Nat) (ds : List Df) : List (Str × GV) := cs.map (fun c => (c.1, .cst c.2)) ++ (cl.1, .cls cl.2) :: ds.zipIdx.map fun d => (d.1.name, .fn d.2 (d.1.sig.io.map (·.isSome)))
def AllC (K : PySem.W.Frag) : List (Str × D) → Prop
  | [] => True
  | c :: r => CstIn K c.1 c.2 ∧ AllC K r
theorem AllC.get {K : PySem.W.Frag} : ∀ {cs : List (Str × D)} {c : Str × D}, AllC K cs → c ∈ cs → CstIn K c.1 c.2
  | [], _, _, h => by cases h
  | c :: r, _, h, m => by
    rcases List.mem_cons.mp m with rfl | m
    · exact h.1
    · exact AllC.get h.2 m
def AllB (K : PySem.W.Frag) : List Str → Prop
  | [] => True
  | x :: r => PySem.W.nsIn K mainGlobals x = some none ∧ AllB K r
theorem AllB.get {K : PySem.W.Frag} : ∀ {xs : List Str} {x : Str}, AllB K xs → x ∈ xs → PySem.W.nsIn K mainGlobals x = some none
  | [], _, _, h => by cases h
  | c :: r, _, h, m => by
    rcases List.mem_cons.mp m with rfl | m
    · exact h.1
    · exact AllB.get h.2 m
theorem lookup_appZ {α β : Type} [BEq α] {x : α} : ∀ {l m : List (α × β)} {v : β}, (l ++ m).lookup x = some v → l.lookup x = some v ∨ m.lookup x = some v
  | [], m, v, h => .inr h
  | (a, b) :: l, m, v, h => by
    simp only [List.cons_append, List.lookup_cons] at h ⊢
    split at h
    · exact .inl h
    · exact lookup_appZ h
theorem lookup_memZ {α β : Type} [BEq α] [LawfulBEq α] {x : α} : ∀ {l : List (α × β)} {v : β}, l.lookup x = some v → (x, v) ∈ l
  | [], _, h => by cases h
  | (a, b) :: l, v, h => by
    simp only [List.lookup_cons] at h
    split at h
    · rename_i e
      have := eq_of_beq e
      subst this
      cases h
      exact List.mem_cons_self
    · exact List.mem_cons_of_mem _ (lookup_memZ h)
theorem sgs_lookup (ds : List Df) (i k : Nat) (d : Df) (h : ds[i]? = some d) : ((ds.zipIdx k).map fun d => (d.2, d.1.sig)).lookup (k + i) = some d.sig := by
  induction ds generalizing i k with
  | nil => simp at h
  | cons a r ih =>
    rw [List.zipIdx_cons, List.map_cons, List.lookup_cons]
    cases i with
    | zero =>
      cases h
      simp
    | succ i =>
      have ne : (k + (i + 1) == k) = false := by simp
      rw [ne]
      have := ih i (k + 1) h
      rw [show k + (i + 1) = k + 1 + i by omega]
      exact this
def ecOne (n : Nat) (C : Addr) : EC := fun c a fl => c = n ∧ a = C ∧ fl = []
/-- all of it together: the law's def keeps its promise -/
theorem law_fn {Pg : PySem.Program} {w : World} {K : PySem.W.Frag} {h : Heap} {mg : Str → Option Value} {fa C : Addr} {cs : List (Str × D)} {cl : Str × Nat} {ds : List Df} {fs : List Addr} {wf n li : Nat} {dl : Df} {x : Str}
    (X : K.In h) (Gn : h.Ns mainGlobals mg) (hfa : mg "law" = some (.ref fa)) (hD : AllD (DfOk (sgsOf ds) (gAll cs cl ds)) ds) (hl : ds[li]? = some dl) (hn : dl.name = "law") (hp : dl.P = [x]) (hs : dl.sig = ⟨[none], 0⟩)
    (hI : AllIn K ds fs) (hC : ClsIn K cl.1 C) (hcs : AllC K cs) (hB : AllB K (bltN.filter fun x => ((gAll cs cl ds).lookup x).isNone)) :
    ∃ (g : GF) (ec : EC) (fd : FuncData), (∀ (s : Shared) (u : Value), BindsTo s fd ⟨[u], []⟩ [(x, u)]) ∧ ∀ base : Heap, K.In base → base.Ns mainGlobals mg →
      FnOk Pg w K mg base (L2.CX Pg w) (n + 1) fa fd [x] (spF K g ec ⟨[none], 0⟩ (callN (mkPr ds wf) (n + 1) li)) := by
  refine ⟨gOf ds.length (fun i => fs.getD i 0) (fun i => ((ds[i]?).map (·.sig)).getD ⟨[], 0⟩), ecOne cl.2 C, ?_⟩
  have one : ∀ (i : Nat) (d : Df), ds[i]? = some d → mg d.name = some (.ref (fs.getD i 0)) ∧ ∃ (fd : FuncData), ((∃ (kV doc pm : Value) (an : Option Addr) (cdv ct : Value), fd = PySem.W.fnOf d.name d.name (defArgs d.st) (defBody d.st) (defScope d.st) .none kV doc pm an cdv ct)) ∧ DefOkP K (mkPr ds wf) (sgsOf ds) (gAll cs cl ds) i (fs.getD i 0) d.sig fd d.P := by
    intro i d hi
    obtain ⟨oc, kV, doc, pm, cdv, ct, od, an, osl, a, l, c, k⟩ := (hI.get hi).ex
    obtain ⟨c1, c2, c3⟩ := hD.get hi
    have F := fun_mk (st := d.st) l c k
    refine ⟨PySem.W.mg_of X Gn a, _, ⟨kV, doc, pm, an, cdv, ct, rfl⟩, chkD_ok c1 F (F.binds (ps := d.P) c3) c2 ?_⟩
    show (fnsOf ds)[i]? = _
    unfold fnsOf
    rw [List.getElem?_map, hi]
    rfl
  have hdef : ∀ i, i < ds.length → DefOk K (mkPr ds wf) (sgsOf ds) (gAll cs cl ds) i (fs.getD i 0) (((ds[i]?).map (·.sig)).getD ⟨[], 0⟩) := by
    intro i hi
    have e := List.getElem?_eq_getElem hi
    obtain ⟨_, fd, _, q⟩ := one i _ e
    rw [e]
    exact ⟨fd, _, q⟩
  have hlu : ∀ x v, (gAll cs cl ds).lookup x = some v → (∃ c ∈ cs, x = c.1 ∧ v = .cst c.2) ∨ (x = cl.1 ∧ v = .cls cl.2) ∨ ∃ i d, ds[i]? = some d ∧ x = d.name ∧ v = .fn i (d.sig.io.map (·.isSome)) := by
    intro x v hx
    rcases lookup_appZ hx with hx | hx
    · have := lookup_memZ hx
      obtain ⟨c, hc, e⟩ := List.mem_map.mp this
      cases e
      exact .inl ⟨c, hc, rfl, rfl⟩
    · have := lookup_memZ hx
      rcases List.mem_cons.mp this with e | this
      · cases e
        exact .inr (.inl ⟨rfl, rfl⟩)
      · obtain ⟨⟨d, i⟩, hd, e⟩ := List.mem_map.mp this
        cases e
        have := List.mem_zipIdx' hd
        obtain ⟨hi, e⟩ := this
        exact .inr (.inr ⟨i, d, by rw [List.getElem?_eq_getElem hi, ← e], rfl, rfl⟩)
  have hG : ∀ x i io, (gAll cs cl ds).lookup x = some (.fn i io) → i < ds.length ∧ mg x = some (.ref (fs.getD i 0)) ∧ (sgsOf ds).lookup i = some (((ds[i]?).map (·.sig)).getD ⟨[], 0⟩) := by
    intro x i io hx
    rcases hlu x _ hx with ⟨c, _, _, e⟩ | ⟨_, e⟩ | ⟨j, d, hj, rfl, e⟩
    · cases e
    · cases e
    · cases e
      refine ⟨?_, (one _ d hj).1, ?_⟩
      · by_cases hi : i < ds.length
        · exact hi
        · rw [List.getElem?_eq_none (by omega)] at hj; cases hj
      · rw [hj]
        have := sgs_lookup ds i 0 d hj
        rw [Nat.zero_add] at this
        exact this
  have hcst : ∀ x d, (gAll cs cl ds).lookup x = some (.cst d) → ∃ v u, mg x = some u ∧ RelV v u ∧ ∀ H, Rep K (gOf ds.length (fun i => fs.getD i 0) (fun i => ((ds[i]?).map (·.sig)).getD ⟨[], 0⟩)) H d v := by
    intro x d hx
    rcases hlu x _ hx with ⟨c, hc, rfl, e⟩ | ⟨_, e⟩ | ⟨j, d, hj, rfl, e⟩
    · cases e
      obtain ⟨u, hu, hr⟩ := hcs.get hc
      obtain ⟨v, hv, hr⟩ := repB_ok hr
      exact ⟨v, u, PySem.W.mg_of X Gn hu, hv, hr⟩
    · cases e
    · cases e
  have hblt : ∀ x, (gAll cs cl ds).lookup x = none → bltN.contains x = true → mg x = none := by
    intro x hx hb
    refine PySem.W.mg_none_of X Gn (hB.get ?_)
    exact List.mem_filter.mpr ⟨by simpa using hb, by rw [hx]; rfl⟩
  have hcls : ∀ X : Cx, X.K = K → X.mg = mg → ∀ x c, (gAll cs cl ds).lookup x = some (.cls c) → ExF X (ecOne cl.2 C) c x ∧ ∃ cv, X.mg x = some cv ∧ ∀ k a fl, ecOne cl.2 C k a fl → PySem.W.exmOne X.K (.ref a) cv = some ((mkPr ds wf).sup k c) := by
    intro Y e1 e2 x c hx
    rcases hlu x _ hx with ⟨c, _, _, e⟩ | ⟨rfl, e⟩ | ⟨j, d, hj, rfl, e⟩
    · cases e
    · cases e
      obtain ⟨B, newId, initId, bmB, E1, E2⟩ := hC.ex
      have g := PySem.W.mg_of X Gn hC.ns
      refine ⟨⟨C, B, newId, initId, bmB, E1, by rw [e1]; exact E2, by rw [e2]; exact g, by rw [e1]; exact hC.kp, raises_own (by rw [e1]; exact hC.sb) (by rw [e1]; exact hC.ty), rfl, rfl, rfl⟩, .ref C, by rw [e2]; exact g, ?_⟩
      rintro k a fl ⟨rfl, rfl, rfl⟩
      rw [e1, hC.exm]
      show _ = some (cl.2 == cl.2)
      rw [beq_self_eq_true]
    · cases e
  obtain ⟨g1, fd, ⟨kV, doc, pm, an, cdv, ct, rfl⟩, g2⟩ := one li dl hl
  rw [hn, hfa] at g1
  cases g1
  obtain ⟨c1, c2, c3⟩ := hD.get hl
  refine ⟨PySem.W.fnOf dl.name dl.name (defArgs dl.st) (defBody dl.st) (defScope dl.st) .none kV doc pm an cdv ct, fun s u => .of_eq ?_, fun base hK hNs => ?_⟩
  · have := c3 kV doc pm an cdv ct [u] (by rw [hp]; rfl)
    rw [this, hp]
    rfl
  · have e : ((ds[li]?).map (·.sig)).getD ⟨[], 0⟩ = dl.sig := by
      rw [hl]
      rfl
    have q := fn_of (Pg := Pg) (w := w) (mg := mg) (base := base) (ec := ecOne cl.2 C) ds.length (fun i => fs.getD i 0) (fun i => ((ds[i]?).map (·.sig)).getD ⟨[], 0⟩) hdef hG hcst hblt hcls n
      (all_fns ds.length (fun i => fs.getD i 0) (fun i => ((ds[i]?).map (·.sig)).getD ⟨[], 0⟩) hdef hG hcst hblt hcls n) (i := li) (fd := PySem.W.fnOf dl.name dl.name (defArgs dl.st) (defBody dl.st) (defScope dl.st) .none kV doc pm an cdv ct) (ps := dl.P) (by
        rw [e]
        exact g2)
    have q' : FnOk Pg w K mg base (L2.CX Pg w) (n + 1) (fs.getD li 0) _ dl.P (spF K _ (ecOne cl.2 C) (((ds[li]?).map (·.sig)).getD ⟨[], 0⟩) (callN (mkPr ds wf) (n + 1) li)) := q
    rw [e, hs, hp] at q'
    exact q'
/-- what the law is asked: of every list of at most n whole numbers it makes True -/
def spL (K : PySem.W.Frag) (n : Nat) : Sp := fun vs H Q _ => ∃ (a : Addr) (ns : List Int), vs = [V.ref a] ∧ ns.length ≤ n ∧ Only H ∧ SqL K H a (ns.map V.int) ∧ ∀ H', Q (.bl true) H'
theorem spL_to {K : PySem.W.Frag} {g : GF} {ec : EC} {call : List D → CR} {n : Nat} (h : ∀ ns : List Int, ns.length ≤ n → ∃ fin, call [.lst (ns.map .int)] = .ok (.bl true) fin) {vs : List V} {H : Hp} {Q : VK} {E : XK} (q : spL K n vs H Q E) : spF K g ec ⟨[none], 0⟩ call vs H Q E := by
  obtain ⟨a, ns, rfl, hl, ho, hs, q⟩ := q
  obtain ⟨fin, hf⟩ := h ns hl
  have fz : FzL K H a (ns.map V.int) := by
    rcases hs with (e | e) | e
    · rcases ho a with z | ⟨o, xs, z⟩
      · rw [z] at e; cases e
      · rw [z] at e; cases e
    · exact .inl e
    · exact .inr e
  refine ⟨[.lst (ns.map .int)], [[]], ⟨⟨rfl, .lst fz (Reps.ints ns)⟩, trivial⟩, by simp, ?_⟩
  rw [hf]
  intro v H' Ss' S _ _ o _ _
  cases o.2
  exact q H'
theorem law_ok {Pg : PySem.Program} {w : World} {K : PySem.W.Frag} {h : Heap} {mg : Str → Option Value} {fa C : Addr} {cs : List (Str × D)} {cl : Str × Nat} {ds : List Df} {fs : List Addr} {wf n li m : Nat} {dl : Df} {x : Str}
    (X : K.In h) (Gn : h.Ns mainGlobals mg) (hfa : mg "law" = some (.ref fa)) (hD : AllD (DfOk (sgsOf ds) (gAll cs cl ds)) ds) (hl : ds[li]? = some dl) (hn : dl.name = "law") (hp : dl.P = [x]) (hs : dl.sig = ⟨[none], 0⟩)
    (plain : ∀ ns : List Int, ns.length ≤ m → ∃ fin, callN (mkPr ds wf) (n + 1) li [.lst (ns.map .int)] = .ok (.bl true) fin)
    (hI : AllIn K ds fs) (hC : ClsIn K cl.1 C) (hcs : AllC K cs) (hB : AllB K (bltN.filter fun x => ((gAll cs cl ds).lookup x).isNone)) :
    ∃ fd : FuncData, (∀ (s : Shared) (u : Value), BindsTo s fd ⟨[u], []⟩ [(x, u)]) ∧ ∀ base : Heap, K.In base → base.Ns mainGlobals mg → FnOk Pg w K mg base (L2.CX Pg w) (n + 1) fa fd [x] (spL K m) := by
  obtain ⟨g, ec, fd, h1, h2⟩ := law_fn (Pg := Pg) (w := w) (n := n) (wf := wf) X Gn hfa hD hl hn hp hs hI hC hcs hB
  refine ⟨fd, h1, fun base b1 b2 => ?_⟩
  obtain ⟨q1, q2⟩ := h2 base b1 b2
  exact ⟨fun vs H Q E q => q1 vs H Q E (spL_to plain q), fun A outer s H args us vs Q E c1 c2 c3 c4 q => q2 A outer s H args us vs Q E c1 c2 c3 c4 (spL_to plain q)⟩
end VK
set_option Elab.async false
set_option linter.all false
set_option maxHeartbeats 4000000
/-! the evaluator by rewriting -/
namespace VK
open PySem
section
variable {α β : Type} {a : α} {e e' : Env} {d : D} {T : Tab}
@[simp] theorem rbind_ok {f : α → Env → R β} : (R.ok a e).bind f = f a e := rfl
@[simp] theorem rbind_exc {f : α → Env → R β} : (R.exc d e).bind f = .exc d e := rfl
@[simp] theorem rbind_err {f : α → Env → R β} : (R.err : R α).bind f = .err := rfl
@[simp] theorem liftO_some : liftO (some a) e = .ok a e := rfl
@[simp] theorem liftO_none : liftO (none : Option α) e = .err := rfl
@[simp] theorem ofR_ok {f : α → Env → Fl} : ofR (R.ok a e) f = f a e := rfl
@[simp] theorem ofR_exc {f : α → Env → Fl} : ofR (R.exc d e) f = .exc d e := rfl
@[simp] theorem ofR_err {f : α → Env → Fl} : ofR R.err f = .err := rfl
@[simp] theorem next_nx {g : Env → Fl} : (Fl.nx e).next g = g e := rfl
@[simp] theorem next_ret {g : Env → Fl} : (Fl.ret d e).next g = .ret d e := rfl
@[simp] theorem next_brk {g : Env → Fl} : (Fl.brk e).next g = .brk e := rfl
@[simp] theorem next_cnt {g : Env → Fl} : (Fl.cnt e).next g = .cnt e := rfl
@[simp] theorem next_exc {g : Env → Fl} : (Fl.exc d e).next g = .exc d e := rfl
@[simp] theorem truth_bl {b : Bool} : truth (.bl b) = some b := rfl
@[simp] theorem truth_int {i : Int} : truth (.int i) = some (i != 0) := rfl
@[simp] theorem truth_non : truth .non = some false := rfl
@[simp] theorem truth_lst {xs : List D} : truth (.lst xs) = some (!xs.isEmpty) := rfl
@[simp] theorem truth_tup {xs : List D} : truth (.tup xs) = some (!xs.isEmpty) := rfl
@[simp] theorem tr_def {f : Env → R D} : tr f e = (f e).bind fun x e1 => liftO (truth x) e1 := rfl
theorem plain_int (i : Int) : plain (.int i) = true := rfl
theorem plain_bl (i : Bool) : plain (.bl i) = true := rfl
theorem plain_non : plain .non = true := rfl
@[simp] theorem cmp_eq_int {i j : Int} : cmpD .eq (.int i) (.int j) = some (.bl (decide (i = j))) := by
  show some (D.bl (PyData.eqv (.int i) (.int j))) = _
  have : PyData.eqv (.int i) (.int j) = decide (i = j) := by
    rw [Bool.eq_iff_iff]
    simp [PyData.eqv]
  rw [this]
@[simp] theorem cmp_ne_int {i j : Int} : cmpD .ne (.int i) (.int j) = some (.bl (!decide (i = j))) := by
  show some (D.bl (!PyData.eqv (.int i) (.int j))) = _
  have : PyData.eqv (.int i) (.int j) = decide (i = j) := by
    rw [Bool.eq_iff_iff]
    simp [PyData.eqv]
  rw [this]
@[simp] theorem cmp_lt_int {i j : Int} : cmpD .lt (.int i) (.int j) = some (.bl (decide (i < j))) := rfl
@[simp] theorem cmp_gt_int {i j : Int} : cmpD .gt (.int i) (.int j) = some (.bl (decide (j < i))) := rfl
@[simp] theorem cmp_le_int {i j : Int} : cmpD .le (.int i) (.int j) = some (.bl (!decide (j < i))) := rfl
@[simp] theorem cmp_ge_int {i j : Int} : cmpD .ge (.int i) (.int j) = some (.bl (!decide (i < j))) := rfl
@[simp] theorem add_int {i j : Int} : opD .add (.int i) (.int j) = some (.int (i + j)) := rfl
@[simp] theorem sub_int {i j : Int} : opD .sub (.int i) (.int j) = some (.int (i - j)) := rfl
theorem mul_int {i j : Int} (h : i.natAbs.log2 + j.natAbs.log2 < 1000000) : opD .mul (.int i) (.int j) = some (.int (i * j)) := by
  show (if bigMul i j = true then _ else none) = _
  rw [if_pos (by unfold bigMul; exact decide_eq_true h)]
theorem mod_int {i j : Int} (h : 0 < j) : opD .mod (.int i) (.int j) = some (.int (i % j)) := by
  show (if 0 < j then _ else none) = _
  rw [if_pos h]
theorem fdiv_int {i j : Int} (h : 0 < j) (h2 : j.natAbs.log2 < 9000) : opD .fdiv (.int i) (.int j) = some (.int (i / j)) := by
  show (if 0 < j ∧ j.natAbs.log2 < 9000 then _ else _) = _
  rw [if_pos ⟨h, h2⟩]
@[simp] theorem subD_lst {xs : List D} {k : Int} : subD (.lst xs) (.int k) = L2.atI xs k := rfl
@[simp] theorem subD_tup {xs : List D} {k : Int} : subD (.tup xs) (.int k) = L2.atI xs k := rfl
theorem atI_pos {xs : List α} {k : Int} (h : 0 ≤ k) : L2.atI xs k = xs[k.toNat]? := by
  unfold L2.atI L2.ixN
  rw [if_pos h]
  by_cases q : k < xs.length
  · rw [if_pos q]; rfl
  · rw [if_neg q, List.getElem?_eq_none (by omega)]; rfl
theorem atI_neg {xs : List α} {k : Int} (h : k < 0) (h2 : -(xs.length : Int) ≤ k) : L2.atI xs k = xs[(k + xs.length).toNat]? := by
  unfold L2.atI L2.ixN
  rw [if_neg (by omega), if_pos h2]
  rfl
@[simp] theorem len_lst {sup : Nat → Nat → Bool} {xs : List D} : primD sup .len [.lst xs] = some (.int xs.length) := rfl
@[simp] theorem len_tup {sup : Nat → Nat → Bool} {xs : List D} : primD sup .len [.tup xs] = some (.int xs.length) := rfl
@[simp] theorem int_int {sup : Nat → Nat → Bool} {i : Int} : primD sup .int [.int i] = some (.int i) := rfl
@[simp] theorem abs_int {sup : Nat → Nat → Bool} {i : Int} : primD sup .abs [.int i] = some (.int (if i < 0 then -i else i)) := rfl
@[simp] theorem tuple_lst {sup : Nat → Nat → Bool} {xs : List D} : primD sup .tuple [.lst xs] = some (.tup xs) := rfl
theorem setIt_lst {xs : List D} {k : Int} {d : D} (h : 0 ≤ k) (h2 : k < xs.length) : setIt (.lst xs) (.int k) d = some (.lst (xs.set k.toNat d)) := by
  show (L2.ixN xs.length k).map _ = _
  unfold L2.ixN
  rw [if_pos h, if_pos h2]
  rfl
theorem log_lt {n k : Nat} (h : n < 2 ^ k) (hk : 0 < k) : n.log2 < k := by
  by_cases h0 : n = 0
  · subst h0
    simpa using hk
  · exact (Nat.log2_lt h0).mpr h
end
/-! ### the evaluator's rows, loops kept shut -/
def bodyF (T : Tab) (t : Tg) (b : Ss) (x : D) (e2 : Env) : Fl := match bindT t x e2 with
  | some e3 => exs T b e3
  | none => .err
def compT (T : Tab) (own : List Nat) (t : Tg) (cond elt : E) : D → Env → R (List D) := turnR own t (tr (ev T cond)) (eltR (ev T elt))
def compD (T : Tab) (own : List Nat) (t : Tg) (cond elt : E) (xs : List D) (e1 : Env) : R D := (fits (noExc (turns (compT T own t cond elt) xs e1))).bind fun ys e2 => .ok (.lst ys) (back own e1 e2)
def whlF (T : Tab) (c : E) (b : Ss) (e : Env) : Fl := whlL (tr (ev T c)) (exs T b) T.wf e
section
variable {T : Tab} {e : Env} {a b c : E} {es : Es} {o : Op} {i : Nat}
@[simp] theorem ev_c {d : D} : ev T (.c d) e = .ok d e := by rw [ev]
@[simp] theorem ev_v : ev T (.v i) e = liftO (getV i e) e := by rw [ev]
@[simp] theorem ev_op : ev T (.op o a b) e = (ev T a e).bind fun x e1 => (ev T b e1).bind fun y e2 => liftO (opD o x y) e2 := by rw [ev]
@[simp] theorem ev_not : ev T (.not a) e = (ev T a e).bind fun x e1 => liftO ((truth x).map fun k => .bl (!k)) e1 := by rw [ev]
@[simp] theorem ev_cmp {o : Cm} : ev T (.cmp o a b) e = (ev T a e).bind fun x e1 => (ev T b e1).bind fun y e2 => liftO (cmpD o x y) e2 := by rw [ev]
@[simp] theorem ev_tup : ev T (.tup es) e = (evs T es e).bind fun xs e1 => .ok (.tup xs) e1 := by rw [ev]
@[simp] theorem ev_lst : ev T (.lst es) e = (evs T es e).bind fun xs e1 => .ok (.lst xs) e1 := by rw [ev]
@[simp] theorem ev_sub : ev T (.sub a b) e = (ev T a e).bind fun x e1 => (ev T b e1).bind fun y e2 => liftO (subD x y) e2 := by rw [ev]
@[simp] theorem ev_sl : ev T (.sl a b c) e = (ev T a e).bind fun x e1 => (ev T b e1).bind fun l e2 => (ev T c e2).bind fun h e3 => liftO (slD x l h) e3 := by rw [ev]
@[simp] theorem ev_none : ev T .none e = .ok .non e := by rw [ev]
@[simp] theorem ev_rev : ev T (.rev a) e = (ev T a e).bind fun x e1 => liftO (revD x) e1 := by rw [ev]
@[simp] theorem ev_call {f : Nat} {as : As} : ev T (.call f as) e = (evA T as e).bind fun ds e1 => callR T f as ds e1 := by rw [ev]
@[simp] theorem ev_pr {p : Pr} : ev T (.pr p es) e = (evs T es e).bind fun xs e1 => liftO (primD T.sup p xs) e1 := by rw [ev]
@[simp] theorem ev_me {m : Me} : ev T (.me m a es) e = (ev T a e).bind fun x e0 => if recvD m x then (evs T es e0).bind fun xs e1 => liftO (methD m x xs) e1 else .err := by rw [ev]
@[simp] theorem ev_mu0 {m : Mu} {x : Nat} : ev T (.mu0 m x es) e = mu0R m x (evs T es) e := by rw [ev]
@[simp] theorem ev_comp {own o2 : List Nat} {t : Tg} {it : It} : ev T (.comp own (.last o2 t it c a)) e = (evI T it e).bind fun xs e1 => compD T own t c a xs e1 := by rw [ev] <;> rfl
@[simp] theorem evs_nil : evs T .nil e = .ok [] e := by rw [evs]
@[simp] theorem evs_cons : evs T (.cons a es) e = (ev T a e).bind fun x e1 => (evs T es e1).bind fun xs e2 => .ok (x :: xs) e2 := by rw [evs]
@[simp] theorem evA_nil : evA T .nil e = .ok [] e := by rw [evA]
@[simp] theorem evA_val {r : As} : evA T (.val a r) e = (ev T a e).bind fun x e1 => (evA T r e1).bind fun xs e2 => .ok (x :: xs) e2 := by rw [evA]
theorem evA_io {r : As} : evA T (.io i r) e = (match getV i e with
  | some _ => evA T r e
  | none => .err) := by rw [evA] <;> rfl
@[simp] theorem evI_e : evI T (.e a) e = (ev T a e).bind fun x e1 => liftO (itemsOf x) e1 := by rw [evI]
@[simp] theorem exs_nil : exs T .nil e = .nx e := by rw [exs]
@[simp] theorem exs_cons {s : S} {ss : Ss} : exs T (.cons s ss) e = (ex T s e).next fun e1 => exs T ss e1 := by rw [exs]
@[simp] theorem ex_expr : ex T (.expr a) e = ofR (ev T a e) fun _ e1 => .nx e1 := by rw [ex]
@[simp] theorem ex_ret : ex T (.ret a) e = ofR (ev T a e) fun x e1 => .ret x e1 := by rw [ex]
@[simp] theorem ex_for {t : Tg} {it : It} {b : Ss} : ex T (.for_ t it b) e = ofR (evI T it e) fun xs e1 => forL (bodyF T t b) xs e1 := by rw [ex] <;> rfl
@[simp] theorem ex_whl {b : Ss} : ex T (.whl c b) e = whlF T c b e := by rw [ex] <;> rfl
/-- a condition, then one of two -/
def iteF (T : Tab) (a b : Ss) (k : Bool) (e1 : Env) : Fl := if k then exs T a e1 else exs T b e1
@[simp] theorem iteF_t {a b : Ss} : iteF T a b true e = exs T a e := rfl
@[simp] theorem iteF_f {a b : Ss} : iteF T a b false e = exs T b e := rfl
@[simp] theorem ex_ite {a b : Ss} : ex T (.ite c a b) e = ofR (tr (ev T c) e) (iteF T a b) := by rw [ex] <;> rfl
def asgF (t : Tg) (x : D) (e1 : Env) : Fl := match bindT t x e1 with
    | some e2 => .nx e2
    | none => .err
@[simp] theorem ex_asg {t : Tg} : ex T (.asg t a) e = ofR (ev T a e) (asgF t) := by rw [ex] <;> rfl
@[simp] theorem asgF_nm {d : D} : asgF (.nm i) d e = if i < e.length then .nx (e.set i (some d)) else .err := by
  unfold asgF
  rw [bindT]
  split <;> simp_all
def andF (T : Tab) (b : E) (x : D) (e1 : Env) : R D := match truth x with
    | some true => ev T b e1
    | some false => .ok x e1
    | none => .err
def orF (T : Tab) (b : E) (x : D) (e1 : Env) : R D := match truth x with
    | some true => .ok x e1
    | some false => ev T b e1
    | none => .err
def ieF (T : Tab) (a b : E) (x : D) (e1 : Env) : R D := match truth x with
    | some true => ev T a e1
    | some false => ev T b e1
    | none => .err
@[simp] theorem ev_and : ev T (.and a b) e = (ev T a e).bind (andF T b) := by rw [ev] <;> rfl
@[simp] theorem ev_or : ev T (.or a b) e = (ev T a e).bind (orF T b) := by rw [ev] <;> rfl
@[simp] theorem ev_ite : ev T (.ite c a b) e = (ev T c e).bind (ieF T a b) := by rw [ev] <;> rfl
@[simp] theorem andF_t : andF T b (.bl true) e = ev T b e := rfl
@[simp] theorem andF_f : andF T b (.bl false) e = .ok (.bl false) e := rfl
@[simp] theorem orF_t : orF T b (.bl true) e = .ok (.bl true) e := rfl
@[simp] theorem orF_f : orF T b (.bl false) e = ev T b e := rfl
@[simp] theorem ieF_t : ieF T a b (.bl true) e = ev T a e := rfl
@[simp] theorem ieF_f : ieF T a b (.bl false) e = ev T b e := rfl
end
/-! ### comprehensions -/
section
variable {T : Tab} {f : D → Env → R (List D)} {own : List Nat} {t : Tg} {c a : E}
/-- turns that keep something of the slots -/
theorem turns_inv {I : Env → Prop} {G : D → List D} : ∀ {xs : List D} {e : Env}, (∀ x ∈ xs, ∀ e, I e → ∃ e', f x e = .ok (G x) e' ∧ I e') → I e → ∃ e', turns f xs e = .ok (xs.flatMap G) e' ∧ I e'
  | [], e, _, h => ⟨e, rfl, h⟩
  | x :: xs, e, hf, h => by
    obtain ⟨e1, q1, i1⟩ := hf x List.mem_cons_self e h
    obtain ⟨e2, q2, i2⟩ := turns_inv (xs := xs) (fun y hy => hf y (List.mem_cons_of_mem _ hy)) i1
    refine ⟨e2, ?_, i2⟩
    rw [turns, q1]
    show (turns f xs e1).bind _ = _
    rw [q2]
    rfl
theorem turns_all {I : Env → Prop} {q : D → Prop} : ∀ {xs : List D} {e : Env}, (∀ x ∈ xs, ∀ e, I e → ∃ y e', f x e = .ok [y] e' ∧ I e' ∧ q y) → I e → ∃ ys e', turns f xs e = .ok ys e' ∧ I e' ∧ ys.length = xs.length ∧ ∀ y ∈ ys, q y
  | [], e, _, h => ⟨[], e, rfl, h, rfl, fun _ h => by cases h⟩
  | x :: xs, e, hf, h => by
    obtain ⟨y, e1, q1, i1, p1⟩ := hf x List.mem_cons_self e h
    obtain ⟨ys, e2, q2, i2, l2, p2⟩ := turns_all (xs := xs) (fun y hy => hf y (List.mem_cons_of_mem _ hy)) i1
    refine ⟨y :: ys, e2, ?_, i2, by simp [l2], fun z hz => ?_⟩
    · rw [turns, q1]
      show (turns f xs e1).bind _ = _
      rw [q2]
      rfl
    · rcases List.mem_cons.mp hz with rfl | hz
      · exact p1
      · exact p2 z hz
theorem wipe_length : ∀ (own : List Nat) (e : Env), (wipe own e).length = e.length
  | [], _ => rfl
  | i :: own, e => by
    show ((wipe own e).set i none).length = _
    rw [List.length_set, wipe_length own e]
theorem wipe_get : ∀ (own : List Nat) (e : Env) (i : Nat), (wipe own e)[i]? = if i ∈ own ∧ i < e.length then some none else e[i]?
  | [], _, i => by simp [wipe]
  | j :: own, e, i => by
    show ((wipe own e).set j none)[i]? = _
    rw [List.getElem?_set]
    by_cases h : j = i
    · subst h
      rw [wipe_length]
      by_cases q : j < e.length
      · simp [q]
      · simp [q]
    · rw [if_neg h, wipe_get own e i]
      by_cases h2 : i ∈ own
      · simp [h2]
      · simp [h2, Ne.symm h]
theorem back_length : ∀ (own : List Nat) (e₀ e : Env), (back own e₀ e).length = e.length
  | [], _, _ => rfl
  | i :: own, e₀, e => by
    show ((back own e₀ e).set i _).length = _
    rw [List.length_set, back_length own e₀ e]
theorem back_get : ∀ (own : List Nat) (e₀ e : Env) (i : Nat), (back own e₀ e)[i]? = if i ∈ own ∧ i < e.length then some ((e₀[i]?).getD none) else e[i]?
  | [], _, _, i => by simp [back]
  | j :: own, e₀, e, i => by
    show ((back own e₀ e).set j ((e₀[j]?).getD none))[i]? = _
    rw [List.getElem?_set]
    by_cases h : j = i
    · subst h
      rw [back_length]
      by_cases q : j < e.length
      · simp [q]
      · simp [q]
    · rw [if_neg h, back_get own e₀ e i]
      by_cases h2 : i ∈ own
      · simp [h2]
      · simp [h2, Ne.symm h]
/-- the slots that are not own stand as before: the slots behind are as before -/
theorem back_same {own : List Nat} {e₀ e : Env} (h : wipe own e = wipe own e₀) : back own e₀ e = e₀ := by
  have hl : e.length = e₀.length := by
    have := congrArg List.length h
    rwa [wipe_length, wipe_length] at this
  apply List.ext_getElem?
  intro i
  rw [back_get]
  by_cases hi : i ∈ own ∧ i < e.length
  · rw [if_pos hi, List.getElem?_eq_getElem (by omega : i < e₀.length)]
    rfl
  · rw [if_neg hi]
    have : (wipe own e)[i]? = (wipe own e₀)[i]? := by rw [h]
    rw [wipe_get, wipe_get, if_neg hi, if_neg (by rw [← hl]; exact hi)] at this
    exact this
theorem noExc_ok {α : Type} {x : α} {e : Env} : noExc (R.ok x e) = .ok x e := rfl
/-- a comprehension whose turns change no slot but its own -/
theorem compD_eq {G : D → List D} {xs : List D} {e : Env} (h : ∀ x ∈ xs, ∀ e1, wipe own e1 = wipe own e → ∃ e', compT T own t c a x e1 = .ok (G x) e' ∧ wipe own e' = wipe own e) (hl : (xs.flatMap G).length ≤ SZ) : compD T own t c a xs e = .ok (.lst (xs.flatMap G)) e := by
  obtain ⟨e', q, w⟩ := turns_inv (I := fun e1 => wipe own e1 = wipe own e) h rfl
  unfold compD
  rw [q, noExc_ok]
  show (if (xs.flatMap G).length ≤ SZ then R.ok (xs.flatMap G) e' else R.err).bind _ = _
  rw [if_pos hl]
  show R.ok _ (back own e e') = _
  rw [back_same w]
/-- a turn by its own start: what stands in the own slots does not matter -/
theorem compT_wipe {x : D} {e1 e2 : Env} (h : wipe own e1 = wipe own e2) : compT T own t c a x e1 = compT T own t c a x e2 := by
  unfold compT turnR
  rw [h]
theorem compD_of {G : D → List D} {xs : List D} {e : Env} (h : ∀ x ∈ xs, ∃ e', compT T own t c a x e = .ok (G x) e' ∧ wipe own e' = wipe own e) (hl : (xs.flatMap G).length ≤ SZ) : compD T own t c a xs e = .ok (.lst (xs.flatMap G)) e :=
  compD_eq (fun x hx e1 h1 => by
    rw [compT_wipe h1]
    exact h x hx) hl
/-- a comprehension with turns that change more: some property of the slots is kept -/
theorem compD_inv {I : Env → Prop} {G : D → List D} {xs : List D} {e : Env} (h : ∀ x ∈ xs, ∀ e, I e → ∃ e', compT T own t c a x e = .ok (G x) e' ∧ I e') (hi : I e) (hl : (xs.flatMap G).length ≤ SZ) : ∃ e', compD T own t c a xs e = .ok (.lst (xs.flatMap G)) (back own e e') ∧ I e' := by
  obtain ⟨e', q, w⟩ := turns_inv (f := compT T own t c a) (I := I) h hi
  refine ⟨e', ?_, w⟩
  unfold compD
  rw [q, noExc_ok]
  show (if (xs.flatMap G).length ≤ SZ then R.ok (xs.flatMap G) e' else R.err).bind _ = _
  rw [if_pos hl]
  rfl
/-- items of a list of anything: h tells them; each turn adds what G says -/
theorem turnsA {α : Type} {h : α → D} {I : Env → Prop} {G : α → List D} : ∀ {l : List α} {e : Env}, (∀ x ∈ l, ∀ e, I e → ∃ e', f (h x) e = .ok (G x) e' ∧ I e') → I e → ∃ e', turns f (l.map h) e = .ok (l.flatMap G) e' ∧ I e'
  | [], e, _, q => ⟨e, rfl, q⟩
  | x :: xs, e, hf, q => by
    obtain ⟨e1, q1, i1⟩ := hf x List.mem_cons_self e q
    obtain ⟨e2, q2, i2⟩ := turnsA (l := xs) (fun y hy => hf y (List.mem_cons_of_mem _ hy)) i1
    refine ⟨e2, ?_, i2⟩
    rw [List.map_cons, turns, q1]
    show (turns f (xs.map h) e1).bind _ = _
    rw [q2]
    rfl
theorem compA {α : Type} {h : α → D} {G : α → List D} {l : List α} {e : Env} (hf : ∀ x ∈ l, ∃ e', compT T own t c a (h x) e = .ok (G x) e' ∧ wipe own e' = wipe own e) (hl : (l.flatMap G).length ≤ SZ) : compD T own t c a (l.map h) e = .ok (.lst (l.flatMap G)) e := by
  obtain ⟨e', q, w⟩ := turnsA (f := compT T own t c a) (h := h) (I := fun e1 => wipe own e1 = wipe own e) (G := G) (l := l) (e := e) (fun x hx e1 h1 => by
    rw [compT_wipe h1]
    exact hf x hx) rfl
  unfold compD
  rw [q, noExc_ok]
  show (if (l.flatMap G).length ≤ SZ then R.ok (l.flatMap G) e' else R.err).bind _ = _
  rw [if_pos hl]
  show R.ok _ (back own e e') = _
  rw [back_same w]
/-- [g(x) for x in ..] -/
theorem comp_map {α : Type} {h g : α → D} {l : List α} {e : Env} (hf : ∀ x ∈ l, ∃ e', compT T own t c a (h x) e = .ok [g x] e' ∧ wipe own e' = wipe own e) (hl : l.length ≤ SZ) : compD T own t c a (l.map h) e = .ok (.lst (l.map g)) e := by
  have em : l.flatMap (fun x => [g x]) = l.map g := by
    clear hf hl
    induction l with
    | nil => rfl
    | cons x l ih => rw [List.flatMap_cons, ih]; rfl
  have q := compA (T := T) (own := own) (t := t) (c := c) (a := a) (G := fun x => [g x]) (e := e) hf (by rw [em, List.length_map]; exact hl)
  rw [em] at q
  exact q
theorem flat_filter {α : Type} {g : α → D} {p : α → Bool} : ∀ {l : List α}, l.flatMap (fun x => if p x then [g x] else []) = (l.filter p).map g
  | [] => rfl
  | x :: l => by
    rw [List.flatMap_cons, flat_filter (l := l)]
    by_cases q : p x = true
    · rw [if_pos q, List.filter_cons_of_pos q]; rfl
    · rw [if_neg q, List.filter_cons_of_neg q]; rfl
/-- [g(x) for x in .. if p(x)] -/
theorem comp_filter {α : Type} {h g : α → D} {p : α → Bool} {l : List α} {e : Env} (hf : ∀ x ∈ l, ∃ e', compT T own t c a (h x) e = .ok (if p x then [g x] else []) e' ∧ wipe own e' = wipe own e) (hl : l.length ≤ SZ) : compD T own t c a (l.map h) e = .ok (.lst ((l.filter p).map g)) e := by
  have q := compA (T := T) (own := own) (t := t) (c := c) (a := a) (G := fun x => if p x then [g x] else []) (e := e) hf (by
    rw [flat_filter, List.length_map]
    exact Nat.le_trans (List.length_filter_le _ _) hl)
  rw [flat_filter] at q
  exact q
theorem compD_all {I : Env → Prop} {q : D → Prop} {xs : List D} {e : Env} (h : ∀ x ∈ xs, ∀ e, I e → ∃ y e', compT T own t c a x e = .ok [y] e' ∧ I e' ∧ q y) (hi : I e) (hl : xs.length ≤ SZ) : ∃ ys e', compD T own t c a xs e = .ok (.lst ys) (back own e e') ∧ I e' ∧ ys.length = xs.length ∧ ∀ y ∈ ys, q y := by
  obtain ⟨ys, e', h1, h2, h3, h4⟩ := turns_all (f := compT T own t c a) (I := I) (q := q) h hi
  refine ⟨ys, e', ?_, h2, h3, h4⟩
  unfold compD
  rw [h1, noExc_ok]
  show (if ys.length ≤ SZ then R.ok ys e' else R.err).bind _ = _
  rw [if_pos (by omega)]
  rfl
/-! ### for -/
theorem forL_inv {f : D → Env → Fl} {I : Env → Prop} : ∀ {xs : List D} {e : Env}, (∀ x ∈ xs, ∀ e, I e → ∃ e', f x e = .nx e' ∧ I e') → I e → ∃ e', forL f xs e = .nx e' ∧ I e'
  | [], e, _, h => ⟨e, rfl, h⟩
  | x :: xs, e, hf, h => by
    obtain ⟨e1, q1, i1⟩ := hf x List.mem_cons_self e h
    obtain ⟨e2, q2, i2⟩ := forL_inv (xs := xs) (fun y hy => hf y (List.mem_cons_of_mem _ hy)) i1
    refine ⟨e2, ?_, i2⟩
    rw [forL, q1]
    exact q2
end
/-! ### defs that do the same -/
def runO (T : Tab) (o : Option Fn) (ds : List D) : CR := match o with
  | none => .err
  | some fn => runFn T fn ds
theorem callN_swap {P P' : Prog} (h1 : P.sup = P'.sup) (h2 : P.wf = P'.wf) (h : ∀ (T : Tab) (i : Nat) (ds : List D), runO T P.fns[i]? ds = runO T P'.fns[i]? ds) : ∀ n, callN P n = callN P' n
  | 0 => rfl
  | n + 1 => by
    funext i ds
    show runO ⟨callN P n, P.sup, P.wf⟩ P.fns[i]? ds = runO ⟨callN P' n, P'.sup, P'.wf⟩ P'.fns[i]? ds
    rw [callN_swap h1 h2 h n, h1, h2]
    exact h _ i ds
theorem runO_nil {T : Tab} {fn fn' : Fn} (h1 : fn.np = 0) (h2 : fn'.np = 0) (h : runFn T fn [] = runFn T fn' []) (ds : List D) : runFn T fn ds = runFn T fn' ds := by
  cases ds with
  | nil => exact h
  | cons d r =>
    unfold runFn
    rw [if_neg (by rw [h1]; simp), if_neg (by rw [h2]; simp)]
/-! ### equality of plain data -/
theorem deq_refl {d : D} (h : plain d = true) : deq d d = true := SeqAt.eqv_refl _ (SeqAt.canLay_of_shaped h)
theorem cmp_ne_self {d : D} (h : plain d = true) : cmpD .ne d d = some (.bl false) := by
  show (if plain d && plain d then some (D.bl (!deq d d)) else none) = _
  rw [h, deq_refl h]
  rfl
theorem cmp_eq_self {d : D} (h : plain d = true) : cmpD .eq d d = some (.bl true) := by
  show (if plain d && plain d then some (D.bl (deq d d)) else none) = _
  rw [h, deq_refl h]
  rfl
theorem shapedStrs : ∀ l : List Str, (∀ s ∈ l, plain (.str s) = true) → PyData.canLayAll0 (toPys (l.map .str)) = true ∧ PyData.depthAll (toPys (l.map .str)) = 0
  | [], _ => ⟨rfl, rfl⟩
  | s :: l, h => by
    obtain ⟨h1, h2⟩ := shapedStrs l fun s hs => h s (List.mem_cons_of_mem _ hs)
    have h3 := SeqAt.canLay_of_shaped (h s List.mem_cons_self)
    refine ⟨?_, ?_⟩
    · show (PyData.canLay0 (toPy (.str s)) && PyData.canLayAll0 (toPys (l.map .str))) = true
      rw [h1]
      show (PyData.canLay0 (toPy (.str s)) && true) = true
      rw [Bool.and_true]
      exact h3
    · show max (PyData.depth (.str s)) (PyData.depthAll (toPys (l.map .str))) = 0
      rw [h2]
      rfl
theorem plain_strs {l : List Str} (h : ∀ s ∈ l, plain (.str s) = true) : plain (.tup (l.map .str)) = true ∧ plain (.lst (l.map .str)) = true := by
  obtain ⟨h1, h2⟩ := shapedStrs l h
  refine ⟨?_, ?_⟩
  · show (PyData.canLayAll0 (toPys (l.map .str)) && decide ((PyData.depthAll (toPys (l.map .str)) + 1) ≤ 64)) = true
    rw [h1, h2]
    rfl
  · show (PyData.canLayAll0 (toPys (l.map .str)) && decide ((PyData.depthAll (toPys (l.map .str)) + 1) ≤ 64)) = true
    rw [h1, h2]
    rfl
theorem any_strs {xs : List Bool} : blsD (xs.map D.bl) = some xs := by
  induction xs with
  | nil => rfl
  | cons x xs ih => simp [blsD, ih]
/-! ### calls by value -/
def callV (T : Tab) (f : Nat) (ds : List D) (e : Env) : R D := match T.call f ds with
  | .ok d _ => .ok d e
  | .exc x _ => .exc x e
  | .err => .err
section
variable {T : Tab} {f : Nat} {e : Env} {a b c d : E} {x y z w : D}
theorem callV_ok {ds : List D} {v : D} {fin : Env} (h : T.call f ds = .ok v fin) : callV T f ds e = .ok v e := by
  unfold callV
  rw [h]
theorem callV_exc {ds : List D} {v : D} {fin : Env} (h : T.call f ds = .exc v fin) : callV T f ds e = .exc v e := by
  unfold callV
  rw [h]
def noIo : As → Bool
  | .nil => true
  | .io _ _ => false
  | .val _ r => noIo r
def nArgs : As → Nat
  | .nil => 0
  | .io _ r => nArgs r + 1
  | .val _ r => nArgs r + 1
theorem putA_no : ∀ {as : As} {fs e : Env}, noIo as = true → putA as fs e = e
  | .nil, fs, e, _ => by cases fs <;> rfl
  | .val a r, [], e, _ => rfl
  | .val a r, f :: fs, e, h => putA_no (as := r) (fs := fs) h
  | .io _ _, _, _, h => by cases h
theorem dropA_no : ∀ {as : As} {e : Env}, noIo as = true → dropA as e = e
  | .nil, e, _ => rfl
  | .val a r, e, h => dropA_no (as := r) h
  | .io _ _, _, h => by cases h
theorem gatherA_no : ∀ {as : As} {ds : List D} {e : Env}, noIo as = true → nArgs as = ds.length → gatherA as ds e = some ds
  | .nil, [], e, _, _ => rfl
  | .nil, _ :: _, e, _, h => by cases h
  | .val a r, [], e, _, h => by cases h
  | .val a r, d :: ds, e, h, hl => by
    show (gatherA r ds e).bind (fun m => some (d :: m)) = _
    rw [gatherA_no (as := r) h (Nat.succ.inj hl)]
    rfl
  | .io _ _, _, _, h, _ => by cases h
theorem callR_no {as : As} {ds : List D} (h : noIo as = true) (hl : nArgs as = ds.length) : callR T f as ds e = callV T f ds e := by
  unfold callR callV
  rw [gatherA_no h hl]
  dsimp only
  cases T.call f ds <;> simp only [putA_no h, dropA_no h]
@[simp] theorem callR_0 : callR T f .nil [] e = callV T f [] e := callR_no rfl rfl
@[simp] theorem callR_1 : callR T f (.val a .nil) [x] e = callV T f [x] e := callR_no rfl rfl
@[simp] theorem callR_2 : callR T f (.val a (.val b .nil)) [x, y] e = callV T f [x, y] e := callR_no rfl rfl
@[simp] theorem callR_3 : callR T f (.val a (.val b (.val c .nil))) [x, y, z] e = callV T f [x, y, z] e := callR_no rfl rfl
@[simp] theorem callR_4 : callR T f (.val a (.val b (.val c (.val d .nil)))) [x, y, z, w] e = callV T f [x, y, z, w] e := callR_no rfl rfl
end
def triF (T : Tab) (hs : Hs) (f : Fl) : Fl := match f with
  | .exc x e1 => exh T hs x e1
  | r => r
section
variable {T : Tab} {e e0 : Env} {f : E} {as : As} {g : Nat} {d : D}
@[simp] theorem ex_tri {b : Ss} {hs : Hs} : ex T (.tri b hs) e = triF T hs (exs T b e) := by
  unfold triF
  rw [ex] <;> rfl
@[simp] theorem triF_ret {hs : Hs} : triF T hs (.ret d e) = .ret d e := rfl
@[simp] theorem triF_nx {hs : Hs} : triF T hs (.nx e) = .nx e := rfl
def callvF (T : Tab) (as : As) (x : D) (e0 : Env) : R D := match x with
  | .fn g => (evA T as e0).bind fun ds e1 => callR T g as ds e1
  | _ => .err
@[simp] theorem ev_callv : ev T (.callv f as) e = (ev T f e).bind (callvF T as) := by rw [ev] <;> rfl
@[simp] theorem callvF_fn : callvF T as (.fn g) e = (evA T as e).bind fun ds e1 => callR T g as ds e1 := rfl
end
theorem callN_succ {P : Prog} (n i : Nat) (ds : List D) : callN P (n + 1) i ds = runO ⟨callN P n, P.sup, P.wf⟩ P.fns[i]? ds := rfl
theorem run_ret {T : Tab} {fn : Fn} {ds : List D} {d : D} {e : Env} (hl : ds.length = fn.np) (h : exs T fn.body (start fn ds) = .ret d e) : runFn T fn ds = .ok d (e.take fn.np) := by
  unfold runFn
  rw [if_pos hl, h]
theorem run_nx {T : Tab} {fn : Fn} {ds : List D} {e : Env} (hl : ds.length = fn.np) (h : exs T fn.body (start fn ds) = .nx e) : runFn T fn ds = .ok .non (e.take fn.np) := by
  unfold runFn
  rw [if_pos hl, h]
theorem run_exc {T : Tab} {fn : Fn} {ds : List D} {d : D} {e : Env} (hl : ds.length = fn.np) (h : exs T fn.body (start fn ds) = .exc d e) : runFn T fn ds = .exc d (e.take fn.np) := by
  unfold runFn
  rw [if_pos hl, h]
end VK
set_option Elab.async false
set_option linter.all false
set_option maxHeartbeats 4000000
/-! the laws' draws: _law_draw and _law_take -/
namespace VK
open PySem
def takeB : Ss := (.cons (.ite (.cmp .eq (.sub (.v 0) (.c (.int (2)))) (.c (.int (0)))) (.cons (.set1 false 0 (.c (.int (1))) (.op .add (.sub (.v 0) (.c (.int (1)))) (.c (.int (1))))) (.cons (.ite (.cmp .lt (.sub (.v 0) (.c (.int (1)))) (.pr .len (.cons (.sub (.v 0) (.c (.int (0)))) .nil))) (.cons (.set1 false 0 (.c (.int (2))) (.sub (.sub (.v 0) (.c (.int (0)))) (.sub (.v 0) (.c (.int (1)))))) .nil) .nil) (.cons (.ite (.cmp .eq (.sub (.v 0) (.c (.int (2)))) (.c (.int (0)))) (.cons (.set1 false 0 (.c (.int (3))) (.op .mod (.pr .int (.cons (.op .add (.op .mul (.sub (.v 0) (.c (.int (3)))) (.c (.int (48271)))) (.c (.int (11)))) .nil)) (.c (.int (2147483647))))) (.cons (.set1 false 0 (.c (.int (2))) (.sub (.v 0) (.c (.int (3))))) .nil)) .nil) .nil))) .nil) (.cons (.asg (.nm 2) (.op .mod (.pr .int (.cons (.sub (.v 0) (.c (.int (2)))) .nil)) (.v 1))) (.cons (.set1 false 0 (.c (.int (2))) (.op .fdiv (.sub (.v 0) (.c (.int (2)))) (.v 1))) (.cons (.ret (.v 2)) .nil))))
structure Dst where
  cells : List Int
  at_ : Int
  rest : Int
  seed : Int
def Dst.d (s : Dst) : D := .lst [.lst (s.cells.map .int), .int s.at_, .int s.rest, .int s.seed]
structure Dst.Ok (s : Dst) : Prop where
  cells : ∀ c ∈ s.cells, 0 ≤ c
  at_ : -1 ≤ s.at_
  rest : 0 ≤ s.rest
  seed : 0 ≤ s.seed ∧ s.seed < 2147483647
/-- the rest behind a look for the next one -/
def Dst.step (s : Dst) : Dst := if s.rest = 0 then
    (if (if s.at_ + 1 < s.cells.length then (s.cells[(s.at_ + 1).toNat]?).getD 0 else 0) = 0 then ⟨s.cells, s.at_ + 1, (s.seed * 48271 + 11) % 2147483647, (s.seed * 48271 + 11) % 2147483647⟩
      else ⟨s.cells, s.at_ + 1, (if s.at_ + 1 < s.cells.length then (s.cells[(s.at_ + 1).toNat]?).getD 0 else 0), s.seed⟩)
  else s
def Dst.took (s : Dst) (m : Int) : Int := s.step.rest % m
def Dst.left (s : Dst) (m : Int) : Dst := { s.step with rest := s.step.rest / m }
theorem take_run {T : Tab} {s : Dst} {m : Int} (h : s.Ok) (hm : 1 ≤ m ∧ m < 1000000) : runFn T ⟨2, 3, takeB⟩ [s.d, .int m] = .ok (.int (s.took m)) [some (s.left m).d, some (.int m)] := by
  obtain ⟨cells, a, r, sd⟩ := s
  have hsd := h.seed
  have ha := h.at_
  dsimp only at hsd ha
  have m1 : opD .mul (.int sd) (.int 48271) = some (.int (sd * 48271)) := mul_int (by
    have := log_lt (n := sd.natAbs) (k := 31) (by omega) (by decide)
    have : (48271 : Int).natAbs.log2 < 20 := by decide
    omega)
  have md : ∀ i : Int, opD .mod (.int i) (.int m) = some (.int (i % m)) := fun i => mod_int (by omega)
  have mp : ∀ i : Int, opD .mod (.int i) (.int 2147483647) = some (.int (i % 2147483647)) := fun i => mod_int (by omega)
  have mf : ∀ i : Int, opD .fdiv (.int i) (.int m) = some (.int (i / m)) := fun i => fdiv_int (by omega) (by
    have := log_lt (n := m.natAbs) (k := 31) (by omega) (by decide)
    omega)
  unfold runFn takeB Dst.took Dst.left Dst.d Dst.step
  have g2 : ∀ x y z w : D, L2.atI [x, y, z, w] 2 = some z := fun _ _ _ _ => rfl
  have g1 : ∀ x y z w : D, L2.atI [x, y, z, w] 1 = some y := fun _ _ _ _ => rfl
  have g0 : ∀ x y z w : D, L2.atI [x, y, z, w] 0 = some x := fun _ _ _ _ => rfl
  have g3 : ∀ x y z w : D, L2.atI [x, y, z, w] 3 = some w := fun _ _ _ _ => rfl
  have s1 : ∀ x y z w v : D, setIt (.lst [x, y, z, w]) (.int 1) v = some (.lst [x, v, z, w]) := fun _ _ _ _ _ => rfl
  have s2 : ∀ x y z w v : D, setIt (.lst [x, y, z, w]) (.int 2) v = some (.lst [x, y, v, w]) := fun _ _ _ _ _ => rfl
  have s3 : ∀ x y z w v : D, setIt (.lst [x, y, z, w]) (.int 3) v = some (.lst [x, y, z, v]) := fun _ _ _ _ _ => rfl
  by_cases h0 : r = 0
  · by_cases h1 : a + 1 < cells.length
    · have e : L2.atI (cells.map D.int) (a + 1) = some (.int ((cells[(a + 1).toNat]?).getD 0)) := by
        rw [atI_pos (by omega), List.getElem?_map]
        have : (a + 1).toNat < cells.length := by omega
        rw [List.getElem?_eq_getElem this]
        rfl
      by_cases h2 : (cells[(a + 1).toNat]?).getD 0 = 0
      · simp [start, ex, getV, g0, g1, g2, g3, s1, s2, s3, h0, h1, h2, e, m1, md, mp, mf, bindT, isLst]
      · simp [start, ex, getV, g0, g1, g2, g3, s1, s2, s3, h0, h1, h2, e, m1, md, mp, mf, bindT, isLst]
    · simp [start, ex, getV, g0, g1, g2, g3, s1, s2, s3, h0, h1, m1, md, mp, mf, bindT, isLst]
  · simp [start, ex, getV, g0, g1, g2, g3, s1, s2, s3, h0, md, mf, bindT, isLst]
theorem Dst.step_ok {s : Dst} (h : s.Ok) : s.step.Ok := by
  obtain ⟨cells, a, r, sd⟩ := s
  obtain ⟨h1, h2, h3, h4⟩ := h
  dsimp only at h1 h2 h3 h4
  have hr : 0 ≤ (if a + 1 < cells.length then (cells[(a + 1).toNat]?).getD 0 else 0) := by
    split
    · rename_i q
      have : (a + 1).toNat < cells.length := by omega
      rw [List.getElem?_eq_getElem this]
      exact h1 _ (List.getElem_mem this)
    · exact Int.le_refl _
  have hs : 0 ≤ (sd * 48271 + 11) % 2147483647 ∧ (sd * 48271 + 11) % 2147483647 < 2147483647 := ⟨Int.emod_nonneg _ (by decide), Int.emod_lt_of_pos _ (by decide)⟩
  unfold Dst.step
  dsimp only
  generalize (if a + 1 < (cells.length : Int) then (cells[(a + 1).toNat]?).getD 0 else 0) = x at hr ⊢
  split
  · split
    · exact ⟨h1, by show -1 ≤ a + 1; omega, hs.1, hs⟩
    · exact ⟨h1, by show -1 ≤ a + 1; omega, hr, h4⟩
  · exact ⟨h1, h2, h3, h4⟩
theorem Dst.left_ok {s : Dst} {m : Int} (h : s.Ok) (hm : 1 ≤ m) : (s.left m).Ok := by
  obtain ⟨h1, h2, h3, h4⟩ := s.step_ok h
  exact ⟨h1, h2, Int.ediv_nonneg h3 (by omega), h4⟩
theorem Dst.took_lt {s : Dst} {m : Int} (hm : 1 ≤ m) : 0 ≤ s.took m ∧ s.took m < m := ⟨Int.emod_nonneg _ (by omega), Int.emod_lt_of_pos _ (by omega)⟩
theorem call_take {P : Prog} {n i : Nat} {s : Dst} {m : Int} (hf : P.fns[i]? = some ⟨2, 3, takeB⟩) (h : s.Ok) (hm : 1 ≤ m ∧ m < 1000000) : callN P (n + 1) i [s.d, .int m] = .ok (.int (s.took m)) [some (s.left m).d, some (.int m)] := by
  show (match P.fns[i]? with
    | none => CR.err
    | some fn => runFn ⟨callN P n, P.sup, P.wf⟩ fn _) = _
  rw [hf]
  exact take_run h hm
def drawB : Ss := (.cons (.asg (.nm 1) (.c (.int (7)))) (.cons (.for_ (.nm 2) (.e (.v 0)) (.cons (.asg (.nm 1) (.op .mod (.pr .int (.cons (.op .add (.op .add (.op .mul (.v 1) (.c (.int (48271)))) (.op .mod (.pr .abs (.cons (.pr .int (.cons (.v 2) .nil)) .nil)) (.c (.int (65521))))) (.c (.int (1)))) .nil)) (.c (.int (2147483647))))) .nil)) (.cons (.ret (.lst (.cons (.comp [3, 2] (.last [3, 2] (.nm 2) (.e (.v 0)) (.c (.bl true)) (.pr .abs (.cons (.pr .int (.cons (.v 2) .nil)) .nil)))) (.cons (.neg (.c (.int (1)))) (.cons (.c (.int (0))) (.cons (.v 1) .nil)))))) .nil)))
def drawL : Ss := (.cons (.asg (.nm 1) (.op .mod (.pr .int (.cons (.op .add (.op .add (.op .mul (.v 1) (.c (.int (48271)))) (.op .mod (.pr .abs (.cons (.pr .int (.cons (.v 2) .nil)) .nil)) (.c (.int (65521))))) (.c (.int (1)))) .nil)) (.c (.int (2147483647))))) .nil)
theorem draw_loop {T : Tab} {d : Option D} : ∀ (ns : List Int) (sd : Int) (c : Option D), 0 ≤ sd ∧ sd < 2147483647 → ∃ (sd' : Int) (c' : Option D), (0 ≤ sd' ∧ sd' < 2147483647) ∧
    forL (bodyF T (.nm 2) drawL) (ns.map D.int) [d, some (.int sd), c, none] = .nx [d, some (.int sd'), c', none]
  | [], sd, c, h => ⟨sd, c, h, rfl⟩
  | n :: ns, sd, c, h => by
    have m1 : opD .mul (.int sd) (.int 48271) = some (.int (sd * 48271)) := mul_int (by
      have := log_lt (n := sd.natAbs) (k := 31) (by omega) (by decide)
      have : (48271 : Int).natAbs.log2 < 20 := by decide
      omega)
    have mp : ∀ i : Int, opD .mod (.int i) (.int 2147483647) = some (.int (i % 2147483647)) := fun i => mod_int (by omega)
    have mq : ∀ i : Int, opD .mod (.int i) (.int 65521) = some (.int (i % 65521)) := fun i => mod_int (by omega)
    obtain ⟨sd', c', h1, h2⟩ := draw_loop (T := T) (d := d) ns ((sd * 48271 + (if n < 0 then -n else n) % 65521 + 1) % 2147483647) (some (.int n)) ⟨Int.emod_nonneg _ (by decide), Int.emod_lt_of_pos _ (by decide)⟩
    refine ⟨sd', c', h1, ?_⟩
    rw [← h2, List.map_cons, forL]
    simp [bodyF, bindT, drawL, getV, m1, mp, mq]
/-- _law_draw's answer -/
theorem draw_run {T : Tab} {ns : List Int} (hl : ns.length ≤ 63) : ∃ s : Dst, s.Ok ∧ ∃ fin, runFn T ⟨1, 4, drawB⟩ [.lst (ns.map .int)] = .ok s.d fin := by
  obtain ⟨sd, c, h1, h2⟩ := draw_loop (T := T) (d := some (.lst (ns.map .int))) ns 7 none ⟨by decide, by decide⟩
  have hc : compD T [3, 2] (.nm 2) (.c (.bl true)) (.pr .abs (.cons (.pr .int (.cons (.v 2) .nil)) .nil)) (ns.map D.int) [some (.lst (ns.map .int)), some (.int sd), c, none] = .ok (.lst (ns.map fun n => .int (if n < 0 then -n else n))) [some (.lst (ns.map .int)), some (.int sd), c, none] := by
    refine comp_map (fun n _ => ⟨[some (.lst (ns.map .int)), some (.int sd), some (.int n), none], ?_, rfl⟩) (by unfold SZ; omega)
    simp [compT, turnR, eltR, bindT, wipe, getV]
  refine ⟨⟨ns.map fun n => if n < 0 then -n else n, -1, 0, sd⟩, ⟨?_, by show (-1 : Int) ≤ -1; omega, by show (0 : Int) ≤ 0; omega, h1⟩, ?_⟩
  · intro c hc
    obtain ⟨n, _, rfl⟩ := List.mem_map.mp hc
    split <;> omega
  · have em : (ns.map fun n => D.int (if n < 0 then -n else n)) = (ns.map fun n => if n < 0 then -n else n).map D.int := by
      rw [List.map_map]
      rfl
    rw [em] at hc
    have neg : ev T (.neg (.c (.int 1))) [some (.lst (ns.map .int)), some (.int sd), c, none] = .ok (.int (-1)) [some (.lst (ns.map .int)), some (.int sd), c, none] := by
      rw [ev]
      simp
    refine ⟨[some (.lst (ns.map .int))], ?_⟩
    unfold runFn drawB Dst.d
    have h2' := h2
    unfold drawL at h2'
    simp [start, itemsOf, getV, h2', hc, neg]
theorem call_draw {P : Prog} {n i : Nat} {ns : List Int} (hf : P.fns[i]? = some ⟨1, 4, drawB⟩) (hl : ns.length ≤ 63) : ∃ s : Dst, s.Ok ∧ ∃ fin, callN P (n + 1) i [.lst (ns.map .int)] = .ok s.d fin := by
  obtain ⟨s, h1, fin, h2⟩ := draw_run (T := ⟨callN P n, P.sup, P.wf⟩) hl
  refine ⟨s, h1, fin, ?_⟩
  show (match P.fns[i]? with
    | none => CR.err
    | some fn => runFn ⟨callN P n, P.sup, P.wf⟩ fn _) = _
  rw [hf]
  exact h2
/-- f(draw, m), the draw in slot k -/
theorem ev_take {P : Prog} {T : Tab} {n i k : Nat} {s : Dst} {m : Int} {e : Env} (hT : T.call = callN P (n + 1)) (hf : P.fns[i]? = some ⟨2, 3, takeB⟩) (hk : getV k e = some s.d) (h : s.Ok) (hm : 1 ≤ m ∧ m < 1000000) :
    ev T (.call i (.io k (.val (.c (.int m)) .nil))) e = .ok (.int (s.took m)) (e.set k (some (s.left m).d)) := by
  have c : T.call i [s.d, .int m] = .ok (.int (s.took m)) [some (s.left m).d, some (.int m)] := by
    rw [hT]
    exact call_take hf h hm
  rw [ev_call, evA_io, hk]
  simp
  unfold callR
  have g : gatherA (.io k (.val (.c (.int m)) .nil)) [.int m] e = some [s.d, .int m] := by
    simp [gatherA, hk]
  rw [g]
  dsimp only
  rw [c]
  simp [putA, dropA]
end VK
set_option Elab.async false
set_option linter.all false
set_option maxRecDepth 100000
namespace VK
open PySem PySem.Spec PyProof.Rows L2
def k05Top (i : Nat) : Stmt := PySem.Challenge.pw_viewkinds_k05_arrows_and_chains.main.body.getD i (.Pass ⟨0, 0, 0, 0⟩)
/-- check_word: word -/
def k05B0 : Ss := (.cons (.ite (.or (.not (.pr (.isi [.str]) (.cons (.v 0) .nil))) (.cmp .notin (.v 0) (.c (.tup [(.str "told"), (.str "local"), (.str "slow"), (.str "pram"), (.str "wfr"), (.str "cache"), (.str "proc"), (.str "causal"), (.str "dwo"), (.str "pcaus"), (.str "weakc"), (.str "conv"), (.str "pso"), (.str "tso"), (.str "sc")])))) (.cons (.raise 1 (.cons (.c (.str "no kind")) .nil)) .nil) .nil) .nil)
abbrev k05D0 : Df := ⟨"check_word", ["word"], ["word"], k05Top 5, ⟨[none], 0⟩, k05B0⟩
/-- arrows:  -/
def k05B1 : Ss := (.cons (.ret (.pr .tuple (.cons (.pr .sorted (.cons (.c (.tup [(.tup [(.str "local"), (.str "told")]), (.tup [(.str "weakc"), (.str "told")]), (.tup [(.str "slow"), (.str "local")]), (.tup [(.str "wfr"), (.str "local")]), (.tup [(.str "pram"), (.str "slow")]), (.tup [(.str "cache"), (.str "slow")]), (.tup [(.str "proc"), (.str "pram")]), (.tup [(.str "proc"), (.str "cache")]), (.tup [(.str "causal"), (.str "pram")]), (.tup [(.str "causal"), (.str "wfr")]), (.tup [(.str "causal"), (.str "weakc")]), (.tup [(.str "dwo"), (.str "wfr")]), (.tup [(.str "dwo"), (.str "cache")]), (.tup [(.str "conv"), (.str "cache")]), (.tup [(.str "conv"), (.str "weakc")]), (.tup [(.str "pcaus"), (.str "proc")]), (.tup [(.str "pcaus"), (.str "causal")]), (.tup [(.str "pcaus"), (.str "dwo")]), (.tup [(.str "pcaus"), (.str "conv")]), (.tup [(.str "pso"), (.str "cache")]), (.tup [(.str "tso"), (.str "pso")]), (.tup [(.str "tso"), (.str "conv")]), (.tup [(.str "sc"), (.str "tso")]), (.tup [(.str "sc"), (.str "pcaus")])])) .nil)) .nil))) .nil)
abbrev k05D1 : Df := ⟨"arrows", [], [], k05Top 8, ⟨[], 0⟩, k05B1⟩
/-- chain_between: x y before waiting word one two found -/
def k05B2 : Ss := (.cons (.par (.cons (.nm 2) (.cons (.nm 3) .nil)) (.cons (.dic (.cons (.v 0) (.cons (.c .non) .nil))) (.cons (.lst (.cons (.v 0) .nil)) .nil))) (.cons (.whl (.and (.cmp .gt (.pr .len (.cons (.v 3) .nil)) (.c (.int (0)))) (.cmp .notin (.v 1) (.v 2))) (.cons (.asg (.nm 4) (.mu0 .popAt 3 (.cons (.c (.int (0))) .nil))) (.cons (.for_ (.tp (.cons (.nm 5) (.cons (.nm 6) .nil))) (.e (.c (.tup [(.tup [(.str "local"), (.str "told")]), (.tup [(.str "weakc"), (.str "told")]), (.tup [(.str "slow"), (.str "local")]), (.tup [(.str "wfr"), (.str "local")]), (.tup [(.str "pram"), (.str "slow")]), (.tup [(.str "cache"), (.str "slow")]), (.tup [(.str "proc"), (.str "pram")]), (.tup [(.str "proc"), (.str "cache")]), (.tup [(.str "causal"), (.str "pram")]), (.tup [(.str "causal"), (.str "wfr")]), (.tup [(.str "causal"), (.str "weakc")]), (.tup [(.str "dwo"), (.str "wfr")]), (.tup [(.str "dwo"), (.str "cache")]), (.tup [(.str "conv"), (.str "cache")]), (.tup [(.str "conv"), (.str "weakc")]), (.tup [(.str "pcaus"), (.str "proc")]), (.tup [(.str "pcaus"), (.str "causal")]), (.tup [(.str "pcaus"), (.str "dwo")]), (.tup [(.str "pcaus"), (.str "conv")]), (.tup [(.str "pso"), (.str "cache")]), (.tup [(.str "tso"), (.str "pso")]), (.tup [(.str "tso"), (.str "conv")]), (.tup [(.str "sc"), (.str "tso")]), (.tup [(.str "sc"), (.str "pcaus")])]))) (.cons (.ite (.and (.cmp .eq (.v 5) (.v 4)) (.cmp .notin (.v 6) (.v 2))) (.cons (.set1 false 2 (.v 6) (.v 4)) (.cons (.expr (.mu0 .append 3 (.cons (.v 6) .nil))) .nil)) .nil) .nil)) .nil))) (.cons (.ite (.cmp .notin (.v 1) (.v 2)) (.cons (.ret (.c .non)) .nil) .nil) (.cons (.asg (.nm 7) (.lst (.cons (.v 1) .nil))) (.cons (.whl (.cmp .ne (.sub (.v 7) (.neg (.c (.int (1))))) (.v 0)) (.cons (.expr (.mu0 .append 7 (.cons (.sub (.v 2) (.sub (.v 7) (.neg (.c (.int (1)))))) .nil))) .nil)) (.cons (.ret (.pr .tuple (.cons (.rev (.v 7)) .nil))) .nil))))))
abbrev k05D2 : Df := ⟨"chain_between", ["x", "y", "before", "waiting", "word", "one", "two", "found"], ["x", "y"], k05Top 9, ⟨[none, none], 0⟩, k05B2⟩
/-- check_pair: x y -/
def k05B3 : Ss := (.cons (.expr (.call 0 (.val (.v 0) .nil))) (.cons (.expr (.call 0 (.val (.v 1) .nil))) .nil))
abbrev k05D3 : Df := ⟨"check_pair", ["x", "y"], ["x", "y"], k05Top 10, ⟨[none, none], 0⟩, k05B3⟩
/-- does_force: x y -/
def k05B4 : Ss := (.cons (.expr (.call 3 (.val (.v 0) (.val (.v 1) .nil)))) (.cons (.ret (.cmp .notN (.call 2 (.val (.v 0) (.val (.v 1) .nil))) (.c .non))) .nil))
abbrev k05D4 : Df := ⟨"does_force", ["x", "y"], ["x", "y"], k05Top 11, ⟨[none, none], 0⟩, k05B4⟩
/-- all_forced: x .0 y -/
def k05B5 : Ss := (.cons (.expr (.call 0 (.val (.v 0) .nil))) (.cons (.ret (.pr .tuple (.cons (.comp [1, 2] (.last [1, 2] (.nm 2) (.e (.c (.tup [(.str "told"), (.str "local"), (.str "slow"), (.str "pram"), (.str "wfr"), (.str "cache"), (.str "proc"), (.str "causal"), (.str "dwo"), (.str "pcaus"), (.str "weakc"), (.str "conv"), (.str "pso"), (.str "tso"), (.str "sc")]))) (.cmp .notN (.call 2 (.val (.v 0) (.val (.v 2) .nil))) (.c .non)) (.v 2))) .nil))) .nil))
abbrev k05D5 : Df := ⟨"all_forced", ["x", ".0", "y"], ["x"], k05Top 12, ⟨[none], 0⟩, k05B5⟩
/-- closed: words .0 word y x -/
def k05B6 : Ss := (.cons (.ite (.or (.not (.pr (.isi [.tuple]) (.cons (.v 0) .nil))) (.not (.pr .all (.cons (.comp [1, 2] (.last [1, 2] (.nm 2) (.e (.v 0)) (.c (.bl true)) (.and (.pr (.isi [.str]) (.cons (.v 2) .nil)) (.cmp .inn (.v 2) (.c (.tup [(.str "told"), (.str "local"), (.str "slow"), (.str "pram"), (.str "wfr"), (.str "cache"), (.str "proc"), (.str "causal"), (.str "dwo"), (.str "pcaus"), (.str "weakc"), (.str "conv"), (.str "pso"), (.str "tso"), (.str "sc")])))))) .nil)))) (.cons (.raise 1 (.cons (.c (.str "no words")) .nil)) .nil) .nil) (.cons (.ret (.pr .tuple (.cons (.comp [1, 3] (.last [1, 3] (.nm 3) (.e (.c (.tup [(.str "told"), (.str "local"), (.str "slow"), (.str "pram"), (.str "wfr"), (.str "cache"), (.str "proc"), (.str "causal"), (.str "dwo"), (.str "pcaus"), (.str "weakc"), (.str "conv"), (.str "pso"), (.str "tso"), (.str "sc")]))) (.pr .any (.cons (.comp [1, 4] (.last [1, 4] (.nm 4) (.e (.v 0)) (.c (.bl true)) (.cmp .notN (.call 2 (.val (.v 4) (.val (.v 3) .nil))) (.c .non)))) .nil)) (.v 3))) .nil))) .nil))
abbrev k05D6 : Df := ⟨"closed", ["words", ".0", "word", "y", "x"], ["words"], k05Top 13, ⟨[none], 0⟩, k05B6⟩
/-- _law_draw: script seed cell .0 -/
def k05B7 : Ss := (.cons (.asg (.nm 1) (.c (.int (7)))) (.cons (.for_ (.nm 2) (.e (.v 0)) (.cons (.asg (.nm 1) (.op .mod (.pr .int (.cons (.op .add (.op .add (.op .mul (.v 1) (.c (.int (48271)))) (.op .mod (.pr .abs (.cons (.pr .int (.cons (.v 2) .nil)) .nil)) (.c (.int (65521))))) (.c (.int (1)))) .nil)) (.c (.int (2147483647))))) .nil)) (.cons (.ret (.lst (.cons (.comp [3, 2] (.last [3, 2] (.nm 2) (.e (.v 0)) (.c (.bl true)) (.pr .abs (.cons (.pr .int (.cons (.v 2) .nil)) .nil)))) (.cons (.neg (.c (.int (1)))) (.cons (.c (.int (0))) (.cons (.v 1) .nil)))))) .nil)))
abbrev k05D7 : Df := ⟨"_law_draw", ["script", "seed", "cell", ".0"], ["script"], k05Top 15, ⟨[none], 1⟩, k05B7⟩
/-- _law_take: draw many found -/
def k05B8 : Ss := (.cons (.ite (.cmp .eq (.sub (.v 0) (.c (.int (2)))) (.c (.int (0)))) (.cons (.set1 false 0 (.c (.int (1))) (.op .add (.sub (.v 0) (.c (.int (1)))) (.c (.int (1))))) (.cons (.ite (.cmp .lt (.sub (.v 0) (.c (.int (1)))) (.pr .len (.cons (.sub (.v 0) (.c (.int (0)))) .nil))) (.cons (.set1 false 0 (.c (.int (2))) (.sub (.sub (.v 0) (.c (.int (0)))) (.sub (.v 0) (.c (.int (1)))))) .nil) .nil) (.cons (.ite (.cmp .eq (.sub (.v 0) (.c (.int (2)))) (.c (.int (0)))) (.cons (.set1 false 0 (.c (.int (3))) (.op .mod (.pr .int (.cons (.op .add (.op .mul (.sub (.v 0) (.c (.int (3)))) (.c (.int (48271)))) (.c (.int (11)))) .nil)) (.c (.int (2147483647))))) (.cons (.set1 false 0 (.c (.int (2))) (.sub (.v 0) (.c (.int (3))))) .nil)) .nil) .nil))) .nil) (.cons (.asg (.nm 2) (.op .mod (.pr .int (.cons (.sub (.v 0) (.c (.int (2)))) .nil)) (.v 1))) (.cons (.set1 false 0 (.c (.int (2))) (.op .fdiv (.sub (.v 0) (.c (.int (2)))) (.v 1))) (.cons (.ret (.v 2)) .nil))))
abbrev k05D8 : Df := ⟨"_law_take", ["draw", "many", "found"], ["draw", "many"], k05Top 16, ⟨[some 1, none], 0⟩, k05B8⟩
/-- _law_says: value due -/
def k05B9 : Ss := (.cons (.ret (.and (.pr (.isi [.bool]) (.cons (.v 0) .nil)) (.cmp .eq (.v 0) (.v 1)))) .nil)
abbrev k05D9 : Df := ⟨"_law_says", ["value", "due"], ["value", "due"], k05Top 17, ⟨[none, none], 0⟩, k05B9⟩
/-- _law_words:  -/
def k05B10 : Ss := (.cons (.ret (.me .split (.c (.str "told local slow pram wfr cache proc causal dwo pcaus weakc conv pso tso sc")) (.cons (.c (.str " ")) .nil))) .nil)
abbrev k05D10 : Df := ⟨"_law_words", [], [], k05Top 18, ⟨[], 0⟩, k05B10⟩
/-- _law_arrows: text words .0 k -/
def k05B11 : Ss := (.cons (.asg (.nm 0) (.c (.str "local told weakc told slow local wfr local pram slow cache slow proc pram proc cache causal pram causal wfr causal weakc dwo wfr"))) (.cons (.asg (.nm 0) (.op .add (.v 0) (.c (.str " dwo cache conv cache conv weakc pcaus proc pcaus causal pcaus dwo pcaus conv pso cache tso pso tso conv sc tso sc pcaus")))) (.cons (.asg (.nm 1) (.me .split (.v 0) (.cons (.c (.str " ")) .nil))) (.cons (.ret (.comp [2, 3] (.last [2, 3] (.nm 3) (.rg (.op .fdiv (.pr .len (.cons (.v 1) .nil)) (.c (.int (2))))) (.c (.bl true)) (.tup (.cons (.sub (.v 1) (.op .mul (.c (.int (2))) (.v 3))) (.cons (.sub (.v 1) (.op .add (.op .mul (.c (.int (2))) (.v 3)) (.c (.int (1))))) .nil)))))) .nil))))
abbrev k05D11 : Df := ⟨"_law_arrows", ["text", "words", ".0", "k"], [], k05Top 19, ⟨[], 0⟩, k05B11⟩
/-- _law_reached: x found at one two -/
def k05B12 : Ss := (.cons (.asg (.nm 1) (.lst (.cons (.v 0) .nil))) (.cons (.asg (.nm 2) (.c (.int (0)))) (.cons (.whl (.cmp .lt (.v 2) (.pr .len (.cons (.v 1) .nil))) (.cons (.for_ (.tp (.cons (.nm 3) (.cons (.nm 4) .nil))) (.e (.call 11 .nil)) (.cons (.ite (.and (.cmp .eq (.v 3) (.sub (.v 1) (.v 2))) (.cmp .notin (.v 4) (.v 1))) (.cons (.expr (.mu0 .append 1 (.cons (.v 4) .nil))) .nil) .nil) .nil)) (.cons (.asg (.nm 2) (.op .add (.v 2) (.c (.int (1))))) .nil))) (.cons (.ret (.v 1)) .nil))))
abbrev k05D12 : Df := ⟨"_law_reached", ["x", "found", "at", "one", "two"], ["x"], k05Top 20, ⟨[none], 0⟩, k05B12⟩
/-- _law_told: which x y -/
def k05B13 : Ss := (.cons (.tri (.cons (.ret (.ite (.cmp .eq (.v 0) (.c (.int (0)))) (.call 4 (.val (.v 1) (.val (.v 2) .nil))) (.callv (.sub (.lst (.cons (.c (.fn 5)) (.cons (.c (.fn 6)) .nil))) (.op .sub (.v 0) (.c (.int (1))))) (.val (.v 1) .nil)))) .nil) (.cons 1 none (.cons (.ret (.c (.str "<malformed>"))) .nil) .nil)) .nil)
abbrev k05D13 : Df := ⟨"_law_told", ["which", "x", "y"], ["which", "x", "y"], k05Top 21, ⟨[none, none, none], 0⟩, k05B13⟩
/-- law: script draw turn x reached y words due bad .0 word k -/
def k05B14 : Ss := (.cons (.asg (.nm 1) (.call 7 (.val (.v 0) .nil))) (.cons (.ite (.cmp .ne (.call 1 .nil) (.pr .tuple (.cons (.pr .sorted (.cons (.call 11 .nil) .nil)) .nil))) (.cons (.ret (.c (.bl false))) .nil) .nil) (.cons (.for_ (.nm 2) (.rg (.c (.int (5)))) (.cons (.asg (.nm 3) (.sub (.call 10 .nil) (.call 8 (.io 1 (.val (.c (.int (15))) .nil))))) (.cons (.asg (.nm 4) (.call 12 (.val (.v 3) .nil))) (.cons (.ite (.cmp .ne (.call 13 (.val (.c (.int (1))) (.val (.v 3) (.val (.c (.str "")) .nil)))) (.pr .tuple (.cons (.comp [9, 10] (.last [9, 10] (.nm 10) (.e (.call 10 .nil)) (.cmp .inn (.v 10) (.v 4)) (.v 10))) .nil))) (.cons (.ret (.c (.bl false))) .nil) .nil) (.cons (.for_ (.nm 5) (.e (.call 10 .nil)) (.cons (.ite (.not (.call 9 (.val (.call 13 (.val (.c (.int (0))) (.val (.v 3) (.val (.v 5) .nil)))) (.val (.cmp .inn (.v 5) (.v 4)) .nil)))) (.cons (.ret (.c (.bl false))) .nil) .nil) .nil)) .nil))))) (.cons (.asg (.nm 6) (.pr .tuple (.cons (.comp [9, 11] (.last [9, 11] (.nm 11) (.rg (.call 8 (.io 1 (.val (.c (.int (5))) .nil)))) (.c (.bl true)) (.sub (.call 10 .nil) (.call 8 (.io 1 (.val (.c (.int (15))) .nil)))))) .nil))) (.cons (.asg (.nm 7) (.pr .tuple (.cons (.comp [9, 5] (.last [9, 5] (.nm 5) (.e (.call 10 .nil)) (.pr .any (.cons (.comp [9, 3] (.last [9, 3] (.nm 3) (.e (.v 6)) (.c (.bl true)) (.cmp .inn (.v 5) (.call 12 (.val (.v 3) .nil))))) .nil)) (.v 5))) .nil))) (.cons (.ite (.cmp .ne (.call 13 (.val (.c (.int (2))) (.val (.v 6) (.val (.c (.str "")) .nil)))) (.v 7)) (.cons (.ret (.c (.bl false))) .nil) .nil) (.cons (.for_ (.nm 8) (.e (.lst (.cons (.c (.str "")) (.cons (.c (.str "SC")) (.cons (.c .non) (.cons (.c (.int (5))) (.cons (.tup (.cons (.c (.str "sc")) .nil)) (.cons (.c (.int (0))) (.cons (.c (.bl true)) .nil))))))))) (.cons (.ite (.cmp .ne (.lst (.cons (.call 13 (.val (.c (.int (0))) (.val (.v 8) (.val (.c (.str "sc")) .nil)))) (.cons (.call 13 (.val (.c (.int (0))) (.val (.c (.str "sc")) (.val (.v 8) .nil)))) (.cons (.call 13 (.val (.c (.int (1))) (.val (.v 8) (.val (.c (.str "")) .nil)))) (.cons (.call 13 (.val (.c (.int (2))) (.val (.tup (.cons (.c (.str "sc")) (.cons (.v 8) .nil))) (.val (.c (.str "")) .nil)))) .nil))))) (.op .rep (.lst (.cons (.c (.str "<malformed>")) .nil)) (.c (.int (4))))) (.cons (.ret (.c (.bl false))) .nil) .nil) .nil)) (.cons (.ret (.cmp .eq (.comp [9, 8] (.last [9, 8] (.nm 8) (.e (.lst (.cons (.c .non) (.cons (.c (.str "sc")) (.cons (.lst (.cons (.c (.str "sc")) .nil)) (.cons (.c (.int (5))) .nil)))))) (.c (.bl true)) (.call 13 (.val (.c (.int (2))) (.val (.v 8) (.val (.c (.str "")) .nil)))))) (.op .rep (.lst (.cons (.c (.str "<malformed>")) .nil)) (.c (.int (4)))))) .nil))))))))
abbrev k05D14 : Df := ⟨"law", ["script", "draw", "turn", "x", "reached", "y", "words", "due", "bad", ".0", "word", "k"], ["script"], k05Top 22, ⟨[none], 0⟩, k05B14⟩
def k05ds : List Df := [k05D0, k05D1, k05D2, k05D3, k05D4, k05D5, k05D6, k05D7, k05D8, k05D9, k05D10, k05D11, k05D12, k05D13, k05D14]
def k05cs : List (Str × D) := [("ARROWS", (.tup [(.tup [(.str "local"), (.str "told")]), (.tup [(.str "weakc"), (.str "told")]), (.tup [(.str "slow"), (.str "local")]), (.tup [(.str "wfr"), (.str "local")]), (.tup [(.str "pram"), (.str "slow")]), (.tup [(.str "cache"), (.str "slow")]), (.tup [(.str "proc"), (.str "pram")]), (.tup [(.str "proc"), (.str "cache")]), (.tup [(.str "causal"), (.str "pram")]), (.tup [(.str "causal"), (.str "wfr")]), (.tup [(.str "causal"), (.str "weakc")]), (.tup [(.str "dwo"), (.str "wfr")]), (.tup [(.str "dwo"), (.str "cache")]), (.tup [(.str "conv"), (.str "cache")]), (.tup [(.str "conv"), (.str "weakc")]), (.tup [(.str "pcaus"), (.str "proc")]), (.tup [(.str "pcaus"), (.str "causal")]), (.tup [(.str "pcaus"), (.str "dwo")]), (.tup [(.str "pcaus"), (.str "conv")]), (.tup [(.str "pso"), (.str "cache")]), (.tup [(.str "tso"), (.str "pso")]), (.tup [(.str "tso"), (.str "conv")]), (.tup [(.str "sc"), (.str "tso")]), (.tup [(.str "sc"), (.str "pcaus")])])), ("WORDS", (.tup [(.str "told"), (.str "local"), (.str "slow"), (.str "pram"), (.str "wfr"), (.str "cache"), (.str "proc"), (.str "causal"), (.str "dwo"), (.str "pcaus"), (.str "weakc"), (.str "conv"), (.str "pso"), (.str "tso"), (.str "sc")]))]
def k05cl : Str × Nat := ("Malformed", 1)
theorem k05c0 : chkD (sgsOf k05ds) (gAll k05cs k05cl k05ds) k05D0.N k05D0.P k05D0.st k05D0.sig = true := by decide +kernel
theorem k05b0 : bodyO (gAll k05cs k05cl k05ds) k05D0.N k05D0.st = k05D0.body := by kernel_rfl
theorem k05p0 : BindsP k05D0 := fun _ _ _ _ _ _ us hl => match us, hl with | [_], _ => rfl
theorem k05c1 : chkD (sgsOf k05ds) (gAll k05cs k05cl k05ds) k05D1.N k05D1.P k05D1.st k05D1.sig = true := by decide +kernel
theorem k05b1 : bodyO (gAll k05cs k05cl k05ds) k05D1.N k05D1.st = k05D1.body := by kernel_rfl
theorem k05p1 : BindsP k05D1 := fun _ _ _ _ _ _ us hl => match us, hl with | [], _ => rfl
theorem k05c2 : chkD (sgsOf k05ds) (gAll k05cs k05cl k05ds) k05D2.N k05D2.P k05D2.st k05D2.sig = true := by decide +kernel
theorem k05b2 : bodyO (gAll k05cs k05cl k05ds) k05D2.N k05D2.st = k05D2.body := by kernel_rfl
theorem k05p2 : BindsP k05D2 := fun _ _ _ _ _ _ us hl => match us, hl with | [_, _], _ => rfl
theorem k05c3 : chkD (sgsOf k05ds) (gAll k05cs k05cl k05ds) k05D3.N k05D3.P k05D3.st k05D3.sig = true := by decide +kernel
theorem k05b3 : bodyO (gAll k05cs k05cl k05ds) k05D3.N k05D3.st = k05D3.body := by kernel_rfl
theorem k05p3 : BindsP k05D3 := fun _ _ _ _ _ _ us hl => match us, hl with | [_, _], _ => rfl
theorem k05c4 : chkD (sgsOf k05ds) (gAll k05cs k05cl k05ds) k05D4.N k05D4.P k05D4.st k05D4.sig = true := by decide +kernel
theorem k05b4 : bodyO (gAll k05cs k05cl k05ds) k05D4.N k05D4.st = k05D4.body := by kernel_rfl
theorem k05p4 : BindsP k05D4 := fun _ _ _ _ _ _ us hl => match us, hl with | [_, _], _ => rfl
theorem k05c5 : chkD (sgsOf k05ds) (gAll k05cs k05cl k05ds) k05D5.N k05D5.P k05D5.st k05D5.sig = true := by decide +kernel
theorem k05b5 : bodyO (gAll k05cs k05cl k05ds) k05D5.N k05D5.st = k05D5.body := by kernel_rfl
theorem k05p5 : BindsP k05D5 := fun _ _ _ _ _ _ us hl => match us, hl with | [_], _ => rfl
theorem k05c6 : chkD (sgsOf k05ds) (gAll k05cs k05cl k05ds) k05D6.N k05D6.P k05D6.st k05D6.sig = true := by decide +kernel
theorem k05b6 : bodyO (gAll k05cs k05cl k05ds) k05D6.N k05D6.st = k05D6.body := by kernel_rfl
theorem k05p6 : BindsP k05D6 := fun _ _ _ _ _ _ us hl => match us, hl with | [_], _ => rfl
theorem k05c7 : chkD (sgsOf k05ds) (gAll k05cs k05cl k05ds) k05D7.N k05D7.P k05D7.st k05D7.sig = true := by decide +kernel
theorem k05b7 : bodyO (gAll k05cs k05cl k05ds) k05D7.N k05D7.st = k05D7.body := by kernel_rfl
theorem k05p7 : BindsP k05D7 := fun _ _ _ _ _ _ us hl => match us, hl with | [_], _ => rfl
theorem k05c8 : chkD (sgsOf k05ds) (gAll k05cs k05cl k05ds) k05D8.N k05D8.P k05D8.st k05D8.sig = true := by decide +kernel
theorem k05b8 : bodyO (gAll k05cs k05cl k05ds) k05D8.N k05D8.st = k05D8.body := by kernel_rfl
theorem k05p8 : BindsP k05D8 := fun _ _ _ _ _ _ us hl => match us, hl with | [_, _], _ => rfl
theorem k05c9 : chkD (sgsOf k05ds) (gAll k05cs k05cl k05ds) k05D9.N k05D9.P k05D9.st k05D9.sig = true := by decide +kernel
theorem k05b9 : bodyO (gAll k05cs k05cl k05ds) k05D9.N k05D9.st = k05D9.body := by kernel_rfl
theorem k05p9 : BindsP k05D9 := fun _ _ _ _ _ _ us hl => match us, hl with | [_, _], _ => rfl
theorem k05c10 : chkD (sgsOf k05ds) (gAll k05cs k05cl k05ds) k05D10.N k05D10.P k05D10.st k05D10.sig = true := by decide +kernel
theorem k05b10 : bodyO (gAll k05cs k05cl k05ds) k05D10.N k05D10.st = k05D10.body := by kernel_rfl
theorem k05p10 : BindsP k05D10 := fun _ _ _ _ _ _ us hl => match us, hl with | [], _ => rfl
theorem k05c11 : chkD (sgsOf k05ds) (gAll k05cs k05cl k05ds) k05D11.N k05D11.P k05D11.st k05D11.sig = true := by decide +kernel
theorem k05b11 : bodyO (gAll k05cs k05cl k05ds) k05D11.N k05D11.st = k05D11.body := by kernel_rfl
theorem k05p11 : BindsP k05D11 := fun _ _ _ _ _ _ us hl => match us, hl with | [], _ => rfl
theorem k05c12 : chkD (sgsOf k05ds) (gAll k05cs k05cl k05ds) k05D12.N k05D12.P k05D12.st k05D12.sig = true := by decide +kernel
theorem k05b12 : bodyO (gAll k05cs k05cl k05ds) k05D12.N k05D12.st = k05D12.body := by kernel_rfl
theorem k05p12 : BindsP k05D12 := fun _ _ _ _ _ _ us hl => match us, hl with | [_], _ => rfl
theorem k05c13 : chkD (sgsOf k05ds) (gAll k05cs k05cl k05ds) k05D13.N k05D13.P k05D13.st k05D13.sig = true := by decide +kernel
theorem k05b13 : bodyO (gAll k05cs k05cl k05ds) k05D13.N k05D13.st = k05D13.body := by kernel_rfl
theorem k05p13 : BindsP k05D13 := fun _ _ _ _ _ _ us hl => match us, hl with | [_, _, _], _ => rfl
theorem k05c14 : chkD (sgsOf k05ds) (gAll k05cs k05cl k05ds) k05D14.N k05D14.P k05D14.st k05D14.sig = true := by decide +kernel
theorem k05b14 : bodyO (gAll k05cs k05cl k05ds) k05D14.N k05D14.st = k05D14.body := by kernel_rfl
theorem k05p14 : BindsP k05D14 := fun _ _ _ _ _ _ us hl => match us, hl with | [_], _ => rfl
theorem k05ok : AllD (DfOk (sgsOf k05ds) (gAll k05cs k05cl k05ds)) k05ds := ⟨⟨k05c0, k05b0, k05p0⟩, ⟨k05c1, k05b1, k05p1⟩, ⟨k05c2, k05b2, k05p2⟩, ⟨k05c3, k05b3, k05p3⟩, ⟨k05c4, k05b4, k05p4⟩, ⟨k05c5, k05b5, k05p5⟩, ⟨k05c6, k05b6, k05p6⟩, ⟨k05c7, k05b7, k05p7⟩, ⟨k05c8, k05b8, k05p8⟩, ⟨k05c9, k05b9, k05p9⟩, ⟨k05c10, k05b10, k05p10⟩, ⟨k05c11, k05b11, k05p11⟩, ⟨k05c12, k05b12, k05p12⟩, ⟨k05c13, k05b13, k05p13⟩, ⟨k05c14, k05b14, k05p14⟩, trivial⟩
-- COUNTS defs 15 consts 2 blts 16
-- DEFS check_word arrows chain_between check_pair does_force all_forced closed _law_draw _law_take _law_says _law_words _law_arrows _law_reached _law_told law
-- CLASSES Fault Malformed
end VK
set_option Elab.async false
set_option linter.all false
set_option maxRecDepth 100000
namespace VK
open PySem
def W05 : List Str := ["told", "local", "slow", "pram", "wfr", "cache", "proc", "causal", "dwo", "pcaus", "weakc", "conv", "pso", "tso", "sc"]
def A05 : List (Str × Str) := [("local", "told"), ("weakc", "told"), ("slow", "local"), ("wfr", "local"), ("pram", "slow"), ("cache", "slow"), ("proc", "pram"), ("proc", "cache"), ("causal", "pram"), ("causal", "wfr"), ("causal", "weakc"), ("dwo", "wfr"), ("dwo", "cache"), ("conv", "cache"), ("conv", "weakc"), ("pcaus", "proc"), ("pcaus", "causal"), ("pcaus", "dwo"), ("pcaus", "conv"), ("pso", "cache"), ("tso", "pso"), ("tso", "conv"), ("sc", "tso"), ("sc", "pcaus")]
def w05B : Ss := .cons (.ret (.c (.lst (W05.map .str)))) .nil
def a05B : Ss := .cons (.ret (.c (.lst (A05.map fun a => .tup [.str a.1, .str a.2])))) .nil
def P05 : Prog := mkPr k05ds 1000
def fns05 : List Fn := (((mkPr k05ds 1000).fns.set 10 ⟨0, 0, w05B⟩).set 11 ⟨0, 0, a05B⟩)
def P05' : Prog := { P05 with fns := fns05 }
theorem words_run (T : Tab) : runFn T ⟨0, 0, k05B10⟩ [] = runFn T ⟨0, 0, w05B⟩ [] := by kernel_rfl
theorem arrows_run (T : Tab) : runFn T ⟨0, 4, k05B11⟩ [] = runFn T ⟨0, 0, a05B⟩ [] := by kernel_rfl
theorem swap05 (n : Nat) : callN P05 n = callN P05' n := by
  refine callN_swap (P := P05) (P' := P05') rfl rfl (fun T i ds => ?_) n
  show runO T (mkPr k05ds 1000).fns[i]? ds = runO T (((mkPr k05ds 1000).fns.set 10 ⟨0, 0, w05B⟩).set 11 ⟨0, 0, a05B⟩)[i]? ds
  by_cases h1 : i = 11
  · subst h1
    exact runO_nil (fn := ⟨0, 4, k05B11⟩) (fn' := ⟨0, 0, a05B⟩) rfl rfl (arrows_run T) ds
  · by_cases h2 : i = 10
    · subst h2
      exact runO_nil (fn := ⟨0, 0, k05B10⟩) (fn' := ⟨0, 0, w05B⟩) rfl rfl (words_run T) ds
    · rw [List.getElem?_set_ne (Ne.symm h1), List.getElem?_set_ne (Ne.symm h2)]
def rest05 : Ss := (.cons (.asg (.nm 4) (.call 12 (.val (.v 3) .nil))) (.cons (.ite (.cmp .ne (.call 13 (.val (.c (.int (1))) (.val (.v 3) (.val (.c (.str "")) .nil)))) (.pr .tuple (.cons (.comp [9, 10] (.last [9, 10] (.nm 10) (.e (.call 10 .nil)) (.cmp .inn (.v 10) (.v 4)) (.v 10))) .nil))) (.cons (.ret (.c (.bl false))) .nil) .nil) (.cons (.for_ (.nm 5) (.e (.call 10 .nil)) (.cons (.ite (.not (.call 9 (.val (.call 13 (.val (.c (.int (0))) (.val (.v 3) (.val (.v 5) .nil)))) (.val (.cmp .inn (.v 5) (.v 4)) .nil)))) (.cons (.ret (.c (.bl false))) .nil) .nil) .nil)) .nil)))
def T05 (n : Nat) : Tab := ⟨callN P05' n, fun k c => k == c, 1000⟩
def reach05 (x : Str) : D := match callN P05' 29 12 [.str x] with
  | .ok d _ => d
  | _ => .non
theorem rest05_0 (v0 d tn a4 a5 a6 a7 a8 a9 a10 a11 : Option D) : exs (T05 29) rest05 [v0, d, tn, some (.str "told"), a4, a5, a6, a7, a8, a9, a10, a11] = .nx [v0, d, tn, some (.str "told"), some (reach05 "told"), some (.str "sc"), a6, a7, a8, a9, a10, a11] := by kernel_rfl
theorem rest05_1 (v0 d tn a4 a5 a6 a7 a8 a9 a10 a11 : Option D) : exs (T05 29) rest05 [v0, d, tn, some (.str "local"), a4, a5, a6, a7, a8, a9, a10, a11] = .nx [v0, d, tn, some (.str "local"), some (reach05 "local"), some (.str "sc"), a6, a7, a8, a9, a10, a11] := by kernel_rfl
theorem rest05_2 (v0 d tn a4 a5 a6 a7 a8 a9 a10 a11 : Option D) : exs (T05 29) rest05 [v0, d, tn, some (.str "slow"), a4, a5, a6, a7, a8, a9, a10, a11] = .nx [v0, d, tn, some (.str "slow"), some (reach05 "slow"), some (.str "sc"), a6, a7, a8, a9, a10, a11] := by kernel_rfl
theorem rest05_3 (v0 d tn a4 a5 a6 a7 a8 a9 a10 a11 : Option D) : exs (T05 29) rest05 [v0, d, tn, some (.str "pram"), a4, a5, a6, a7, a8, a9, a10, a11] = .nx [v0, d, tn, some (.str "pram"), some (reach05 "pram"), some (.str "sc"), a6, a7, a8, a9, a10, a11] := by kernel_rfl
theorem rest05_4 (v0 d tn a4 a5 a6 a7 a8 a9 a10 a11 : Option D) : exs (T05 29) rest05 [v0, d, tn, some (.str "wfr"), a4, a5, a6, a7, a8, a9, a10, a11] = .nx [v0, d, tn, some (.str "wfr"), some (reach05 "wfr"), some (.str "sc"), a6, a7, a8, a9, a10, a11] := by kernel_rfl
theorem rest05_5 (v0 d tn a4 a5 a6 a7 a8 a9 a10 a11 : Option D) : exs (T05 29) rest05 [v0, d, tn, some (.str "cache"), a4, a5, a6, a7, a8, a9, a10, a11] = .nx [v0, d, tn, some (.str "cache"), some (reach05 "cache"), some (.str "sc"), a6, a7, a8, a9, a10, a11] := by kernel_rfl
theorem rest05_6 (v0 d tn a4 a5 a6 a7 a8 a9 a10 a11 : Option D) : exs (T05 29) rest05 [v0, d, tn, some (.str "proc"), a4, a5, a6, a7, a8, a9, a10, a11] = .nx [v0, d, tn, some (.str "proc"), some (reach05 "proc"), some (.str "sc"), a6, a7, a8, a9, a10, a11] := by kernel_rfl
theorem rest05_7 (v0 d tn a4 a5 a6 a7 a8 a9 a10 a11 : Option D) : exs (T05 29) rest05 [v0, d, tn, some (.str "causal"), a4, a5, a6, a7, a8, a9, a10, a11] = .nx [v0, d, tn, some (.str "causal"), some (reach05 "causal"), some (.str "sc"), a6, a7, a8, a9, a10, a11] := by kernel_rfl
theorem rest05_8 (v0 d tn a4 a5 a6 a7 a8 a9 a10 a11 : Option D) : exs (T05 29) rest05 [v0, d, tn, some (.str "dwo"), a4, a5, a6, a7, a8, a9, a10, a11] = .nx [v0, d, tn, some (.str "dwo"), some (reach05 "dwo"), some (.str "sc"), a6, a7, a8, a9, a10, a11] := by kernel_rfl
theorem rest05_9 (v0 d tn a4 a5 a6 a7 a8 a9 a10 a11 : Option D) : exs (T05 29) rest05 [v0, d, tn, some (.str "pcaus"), a4, a5, a6, a7, a8, a9, a10, a11] = .nx [v0, d, tn, some (.str "pcaus"), some (reach05 "pcaus"), some (.str "sc"), a6, a7, a8, a9, a10, a11] := by kernel_rfl
theorem rest05_10 (v0 d tn a4 a5 a6 a7 a8 a9 a10 a11 : Option D) : exs (T05 29) rest05 [v0, d, tn, some (.str "weakc"), a4, a5, a6, a7, a8, a9, a10, a11] = .nx [v0, d, tn, some (.str "weakc"), some (reach05 "weakc"), some (.str "sc"), a6, a7, a8, a9, a10, a11] := by kernel_rfl
theorem rest05_11 (v0 d tn a4 a5 a6 a7 a8 a9 a10 a11 : Option D) : exs (T05 29) rest05 [v0, d, tn, some (.str "conv"), a4, a5, a6, a7, a8, a9, a10, a11] = .nx [v0, d, tn, some (.str "conv"), some (reach05 "conv"), some (.str "sc"), a6, a7, a8, a9, a10, a11] := by kernel_rfl
theorem rest05_12 (v0 d tn a4 a5 a6 a7 a8 a9 a10 a11 : Option D) : exs (T05 29) rest05 [v0, d, tn, some (.str "pso"), a4, a5, a6, a7, a8, a9, a10, a11] = .nx [v0, d, tn, some (.str "pso"), some (reach05 "pso"), some (.str "sc"), a6, a7, a8, a9, a10, a11] := by kernel_rfl
theorem rest05_13 (v0 d tn a4 a5 a6 a7 a8 a9 a10 a11 : Option D) : exs (T05 29) rest05 [v0, d, tn, some (.str "tso"), a4, a5, a6, a7, a8, a9, a10, a11] = .nx [v0, d, tn, some (.str "tso"), some (reach05 "tso"), some (.str "sc"), a6, a7, a8, a9, a10, a11] := by kernel_rfl
theorem rest05_14 (v0 d tn a4 a5 a6 a7 a8 a9 a10 a11 : Option D) : exs (T05 29) rest05 [v0, d, tn, some (.str "sc"), a4, a5, a6, a7, a8, a9, a10, a11] = .nx [v0, d, tn, some (.str "sc"), some (reach05 "sc"), some (.str "sc"), a6, a7, a8, a9, a10, a11] := by kernel_rfl
theorem rest05_all {x : Str} (h : x ∈ W05) (v0 d tn a4 a5 a6 a7 a8 a9 a10 a11 : Option D) : exs (T05 29) rest05 [v0, d, tn, some (.str x), a4, a5, a6, a7, a8, a9, a10, a11] = .nx [v0, d, tn, some (.str x), some (reach05 x), some (.str "sc"), a6, a7, a8, a9, a10, a11] := by
  unfold W05 at h
  simp only [List.mem_cons, List.not_mem_nil, or_false] at h
  rcases h with rfl | rfl | rfl | rfl | rfl | rfl | rfl | rfl | rfl | rfl | rfl | rfl | rfl | rfl | rfl
  · exact rest05_0 ..
  · exact rest05_1 ..
  · exact rest05_2 ..
  · exact rest05_3 ..
  · exact rest05_4 ..
  · exact rest05_5 ..
  · exact rest05_6 ..
  · exact rest05_7 ..
  · exact rest05_8 ..
  · exact rest05_9 ..
  · exact rest05_10 ..
  · exact rest05_11 ..
  · exact rest05_12 ..
  · exact rest05_13 ..
  · exact rest05_14 ..
/-- a chain from one to another word -/
def chain05 (x y : Str) : D := match callN P05' 27 2 [.str x, .str y] with
  | .ok d _ => d
  | _ => .non
def F05 (x y : Str) : Bool := !isNonD (chain05 x y)
def okR (r : CR) : Bool := match r with
  | .ok _ _ => true
  | _ => false
/-- by words: the chains are found; what is reached is what is forced; a word is a text of moderate size -/
def tabx (x : Str) : Bool := plain (.str x) && okR (callN P05' 29 12 [.str x]) && W05.all fun y => okR (callN P05' 27 2 [.str x, .str y]) && (match memD (.str y) (reach05 x) with
  | some b => b == F05 x y
  | none => false)
theorem tab05_0 : tabx "told" = true := by kernel_rfl
theorem tab05_1 : tabx "local" = true := by kernel_rfl
theorem tab05_2 : tabx "slow" = true := by kernel_rfl
theorem tab05_3 : tabx "pram" = true := by kernel_rfl
theorem tab05_4 : tabx "wfr" = true := by kernel_rfl
theorem tab05_5 : tabx "cache" = true := by kernel_rfl
theorem tab05_6 : tabx "proc" = true := by kernel_rfl
theorem tab05_7 : tabx "causal" = true := by kernel_rfl
theorem tab05_8 : tabx "dwo" = true := by kernel_rfl
theorem tab05_9 : tabx "pcaus" = true := by kernel_rfl
theorem tab05_10 : tabx "weakc" = true := by kernel_rfl
theorem tab05_11 : tabx "conv" = true := by kernel_rfl
theorem tab05_12 : tabx "pso" = true := by kernel_rfl
theorem tab05_13 : tabx "tso" = true := by kernel_rfl
theorem tab05_14 : tabx "sc" = true := by kernel_rfl
theorem tab05_ok {x : Str} (h : x ∈ W05) : tabx x = true := by
  unfold W05 at h
  simp only [List.mem_cons, List.not_mem_nil, or_false] at h
  rcases h with rfl | rfl | rfl | rfl | rfl | rfl | rfl | rfl | rfl | rfl | rfl | rfl | rfl | rfl | rfl
  · exact tab05_0
  · exact tab05_1
  · exact tab05_2
  · exact tab05_3
  · exact tab05_4
  · exact tab05_5
  · exact tab05_6
  · exact tab05_7
  · exact tab05_8
  · exact tab05_9
  · exact tab05_10
  · exact tab05_11
  · exact tab05_12
  · exact tab05_13
  · exact tab05_14
theorem tab05_get {x : Str} (hx : x ∈ W05) : plain (.str x) = true ∧ (∃ fin, callN P05' 29 12 [.str x] = .ok (reach05 x) fin) ∧ ∀ y ∈ W05, (∃ fin, callN P05' 27 2 [.str x, .str y] = .ok (chain05 x y) fin) ∧ memD (.str y) (reach05 x) = some (F05 x y) := by
  have h := tab05_ok hx
  unfold tabx at h
  simp only [Bool.and_eq_true, List.all_eq_true] at h
  obtain ⟨⟨h1, h2⟩, h3⟩ := h
  refine ⟨h1, ?_, fun y hy => ⟨?_, ?_⟩⟩
  · unfold reach05
    cases hc : callN P05' 29 12 [.str x] with
    | ok d fin => exact ⟨fin, rfl⟩
    | exc x e => rw [hc] at h2; cases h2
    | err => rw [hc] at h2; cases h2
  · have h4 := (h3 y hy).1
    unfold chain05
    cases hc : callN P05' 27 2 [.str x, .str y] with
    | ok d fin => exact ⟨fin, rfl⟩
    | exc x e => rw [hc] at h4; cases h4
    | err => rw [hc] at h4; cases h4
  · have h4 := (h3 y hy).2
    cases hm : memD (.str y) (reach05 x) with
    | none => rw [hm] at h4; cases h4
    | some b =>
      rw [hm] at h4
      have : b = F05 x y := by simpa using h4
      rw [this]
end VK
set_option Elab.async false
set_option linter.all false
set_option maxRecDepth 100000
namespace VK
open PySem
/-- the words that some words force, in order -/
def due05 (ws : List Str) : List Str := W05.filter fun y => ws.any fun x => F05 x y
theorem due05_plain (ws : List Str) : plain (.tup ((due05 ws).map .str)) = true := (plain_strs fun s hs => (tab05_get (List.mem_filter.mp hs).1).1).1
theorem fn05_6 : P05'.fns[6]? = some ⟨1, 5, k05B6⟩ := rfl
theorem fn05_13 : P05'.fns[13]? = some ⟨3, 3, k05B13⟩ := rfl
theorem mem05 {x : Str} (h : x ∈ W05) : memD (.str x) (.tup (W05.map .str)) = some true := by
  unfold W05 at h
  simp only [List.mem_cons, List.not_mem_nil, or_false] at h
  rcases h with rfl | rfl | rfl | rfl | rfl | rfl | rfl | rfl | rfl | rfl | rfl | rfl | rfl | rfl | rfl <;> decide +kernel
theorem isi_tup {sup : Nat → Nat → Bool} {xs : List D} : primD sup (.isi [.tuple]) [.tup xs] = some (.bl true) := rfl
theorem isi_str {sup : Nat → Nat → Bool} {x : Str} : primD sup (.isi [.str]) [.str x] = some (.bl true) := rfl
theorem closed05 {ws : List Str} (h : ∀ x ∈ ws, x ∈ W05) (hl : ws.length ≤ 63) : ∃ fin, runFn (T05 27) ⟨1, 5, k05B6⟩ [.tup (ws.map .str)] = .ok (.tup ((due05 ws).map .str)) fin := by
  have c1 : compD (T05 27) [1, 2] (.nm 2) (.c (.bl true)) (.and (.pr (.isi [.str]) (.cons (.v 2) .nil)) (.cmp .inn (.v 2) (.c (.tup (W05.map .str))))) (ws.map .str) [some (.tup (ws.map .str)), none, none, none, none] = .ok (.lst ((ws.map fun _ => true).map .bl)) [some (.tup (ws.map .str)), none, none, none, none] := by
    rw [List.map_map]
    refine comp_map (fun x hx => ⟨[some (.tup (ws.map .str)), none, some (.str x), none, none], ?_, rfl⟩) (by unfold SZ; omega)
    simp [compT, turnR, eltR, bindT, wipe, getV, isi_str, cmpD, mem05 (h x hx)]
  have c2 : ∀ y ∈ W05, compD (T05 27) [1, 4] (.nm 4) (.c (.bl true)) (.cmp .notN (.call 2 (.val (.v 4) (.val (.v 3) .nil))) (.c .non)) (ws.map .str) [some (.tup (ws.map .str)), none, none, some (.str y), none] = .ok (.lst ((ws.map fun x => F05 x y).map .bl)) [some (.tup (ws.map .str)), none, none, some (.str y), none] := by
    intro y hy
    rw [List.map_map]
    refine comp_map (fun x hx => ⟨[some (.tup (ws.map .str)), none, none, some (.str y), some (.str x)], ?_, rfl⟩) (by unfold SZ; omega)
    obtain ⟨fin, hc⟩ := ((tab05_get (h x hx)).2.2 y hy).1
    have hc' : ∀ e, callV (T05 27) 2 [.str x, .str y] e = .ok (chain05 x y) e := fun e => callV_ok hc
    simp [compT, turnR, eltR, bindT, wipe, getV, hc', cmpD, F05, isNonD]
  have c3 : compD (T05 27) [1, 3] (.nm 3) (.pr .any (.cons (.comp [1, 4] (.last [1, 4] (.nm 4) (.e (.v 0)) (.c (.bl true)) (.cmp .notN (.call 2 (.val (.v 4) (.val (.v 3) .nil))) (.c .non)))) .nil)) (.v 3) (W05.map .str) [some (.tup (ws.map .str)), none, none, none, none] = .ok (.lst ((due05 ws).map .str)) [some (.tup (ws.map .str)), none, none, none, none] := by
    refine comp_filter (fun y hy => ⟨[some (.tup (ws.map .str)), none, none, some (.str y), none], ?_, rfl⟩) (by decide)
    have e : primD (T05 27).sup .any [.lst ((ws.map fun x => F05 x y).map .bl)] = some (.bl (ws.any fun x => F05 x y)) := by
      show (blsD _).map _ = _
      rw [any_strs]
      show some (D.bl (((ws.map fun x => F05 x y)).any id)) = _
      rw [List.any_map]
      rfl
    generalize (ws.any fun x => F05 x y) = k at e ⊢
    cases k <;> simp [compT, turnR, eltR, bindT, wipe, getV, itemsOf, c2 y hy, e, -List.map_map]
  have e1 : primD (T05 27).sup .all [.lst ((ws.map fun _ => true).map .bl)] = some (.bl true) := by
    show (blsD _).map _ = _
    rw [any_strs]
    show some (D.bl ((ws.map fun _ => true).all id)) = _
    rw [List.all_map]
    simp
  have w : D.tup (W05.map .str) = .tup [.str "told", .str "local", .str "slow", .str "pram", .str "wfr", .str "cache", .str "proc", .str "causal", .str "dwo", .str "pcaus", .str "weakc", .str "conv", .str "pso", .str "tso", .str "sc"] := rfl
  refine ⟨[some (.tup (ws.map .str))], ?_⟩
  unfold runFn k05B6
  rw [← w]
  simp [start, getV, itemsOf, isi_tup, c1, c3, e1, -List.map_map]
end VK
set_option Elab.async false
set_option linter.all false
set_option maxRecDepth 100000
set_option maxHeartbeats 4000000
namespace VK
open PySem
theorem fn05_8 : P05'.fns[8]? = some ⟨2, 3, takeB⟩ := rfl
theorem fn05_7 : P05'.fns[7]? = some ⟨1, 4, drawB⟩ := rfl
theorem call05 (n i : Nat) (ds : List D) : callN P05' (n + 1) i ds = runO (T05 n) P05'.fns[i]? ds := rfl
theorem T05_call (n : Nat) : (T05 n).call = callN P05' n := rfl
theorem words05 (n : Nat) (e : Env) : callV (T05 (n + 1)) 10 [] e = .ok (.lst (W05.map .str)) e := rfl
theorem pick05 {s : Dst} : ∃ x ∈ W05, L2.atI (W05.map D.str) (s.took 15) = some (.str x) := by
  have h := s.took_lt (m := 15) (by decide)
  have hl : (s.took 15).toNat < W05.length := by
    show _ < 15
    omega
  refine ⟨W05[(s.took 15).toNat], List.getElem_mem hl, ?_⟩
  rw [atI_pos h.1, List.getElem?_map, List.getElem?_eq_getElem hl]
  rfl
theorem told05 {ws : List Str} (h : ∀ x ∈ ws, x ∈ W05) (hl : ws.length ≤ 63) (e : Env) : callV (T05 29) 13 [.int 2, .tup (ws.map .str), .str ""] e = .ok (.tup ((due05 ws).map .str)) e := by
  obtain ⟨fin, hc⟩ := closed05 h hl
  have c : ∀ e, callV (T05 28) 6 [.tup (ws.map .str)] e = .ok (.tup ((due05 ws).map .str)) e := fun e => callV_ok (fin := fin) (by
    rw [T05_call]
    refine (call05 27 6 _).trans ?_
    rw [fn05_6]
    exact hc)
  refine callV_ok (fin := [some (.int 2), some (.tup (ws.map .str)), some (.str "")]) ?_
  rw [T05_call]
  refine (call05 28 13 _).trans ?_
  rw [fn05_13]
  have g : ∀ x y : D, L2.atI [x, y] 1 = some y := fun _ _ => rfl
  show runFn _ _ _ = _
  unfold runFn k05B13
  simp [start, getV, g, c, -List.map_map]
/-- the first turns' body: x is drawn -/
def turn05 : Ss := .cons (.asg (.nm 3) (.sub (.call 10 .nil) (.call 8 (.io 1 (.val (.c (.int (15))) .nil))))) rest05
theorem turn05_ok {L a2 a3 a4 a5 : Option D} {s : Dst} (h : s.Ok) (x : D) : ∃ (s' : Dst) (b3 b4 b5 : Option D), s'.Ok ∧ bodyF (T05 29) (.nm 2) turn05 x [L, some s.d, a2, a3, a4, a5, none, none, none, none, none, none] = .nx [L, some s'.d, some x, b3, b4, b5, none, none, none, none, none, none] := by
  obtain ⟨w, hw, hp⟩ := pick05 (s := s)
  refine ⟨s.left 15, some (.str w), some (reach05 w), some (.str "sc"), s.left_ok h (by decide), ?_⟩
  have t := ev_take (T := T05 29) (i := 8) (k := 1) (e := [L, some s.d, some x, a3, a4, a5, none, none, none, none, none, none]) rfl fn05_8 (by rfl) h (m := 15) (by decide)
  have r := rest05_all hw L (some (s.left 15).d) (some x) a4 a5 none none none none none none
  have c10 : ∀ e, ev (T05 29) (.call 10 .nil) e = .ok (.lst (W05.map .str)) e := fun e => by
    rw [ev_call]
    simp [words05]
  have x1 : ex (T05 29) (.asg (.nm 3) (.sub (.call 10 .nil) (.call 8 (.io 1 (.val (.c (.int (15))) .nil))))) [L, some s.d, some x, a3, a4, a5, none, none, none, none, none, none] = .nx [L, some (s.left 15).d, some x, some (.str w), a4, a5, none, none, none, none, none, none] := by
    rw [ex_asg, ev_sub, c10, rbind_ok, t, rbind_ok, subD_lst, hp]
    rfl
  show exs (T05 29) (.cons _ rest05) [L, some s.d, some x, a3, a4, a5, none, none, none, none, none, none] = _
  rw [exs_cons, x1]
  exact r
def end05 : Ss := (.cons (.for_ (.nm 8) (.e (.lst (.cons (.c (.str "")) (.cons (.c (.str "SC")) (.cons (.c .non) (.cons (.c (.int (5))) (.cons (.tup (.cons (.c (.str "sc")) .nil)) (.cons (.c (.int (0))) (.cons (.c (.bl true)) .nil))))))))) (.cons (.ite (.cmp .ne (.lst (.cons (.call 13 (.val (.c (.int (0))) (.val (.v 8) (.val (.c (.str "sc")) .nil)))) (.cons (.call 13 (.val (.c (.int (0))) (.val (.c (.str "sc")) (.val (.v 8) .nil)))) (.cons (.call 13 (.val (.c (.int (1))) (.val (.v 8) (.val (.c (.str "")) .nil)))) (.cons (.call 13 (.val (.c (.int (2))) (.val (.tup (.cons (.c (.str "sc")) (.cons (.v 8) .nil))) (.val (.c (.str "")) .nil)))) .nil))))) (.op .rep (.lst (.cons (.c (.str "<malformed>")) .nil)) (.c (.int (4))))) (.cons (.ret (.c (.bl false))) .nil) .nil) .nil)) (.cons (.ret (.cmp .eq (.comp [9, 8] (.last [9, 8] (.nm 8) (.e (.lst (.cons (.c .non) (.cons (.c (.str "sc")) (.cons (.lst (.cons (.c (.str "sc")) .nil)) (.cons (.c (.int (5))) .nil)))))) (.c (.bl true)) (.call 13 (.val (.c (.int (2))) (.val (.v 8) (.val (.c (.str "")) .nil)))))) (.op .rep (.lst (.cons (.c (.str "<malformed>")) .nil)) (.c (.int (4)))))) .nil))
theorem end05_ok (a0 a1 a2 a3 a4 a5 a6 a7 a8 a9 a10 a11 : Option D) : exs (T05 29) end05 [a0, a1, a2, a3, a4, a5, a6, a7, a8, a9, a10, a11] = .ret (.bl true) [a0, a1, a2, a3, a4, a5, a6, a7, some (.bl true), a9, a10, a11] := by kernel_rfl
theorem arrows05 (e : Env) : ev (T05 29) (.cmp .ne (.call 1 .nil) (.pr .tuple (.cons (.pr .sorted (.cons (.call 11 .nil) .nil)) .nil))) e = .ok (.bl false) e := by kernel_rfl
/-- the words drawn -/
theorem drawn05 {L a2 a3 a4 a5 : Option D} {s : Dst} (h : s.Ok) : ∃ (s' : Dst) (ws : List Str), s'.Ok ∧ (∀ x ∈ ws, x ∈ W05) ∧ ws.length ≤ 4 ∧
    ev (T05 29) (.comp [9, 11] (.last [9, 11] (.nm 11) (.rg (.call 8 (.io 1 (.val (.c (.int (5))) .nil)))) (.c (.bl true)) (.sub (.call 10 .nil) (.call 8 (.io 1 (.val (.c (.int (15))) .nil)))))) [L, some s.d, a2, a3, a4, a5, none, none, none, none, none, none] =
      .ok (.lst (ws.map .str)) [L, some s'.d, a2, a3, a4, a5, none, none, none, none, none, none] := by
  have t := ev_take (T := T05 29) (i := 8) (k := 1) (e := [L, some s.d, a2, a3, a4, a5, none, none, none, none, none, none]) rfl fn05_8 (by rfl) h (m := 5) (by decide)
  have ht := s.took_lt (m := 5) (by decide)
  obtain ⟨ys, e', q1, ⟨s', b9, b11, h', rfl⟩, q3, q4⟩ := compD_all (T := T05 29) (own := [9, 11]) (t := .nm 11) (c := .c (.bl true)) (a := .sub (.call 10 .nil) (.call 8 (.io 1 (.val (.c (.int (15))) .nil)))) (xs := rangeL 0 (s.took 5)) (e := [L, some (s.left 5).d, a2, a3, a4, a5, none, none, none, none, none, none])
    (I := fun e => ∃ (s : Dst) (b9 b11 : Option D), s.Ok ∧ e = [L, some s.d, a2, a3, a4, a5, none, none, none, b9, none, b11]) (q := fun y => ∃ x ∈ W05, y = .str x) (by
      rintro x _ e ⟨s1, b9, b11, h1, rfl⟩
      obtain ⟨w, hw, hp⟩ := pick05 (s := s1)
      have t := ev_take (T := T05 29) (i := 8) (k := 1) (e := [L, some s1.d, a2, a3, a4, a5, none, none, none, none, none, some x]) rfl fn05_8 (by rfl) h1 (m := 15) (by decide)
      refine ⟨.str w, [L, some (s1.left 15).d, a2, a3, a4, a5, none, none, none, none, none, some x], ?_, ⟨s1.left 15, none, some x, s1.left_ok h1 (by decide), rfl⟩, w, hw, rfl⟩
      have c10 : ∀ e, ev (T05 29) (.call 10 .nil) e = .ok (.lst (W05.map .str)) e := fun e => by
        rw [ev_call]
        simp [words05]
      simp [compT, turnR, eltR, bindT, wipe, c10, t, hp, -ev_call]) ⟨s.left 5, none, none, s.left_ok h (by decide), rfl⟩ (by
      unfold rangeL SZ
      rw [List.length_map, List.length_range]
      omega)
  have hw : ∃ ws : List Str, ys = ws.map .str ∧ ∀ x ∈ ws, x ∈ W05 := by
    clear q1 q3
    induction ys with
    | nil => exact ⟨[], rfl, fun _ h => by cases h⟩
    | cons y ys ih =>
      obtain ⟨ws, e1, e2⟩ := ih fun z hz => q4 z (List.mem_cons_of_mem _ hz)
      obtain ⟨x, hx, e3⟩ := q4 y List.mem_cons_self
      refine ⟨x :: ws, by rw [e1, e3]; rfl, fun z hz => ?_⟩
      rcases List.mem_cons.mp hz with rfl | hz
      · exact hx
      · exact e2 z hz
  obtain ⟨ws, rfl, hw⟩ := hw
  have hn : (rangeL 0 (s.took 5)).length ≤ 4 := by
    unfold rangeL
    rw [List.length_map, List.length_range]
    omega
  refine ⟨s', ws, h', hw, by rw [List.length_map] at q3; omega, ?_⟩
  have rg : rgOk 0 (s.took 5) = true := by
    unfold rgOk
    exact decide_eq_true (by omega)
  have i : evI (T05 29) (.rg (.call 8 (.io 1 (.val (.c (.int (5))) .nil)))) [L, some s.d, a2, a3, a4, a5, none, none, none, none, none, none] = .ok (rangeL 0 (s.took 5)) [L, some (s.left 5).d, a2, a3, a4, a5, none, none, none, none, none, none] := by
    rw [evI, t]
    simp [rg]
  rw [ev_comp, i]
  simp [q1, back]
/-- what is due by the law's own words -/
theorem own05 {ws : List Str} (h : ∀ x ∈ ws, x ∈ W05) (hl : ws.length ≤ 63) {a0 a1 a2 a3 a4 a5 : Option D} : ev (T05 29) (.pr .tuple (.cons (.comp [9, 5] (.last [9, 5] (.nm 5) (.e (.call 10 .nil)) (.pr .any (.cons (.comp [9, 3] (.last [9, 3] (.nm 3) (.e (.v 6)) (.c (.bl true)) (.cmp .inn (.v 5) (.call 12 (.val (.v 3) .nil))))) .nil)) (.v 5))) .nil)) [a0, a1, a2, a3, a4, a5, some (.tup (ws.map .str)), none, none, none, none, none] =
    .ok (.tup ((due05 ws).map .str)) [a0, a1, a2, a3, a4, a5, some (.tup (ws.map .str)), none, none, none, none, none] := by
  have c2 : ∀ y ∈ W05, compD (T05 29) [9, 3] (.nm 3) (.c (.bl true)) (.cmp .inn (.v 5) (.call 12 (.val (.v 3) .nil))) (ws.map .str) [a0, a1, a2, a3, a4, some (.str y), some (.tup (ws.map .str)), none, none, none, none, none] = .ok (.lst ((ws.map fun x => F05 x y).map .bl)) [a0, a1, a2, a3, a4, some (.str y), some (.tup (ws.map .str)), none, none, none, none, none] := by
    intro y hy
    rw [List.map_map]
    refine comp_map (fun x hx => ⟨[a0, a1, a2, some (.str x), a4, some (.str y), some (.tup (ws.map .str)), none, none, none, none, none], ?_, rfl⟩) (by unfold SZ; omega)
    obtain ⟨_, ⟨fin, hc⟩, h3⟩ := tab05_get (h x hx)
    have hm := (h3 y hy).2
    have hc' : ∀ e, callV (T05 29) 12 [.str x] e = .ok (reach05 x) e := fun e => callV_ok hc
    have hm' : cmpD .inn (.str y) (reach05 x) = some (.bl (F05 x y)) := by
      show (memD (.str y) (reach05 x)).map D.bl = _
      rw [hm]
      rfl
    simp [compT, turnR, eltR, bindT, wipe, getV, hc', hm']
  have c3 : compD (T05 29) [9, 5] (.nm 5) (.pr .any (.cons (.comp [9, 3] (.last [9, 3] (.nm 3) (.e (.v 6)) (.c (.bl true)) (.cmp .inn (.v 5) (.call 12 (.val (.v 3) .nil))))) .nil)) (.v 5) (W05.map .str) [a0, a1, a2, a3, a4, a5, some (.tup (ws.map .str)), none, none, none, none, none] = .ok (.lst ((due05 ws).map .str)) [a0, a1, a2, a3, a4, a5, some (.tup (ws.map .str)), none, none, none, none, none] := by
    refine comp_filter (fun y hy => ⟨[a0, a1, a2, a3, a4, some (.str y), some (.tup (ws.map .str)), none, none, none, none, none], ?_, rfl⟩) (by decide)
    have e : primD (T05 29).sup .any [.lst ((ws.map fun x => F05 x y).map .bl)] = some (.bl (ws.any fun x => F05 x y)) := by
      show (blsD _).map _ = _
      rw [any_strs]
      show some (D.bl (((ws.map fun x => F05 x y)).any id)) = _
      rw [List.any_map]
      rfl
    generalize (ws.any fun x => F05 x y) = k at e ⊢
    have c := c2 y hy
    cases k <;> simp [compT, turnR, eltR, bindT, wipe, getV, itemsOf, c, e, -List.map_map]
  simp [words05, itemsOf, c3, -List.map_map]
theorem k05plain' : ∀ ns : List Int, ns.length ≤ 63 → ∃ fin, callN P05 (29 + 1) 14 [.lst (ns.map .int)] = .ok (.bl true) fin := by
  intro ns hn
  rw [swap05]
  obtain ⟨s0, h0, fin0, q0⟩ := call_draw (P := P05') (n := 28) fn05_7 hn
  have d0 : ∀ e, callV (T05 29) 7 [.lst (ns.map .int)] e = .ok s0.d e := fun e => callV_ok q0
  have loop : ∃ (s : Dst) (a2 a3 a4 a5 : Option D), s.Ok ∧ forL (bodyF (T05 29) (.nm 2) turn05) (rangeL 0 5) [some (.lst (ns.map .int)), some s0.d, none, none, none, none, none, none, none, none, none, none] = .nx [some (.lst (ns.map .int)), some s.d, a2, a3, a4, a5, none, none, none, none, none, none] := by
    obtain ⟨e', q, s, a2, a3, a4, a5, hs, rfl⟩ := forL_inv (f := bodyF (T05 29) (.nm 2) turn05) (xs := rangeL 0 5) (e := [some (.lst (ns.map .int)), some s0.d, none, none, none, none, none, none, none, none, none, none])
      (I := fun e => ∃ (s : Dst) (a2 a3 a4 a5 : Option D), s.Ok ∧ e = [some (.lst (ns.map .int)), some s.d, a2, a3, a4, a5, none, none, none, none, none, none]) (by
        rintro x _ e ⟨s, a2, a3, a4, a5, hs, rfl⟩
        obtain ⟨s', b3, b4, b5, h', q⟩ := turn05_ok (L := some (.lst (ns.map .int))) (a2 := a2) (a3 := a3) (a4 := a4) (a5 := a5) hs x
        exact ⟨_, q, s', some x, b3, b4, b5, h', rfl⟩) ⟨s0, none, none, none, none, h0, rfl⟩
    exact ⟨s, a2, a3, a4, a5, hs, q⟩
  obtain ⟨s, a2, a3, a4, a5, hs, q⟩ := loop
  obtain ⟨s', ws, h', hw, hl, q2⟩ := drawn05 (L := some (.lst (ns.map .int))) (a2 := a2) (a3 := a3) (a4 := a4) (a5 := a5) hs
  have q3 := own05 (a0 := some (.lst (ns.map .int))) (a1 := some s'.d) (a2 := a2) (a3 := a3) (a4 := a4) (a5 := a5) hw (by omega)
  have q4 := told05 hw (by omega)
  have q5 := cmp_ne_self (due05_plain ws)
  refine ⟨[some (.lst (ns.map .int))], ?_⟩
  refine (call05 29 14 _).trans ?_
  rw [show P05'.fns[14]? = some ⟨1, 12, k05B14⟩ from rfl]
  show runFn _ _ _ = _
  have run : exs (T05 29) k05B14 [some (.lst (ns.map .int)), none, none, none, none, none, none, none, none, none, none, none] = .ret (.bl true) [some (.lst (ns.map .int)), some s'.d, a2, a3, a4, a5, some (.tup (ws.map .str)), some (.tup ((due05 ws).map .str)), some (.bl true), none, none, none] := by
    have r1 : ex (T05 29) (.asg (.nm 1) (.call 7 (.val (.v 0) .nil))) [some (.lst (ns.map .int)), none, none, none, none, none, none, none, none, none, none, none] = .nx [some (.lst (ns.map .int)), some s0.d, none, none, none, none, none, none, none, none, none, none] := by
      simp [getV, d0]
    have r2 : ∀ e, ex (T05 29) (.ite (.cmp .ne (.call 1 .nil) (.pr .tuple (.cons (.pr .sorted (.cons (.call 11 .nil) .nil)) .nil))) (.cons (.ret (.c (.bl false))) .nil) .nil) e = .nx e := fun e => by
      rw [ex_ite, tr_def, arrows05]
      simp
    have r3 : ex (T05 29) (.for_ (.nm 2) (.rg (.c (.int (5)))) turn05) [some (.lst (ns.map .int)), some s0.d, none, none, none, none, none, none, none, none, none, none] = .nx [some (.lst (ns.map .int)), some s.d, a2, a3, a4, a5, none, none, none, none, none, none] := by
      rw [ex_for]
      have i : ∀ e, evI (T05 29) (.rg (.c (.int (5)))) e = .ok (rangeL 0 5) e := fun e => by
        rw [evI, ev_c, rbind_ok]
        rfl
      rw [i, ofR_ok, q]
    have r4 : ex (T05 29) (.asg (.nm 6) (.pr .tuple (.cons (.comp [9, 11] (.last [9, 11] (.nm 11) (.rg (.call 8 (.io 1 (.val (.c (.int (5))) .nil)))) (.c (.bl true)) (.sub (.call 10 .nil) (.call 8 (.io 1 (.val (.c (.int (15))) .nil)))))) .nil))) [some (.lst (ns.map .int)), some s.d, a2, a3, a4, a5, none, none, none, none, none, none] = .nx [some (.lst (ns.map .int)), some s'.d, a2, a3, a4, a5, some (.tup (ws.map .str)), none, none, none, none, none] := by
      rw [ex_asg, ev_pr, evs_cons, q2]
      simp
    have r5 : ex (T05 29) (.asg (.nm 7) (.pr .tuple (.cons (.comp [9, 5] (.last [9, 5] (.nm 5) (.e (.call 10 .nil)) (.pr .any (.cons (.comp [9, 3] (.last [9, 3] (.nm 3) (.e (.v 6)) (.c (.bl true)) (.cmp .inn (.v 5) (.call 12 (.val (.v 3) .nil))))) .nil)) (.v 5))) .nil))) [some (.lst (ns.map .int)), some s'.d, a2, a3, a4, a5, some (.tup (ws.map .str)), none, none, none, none, none] = .nx [some (.lst (ns.map .int)), some s'.d, a2, a3, a4, a5, some (.tup (ws.map .str)), some (.tup ((due05 ws).map .str)), none, none, none, none] := by
      rw [ex_asg, q3]
      simp
    have r6 : ex (T05 29) (.ite (.cmp .ne (.call 13 (.val (.c (.int (2))) (.val (.v 6) (.val (.c (.str "")) .nil)))) (.v 7)) (.cons (.ret (.c (.bl false))) .nil) .nil) [some (.lst (ns.map .int)), some s'.d, a2, a3, a4, a5, some (.tup (ws.map .str)), some (.tup ((due05 ws).map .str)), none, none, none, none] = .nx [some (.lst (ns.map .int)), some s'.d, a2, a3, a4, a5, some (.tup (ws.map .str)), some (.tup ((due05 ws).map .str)), none, none, none, none] := by
      rw [ex_ite]
      simp [getV, q4, q5, -List.map_map]
    have r7 := end05_ok (some (.lst (ns.map .int))) (some s'.d) a2 a3 a4 a5 (some (.tup (ws.map .str))) (some (.tup ((due05 ws).map .str))) none none none none
    show exs (T05 29) (.cons _ (.cons _ (.cons (.for_ _ _ turn05) (.cons _ (.cons _ (.cons _ end05)))))) _ = _
    rw [exs_cons, r1, next_nx, exs_cons, r2, next_nx, exs_cons, r3, next_nx, exs_cons, r4, next_nx, exs_cons, r5, next_nx, exs_cons, r6, next_nx, r7]
  exact run_ret (T := T05 29) (fn := ⟨1, 12, k05B14⟩) (ds := [.lst (ns.map .int)]) rfl run
theorem k05plain : ∀ ns : List Int, ns.length ≤ 63 → ∃ fin, callN (mkPr k05ds 1000) (29 + 1) 14 [.lst (ns.map .int)] = .ok (.bl true) fin := k05plain'
end VK
set_option Elab.async false
set_option linter.all false
set_option maxRecDepth 100000
open PySem PySem.W PyProof.Rows L2
set_option maxHeartbeats 0 in
theorem PySem.Challenge.cw_viewkinds_k05_arrows_and_chains_holds : PySem.Challenge.rw_viewkinds_k05_arrows_and_chains.Holds := by
  w_on; o_law; k_head; (case hw => w_witness2)
  k_fill
  refine L2.walk_of (l := PySem.Challenge.rw_viewkinds_k05_arrows_and_chains) (n := 63) (k := 30) (x := "script") (CX := fun w => L2.CX PySem.Challenge.pw_viewkinds_k05_arrows_and_chains w) (sp := fun w => VK.spL _ 63) rfl (by decide) rfl ⟨rfl, by decide, by decide⟩ (fun w h Y => PySem.W.kIn_of Y) ?F (fun w H a ns hl ho hs => ⟨a, ns, rfl, hl, ho, hs, fun H' => rfl⟩) (fun w H s e s' h => VK.noCX h)
  case F =>
    intro w mg fa h KX G hmg
    refine' VK.law_ok (C := ?C) (li := 14) (fs := [?f0, ?f1, ?f2, ?f3, ?f4, ?f5, ?f6, ?f7, ?f8, ?f9, ?f10, ?f11, ?f12, ?f13, ?f14]) KX G hmg VK.k05ok (dl := VK.k05D14) rfl rfl rfl rfl VK.k05plain ⟨?d0, ?d1, ?d2, ?d3, ?d4, ?d5, ?d6, ?d7, ?d8, ?d9, ?d10, ?d11, ?d12, ?d13, ?d14, trivial⟩ ?cl ⟨?e0, ?e1, trivial⟩ ⟨?z0, ?z1, ?z2, ?z3, ?z4, ?z5, ?z6, ?z7, ?z8, ?z9, ?z10, ?z11, ?z12, ?z13, ?z14, ?z15, trivial⟩
    (case d0 => refine' VK.DefIn.of (name := "check_word") (st := VK.k05Top 5) ?a ?l ?c ?k; (case a => k_is); (case l => k_is); (case c => k_is); (case k => k_is))
    (case d1 => refine' VK.DefIn.of (name := "arrows") (st := VK.k05Top 8) ?a ?l ?c ?k; (case a => k_is); (case l => k_is); (case c => k_is); (case k => k_is))
    (case d2 => refine' VK.DefIn.of (name := "chain_between") (st := VK.k05Top 9) ?a ?l ?c ?k; (case a => k_is); (case l => k_is); (case c => k_is); (case k => k_is))
    (case d3 => refine' VK.DefIn.of (name := "check_pair") (st := VK.k05Top 10) ?a ?l ?c ?k; (case a => k_is); (case l => k_is); (case c => k_is); (case k => k_is))
    (case d4 => refine' VK.DefIn.of (name := "does_force") (st := VK.k05Top 11) ?a ?l ?c ?k; (case a => k_is); (case l => k_is); (case c => k_is); (case k => k_is))
    (case d5 => refine' VK.DefIn.of (name := "all_forced") (st := VK.k05Top 12) ?a ?l ?c ?k; (case a => k_is); (case l => k_is); (case c => k_is); (case k => k_is))
    (case d6 => refine' VK.DefIn.of (name := "closed") (st := VK.k05Top 13) ?a ?l ?c ?k; (case a => k_is); (case l => k_is); (case c => k_is); (case k => k_is))
    (case d7 => refine' VK.DefIn.of (name := "_law_draw") (st := VK.k05Top 15) ?a ?l ?c ?k; (case a => k_is); (case l => k_is); (case c => k_is); (case k => k_is))
    (case d8 => refine' VK.DefIn.of (name := "_law_take") (st := VK.k05Top 16) ?a ?l ?c ?k; (case a => k_is); (case l => k_is); (case c => k_is); (case k => k_is))
    (case d9 => refine' VK.DefIn.of (name := "_law_says") (st := VK.k05Top 17) ?a ?l ?c ?k; (case a => k_is); (case l => k_is); (case c => k_is); (case k => k_is))
    (case d10 => refine' VK.DefIn.of (name := "_law_words") (st := VK.k05Top 18) ?a ?l ?c ?k; (case a => k_is); (case l => k_is); (case c => k_is); (case k => k_is))
    (case d11 => refine' VK.DefIn.of (name := "_law_arrows") (st := VK.k05Top 19) ?a ?l ?c ?k; (case a => k_is); (case l => k_is); (case c => k_is); (case k => k_is))
    (case d12 => refine' VK.DefIn.of (name := "_law_reached") (st := VK.k05Top 20) ?a ?l ?c ?k; (case a => k_is); (case l => k_is); (case c => k_is); (case k => k_is))
    (case d13 => refine' VK.DefIn.of (name := "_law_told") (st := VK.k05Top 21) ?a ?l ?c ?k; (case a => k_is); (case l => k_is); (case c => k_is); (case k => k_is))
    (case d14 => refine' VK.DefIn.of (name := "law") (st := VK.k05Top 22) ?a ?l ?c ?k; (case a => k_is); (case l => k_is); (case c => k_is); (case k => k_is))
    (case cl => refine' VK.ClsIn.of (x := "Malformed") ?a ?e ?k ?s ?t ?i ?u; (case a => k_is); (case e => k_exc); (case k => k_is); (case s => k_is); (case t => k_is); (case i => k_is); (case u => first | rfl | k_is))
    (case e0 => refine' VK.CstIn.of (x := "ARROWS") ?a ?r; (case a => k_is); (case r => kernel_rfl))
    (case e1 => refine' VK.CstIn.of (x := "WORDS") ?a ?r; (case a => k_is); (case r => kernel_rfl))
    (case z0 => k_is)
    (case z1 => k_is)
    (case z2 => k_is)
    (case z3 => k_is)
    (case z4 => k_is)
    (case z5 => k_is)
    (case z6 => k_is)
    (case z7 => k_is)
    (case z8 => k_is)
    (case z9 => k_is)
    (case z10 => k_is)
    (case z11 => k_is)
    (case z12 => k_is)
    (case z13 => k_is)
    (case z14 => k_is)
    (case z15 => k_is)
